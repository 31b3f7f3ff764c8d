/- Contracts of the reference: signatures. -/
import Derived.Test.YtekkimfdcbgcoaaA1
namespace Go.Proofs.Ytekkimfdcbgcoaa.Am
open Go
set_option maxRecDepth 100000
set_option maxHeartbeats 4000000
set_option linter.unusedSimpArgs false
set_option linter.unusedVariables false
attribute [local go_sem ↓] bv_t bv_c ev_t ev_c put_same put_ne put_none kill_at pro_at lb_same lb_ne start_zero start_succ wpC_seq wpC_reg wpC_cond wpC_block wpC_skip wpC_exit wpC_ret thenQ_normal thenQ_exit thenQ_ret inBlk_normal inBlk_exit inBlk_ret wpS_nil wpS_step wpS_again wpS_guard wpO_mov wpO_load wpO_faddr wpO_nilCheck wpO_pick wpO_build wpO_bin wpO_eqb wpO_eqst wpO_eqnil wpO_not wpO_conv wpO_bytesStr wpO_iaddr wpO_idxStr wpO_field wpO_extract wpO_len wpO_lenStr wpO_cap wpO_min wpO_slice wpO_sliceStr wpO_alloc wpO_box wpO_store wpO_call wpO_callv wpO_mkfn wpO_buildSlice wpO_mkslice wpO_append wpO_appz proA_nil proA_cons tmpX_nil tmpX_tmp tmpX_cell doneB_normal doneB_ret agK_cons agK_nil agK_guard agG_tt agG_ff agG_tf agG_ft agG_undef pureB_load results_one results_two results_nil resBs_cons resBs_nil resB_tmp resB_cell
attribute [local go_sem] kill_v kill_lp_ne kill_lp_same pro_v pro_lp_same pro_lp_ne av_v av_lp optB_some optX_some valX_eq ldX_lp ldX_v faX_lp faX_v ncX_lp ncX_ptr ncX_fn boxK_one boxK_agg stL_some stK_lp_one stK_lp_agg stK_v_one stK_v_agg proM_v proM_lp callG_mk callVG_mk callvK_fn fnG_mk ptrsA_nil ptrsA_cons callH_some whenA_true whenA_false guardH_tt guardH_ff guardH_tf guardH_ft guardH_undef agV_one agV_agg lenO_sl lenStrO_str notO_bool pickO_bool convO_int eqbO_bool eqnilO_sl extractO_tup capO_sl minO_int loadL_one loadL_all storeL_eq fillA_nil fillA_one fillA_agg nat_ge neg_ge nat_lt neg_lt buildO bin_add bin_sub bin_mul bin_eql bin_neq bin_lss bin_leq bin_gtr bin_geq str_eql str_neq str_lss str_leq str_gtr str_geq retK_some endK_mk gcK_same gcK_int gcK_bool tupO_one tupO_agg rdy_self ib ii Option.map_none Option.map_some Option.some.injEq exists_eq_left' exists_eq_left ne_eq not_false_eq_true if_true if_false List.map_cons List.map_nil List.getElem?_cons_zero List.getElem?_cons_succ List.length_cons List.length_nil List.take_succ_cons List.take_zero List.take_nil List.drop_succ_cons List.drop_zero List.drop_nil List.cons_append List.nil_append List.append_nil List.set_cons_zero List.set_cons_succ Nat.zero_add forall_const true_and and_true and_self Bool.false_eq_true false_implies true_implies implies_true Bool.not_true Bool.not_false Bool.not_eq_true' Bool.not_eq_false' beq_self_eq_true Bool.bne_true Bool.bne_false
attribute [local go_sem] lenI lenS lenP lenQ lenB lenL lenT encI_0 encS_0 encP_0 encP_1 encQ_0 encQ_1 encQ_2 encQ_3 encB_0 encB_1 encL_0 encL_1 encT_0 encT_1
attribute [local go_sem low] whenA_bool guardH_bool
/-! spec.validParam -/
def L161_0 : List AStep := [⟨.box 35 (.t 0), (some 1), none, []⟩, ⟨.mov (.c (.bool false)), (some 2), none, []⟩]
theorem v161_0 : VS L161_0.eq_1 := rfl
def L161_1 : List AStep := [⟨.pick (.t 25) (.t 32) (.c (.bool false)), (some 33), none, []⟩, ⟨.mov (.t 33), (some 2), none, []⟩]
theorem v161_1 : VS L161_1.eq_1 := rfl
def L161_2 : List AStep := ⟨.not (.t 30), (some 31), (some (28, false)), []⟩ :: ⟨.pick (.t 28) (.c (.bool true)) (.t 31), (some 32), (some (25, true)), []⟩ :: L161_1
theorem v161_2 : VS L161_2.eq_1 := rfl
def L161_3 : List AStep := ⟨.faddr 2 (.t 1), (some 29), (some (28, false)), []⟩ :: ⟨.load 1 false (.t 29), (some 30), (some (28, false)), []⟩ :: L161_2
theorem v161_3 : VS L161_3.eq_1 := rfl
def L161_4 : List AStep := ⟨.call 159 [(.t 26)], (some 27), (some (25, true)), []⟩ :: ⟨.mov (.t 27), (some 28), (some (25, true)), []⟩ :: L161_3
theorem v161_4 : VS L161_4.eq_1 := rfl
def L161_5 : List AStep := ⟨.mov (.t 24), (some 25), none, []⟩ :: ⟨.load 4 true (.t 1), (some 26), (some (25, true)), []⟩ :: L161_4
theorem v161_5 : VS L161_5.eq_1 := rfl
def L161_6 : List AStep := ⟨.pick (.t 19) (.c (.bool true)) (.t 22), (some 23), (some (16, true)), []⟩ :: ⟨.pick (.t 16) (.t 23) (.c (.bool false)), (some 24), none, []⟩ :: L161_5
theorem v161_6 : VS L161_6.eq_1 := rfl
def L161_7 : List AStep := ⟨.load 1 false (.t 20), (some 21), (some (19, false)), []⟩ :: ⟨.bin .eql (.t 21) (.c (.int .i64 0)), (some 22), (some (19, false)), []⟩ :: L161_6
theorem v161_7 : VS L161_7.eq_1 := rfl
def L161_8 : List AStep := ⟨.mov (.t 18), (some 19), (some (16, true)), []⟩ :: ⟨.faddr 3 (.t 1), (some 20), (some (19, false)), []⟩ :: L161_7
theorem v161_8 : VS L161_8.eq_1 := rfl
def L161_9 : List AStep := ⟨.faddr 2 (.t 1), (some 17), (some (16, true)), []⟩ :: ⟨.load 1 false (.t 17), (some 18), (some (16, true)), []⟩ :: L161_8
theorem v161_9 : VS L161_9.eq_1 := rfl
def L161_10 : List AStep := ⟨.pick (.t 11) (.t 14) (.c (.bool false)), (some 15), none, []⟩ :: ⟨.mov (.t 15), (some 16), none, []⟩ :: L161_9
theorem v161_10 : VS L161_10.eq_1 := rfl
def L161_11 : List AStep := ⟨.load 1 false (.t 12), (some 13), (some (11, true)), []⟩ :: ⟨.call 148 [(.t 13)], (some 14), (some (11, true)), []⟩ :: L161_10
theorem v161_11 : VS L161_11.eq_1 := rfl
def L161_12 : List AStep := ⟨.mov (.t 10), (some 11), none, []⟩ :: ⟨.faddr 3 (.t 1), (some 12), (some (11, true)), []⟩ :: L161_11
theorem v161_12 : VS L161_12.eq_1 := rfl
def L161_13 : List AStep := ⟨.call 134 [(.t 8), (.c (.int .i64 0)), (.c (.int .i64 4))], (some 9), (some (6, true)), []⟩ :: ⟨.pick (.t 6) (.t 9) (.c (.bool false)), (some 10), none, []⟩ :: L161_12
theorem v161_13 : VS L161_13.eq_1 := rfl
def L161_14 : List AStep := ⟨.faddr 1 (.t 1), (some 7), (some (6, true)), []⟩ :: ⟨.load 1 false (.t 7), (some 8), (some (6, true)), []⟩ :: L161_13
theorem v161_14 : VS L161_14.eq_1 := rfl
def L161_15 : List AStep := ⟨.call 112 [(.t 4)], (some 5), none, []⟩ :: ⟨.mov (.t 5), (some 6), none, []⟩ :: L161_14
theorem v161_15 : VS L161_15.eq_1 := rfl
def L161_16 : List AStep := ⟨.faddr 0 (.t 1), (some 3), none, []⟩ :: ⟨.load 1 false (.t 3), (some 4), none, []⟩ :: L161_15
theorem v161_16 : VS L161_16.eq_1 := rfl
def C161_0 : ACode := .seq (.reg L161_16) .ret
theorem u161_0 : VC C161_0.eq_1 := rfl
def C161_1 : ACode := .seq (.reg L161_0) C161_0
theorem u161_1 : VC C161_1.eq_1 := rfl
def F161 : AFunc := ⟨34, [.tmp 2], C161_1⟩
theorem cF161 : compB Try.prog 161 = some F161 := by kernel_rfl
attribute [local go_sem ↓] u161_0 u161_1 v161_0 v161_1 v161_2 v161_3 v161_4 v161_5 v161_6 v161_7 v161_8 v161_9 v161_10 v161_11 v161_12 v161_13 v161_14 v161_15 v161_16
theorem c_validParam (p : Param) (h : H) (hn : p.name.size < 2 ^ 62) : bm Try.prog 161 [.agg (encQ p)] h = some (ib (okParam p), h) := by
  refine bm_eq cF161 ?_
  simp +contextual (maxSteps := 2000000) only [go_sem, Nat.reduceEqDiff, reduceCtorEq, Nat.reduceAdd, Nat.reduceLeDiff, F161, c_validName _ _ hn, c_inRange, c_validNumber, c_isSingle, okParam]
  (repeat' (first | refine And.intro ?_ ?_ | intro _)) <;> first | simp_all
/-! spec.findParam -/
def L162_0 : List AStep := [⟨.mov (.c (.int .i64 0)), (some 4), none, []⟩]
theorem v162_0 : VS L162_0.eq_1 := rfl
def L162_1 : List AStep := [⟨.mov (.c (.int .i64 0)), (some 5), none, []⟩]
theorem v162_1 : VS L162_1.eq_1 := rfl
def L162_2 : List AStep := [⟨.len (.t 7), (some 8), none, []⟩, ⟨.bin .lss (.t 6) (.t 8), (some 9), none, []⟩]
theorem v162_2 : VS L162_2.eq_1 := rfl
def L162_3 : List AStep := ⟨.mov (.t 5), (some 6), none, []⟩ :: ⟨.mov (.t 0), (some 7), none, []⟩ :: L162_2
theorem v162_3 : VS L162_3.eq_1 := rfl
def L162_4 : List AStep := [⟨.bin .eql (.t 16) (.t 17), (some 18), none, []⟩]
theorem v162_4 : VS L162_4.eq_1 := rfl
def L162_5 : List AStep := ⟨.load 1 false (.t 15), (some 16), none, []⟩ :: ⟨.mov (.t 1), (some 17), none, []⟩ :: L162_4
theorem v162_5 : VS L162_5.eq_1 := rfl
def L162_6 : List AStep := ⟨.iaddr 4 (.t 12) (.t 13), (some 14), none, []⟩ :: ⟨.faddr 0 (.t 14), (some 15), none, []⟩ :: L162_5
theorem v162_6 : VS L162_6.eq_1 := rfl
def L162_7 : List AStep := ⟨.mov (.t 0), (some 12), none, []⟩ :: ⟨.mov (.t 5), (some 13), none, []⟩ :: L162_6
theorem v162_7 : VS L162_7.eq_1 := rfl
def L162_8 : List AStep := [⟨.mov (.t 5), (some 19), none, []⟩, ⟨.mov (.t 19), (some 4), none, []⟩]
theorem v162_8 : VS L162_8.eq_1 := rfl
def L162_9 : List AStep := [⟨.mov (.t 11), (some 5), none, []⟩]
theorem v162_9 : VS L162_9.eq_1 := rfl
def L162_10 : List AStep := ⟨.mov (.t 5), (some 10), none, []⟩ :: ⟨.bin .add (.t 10) (.c (.int .i64 1)), (some 11), none, []⟩ :: L162_9
theorem v162_10 : VS L162_10.eq_1 := rfl
def L162_11 : List AStep := [⟨.mov (.c (.int .i64 (-1))), (some 4), none, []⟩]
theorem v162_11 : VS L162_11.eq_1 := rfl
def C162_0 : ACode := .cond (.t 9) .skip (.exit 0)
theorem u162_0 : VC C162_0.eq_1 := rfl
def C162_1 : ACode := .seq (.reg L162_3) C162_0
theorem u162_1 : VC C162_1.eq_1 := rfl
def C162_2 : ACode := .seq (.reg L162_8) .ret
theorem u162_2 : VC C162_2.eq_1 := rfl
def C162_3 : ACode := .cond (.t 18) C162_2 .skip
theorem u162_3 : VC C162_3.eq_1 := rfl
def C162_4 : ACode := .seq (.reg L162_7) C162_3
theorem u162_4 : VC C162_4.eq_1 := rfl
def C162_5 : ACode := .block 1 C162_4
theorem u162_5 : VC C162_5.eq_1 := rfl
def C162_6 : ACode := .seq C162_5 (.reg L162_10)
theorem u162_6 : VC C162_6.eq_1 := rfl
def C162_7 : ACode := .seq C162_1 C162_6
theorem u162_7 : VC C162_7.eq_1 := rfl
def C162_8 : ACode := .block 0 (.loop C162_7)
theorem u162_8 : VC C162_8.eq_1 := rfl
def C162_9 : ACode := .seq (.reg L162_1) C162_8
theorem u162_9 : VC C162_9.eq_1 := rfl
def C162_10 : ACode := .seq (.reg L162_11) .ret
theorem u162_10 : VC C162_10.eq_1 := rfl
def C162_11 : ACode := .seq C162_9 C162_10
theorem u162_11 : VC C162_11.eq_1 := rfl
def C162_12 : ACode := .seq (.reg L162_0) C162_11
theorem u162_12 : VC C162_12.eq_1 := rfl
def F162 : AFunc := ⟨20, [.tmp 4], C162_12⟩
theorem cF162 : compB Try.prog 162 = some F162 := by kernel_rfl
attribute [local go_sem ↓] u162_0 u162_1 u162_2 u162_3 u162_4 u162_5 u162_6 u162_7 u162_8 u162_9 u162_10 u162_11 u162_12 v162_0 v162_1 v162_2 v162_3 v162_4 v162_5 v162_6 v162_7 v162_8 v162_9 v162_10 v162_11
theorem c_findParam (l : List Param) (v : AV) (s : ByteArray) (h : H) (hl : SlQ h v l) (hn : smQ l) : bm Try.prog 162 [v, .one (.str s)] h = some (ii (paramAt l s), h) := by
  refine bm_eq cF162 ?_
  simp +contextual (maxSteps := 2000000) only [go_sem, Nat.reduceEqDiff, reduceCtorEq, Nat.reduceAdd, Nat.reduceLeDiff, F162]
  refine wpC_loop (fun i T L h' => h' = h ∧ T 0 = .v v ∧ T 1 = .v (.one (.str s)) ∧ T 5 = .v (.one (.int .i64 i)) ∧ Pre (fun p => decide (p.name = s)) false l i) l.length ?_ ?_ (Nat.zero_le _) ?_
  · rintro i T L h' hi ⟨rfl, h0, h1, h3, hp⟩
    simp +contextual (maxSteps := 2000000) only [go_sem, Nat.reduceEqDiff, reduceCtorEq, Nat.reduceAdd, Nat.reduceLeDiff, h0, h1, h3, hl.len, hl.iaddr hi, hl.fieldO hi, lt_true hi]
    (repeat' (first | refine And.intro ?_ ?_ | intro _)) <;> first | rfl | rw [wrap_next hi hn.len] | exact hp.next hi ‹_› | rw [paramAt, idx_hit hi hp ‹_›]
  · rintro T L h' ⟨rfl, h0, h1, h3, hp⟩
    simp +contextual (maxSteps := 2000000) only [go_sem, Nat.reduceEqDiff, reduceCtorEq, Nat.reduceAdd, Nat.reduceLeDiff, h0, h1, h3, hl.len, lt_false, paramAt, idx_none hp]
  · simp +contextual (maxSteps := 2000000) only [go_sem, Nat.reduceEqDiff, reduceCtorEq, Nat.reduceAdd, Nat.reduceLeDiff]
    (repeat' (first | refine And.intro ?_ ?_ | intro _)) <;> first | rfl | exact Pre.zero
/-! spec.kindAt -/
def L94_0 : List AStep := [⟨.mov (.c (.int .i64 0)), (some 4), none, []⟩]
theorem v94_0 : VS L94_0.eq_1 := rfl
def L94_1 : List AStep := [⟨.mov (.c (.int .i64 0)), (some 5), none, []⟩]
theorem v94_1 : VS L94_1.eq_1 := rfl
def L94_2 : List AStep := [⟨.len (.t 7), (some 8), none, []⟩, ⟨.bin .lss (.t 6) (.t 8), (some 9), none, []⟩]
theorem v94_2 : VS L94_2.eq_1 := rfl
def L94_3 : List AStep := ⟨.mov (.t 5), (some 6), none, []⟩ :: ⟨.mov (.t 0), (some 7), none, []⟩ :: L94_2
theorem v94_3 : VS L94_3.eq_1 := rfl
def L94_4 : List AStep := [⟨.bin .eql (.t 16) (.t 17), (some 18), none, []⟩]
theorem v94_4 : VS L94_4.eq_1 := rfl
def L94_5 : List AStep := ⟨.load 1 false (.t 15), (some 16), none, []⟩ :: ⟨.mov (.t 1), (some 17), none, []⟩ :: L94_4
theorem v94_5 : VS L94_5.eq_1 := rfl
def L94_6 : List AStep := ⟨.iaddr 4 (.t 12) (.t 13), (some 14), none, []⟩ :: ⟨.faddr 1 (.t 14), (some 15), none, []⟩ :: L94_5
theorem v94_6 : VS L94_6.eq_1 := rfl
def L94_7 : List AStep := ⟨.mov (.t 0), (some 12), none, []⟩ :: ⟨.mov (.t 5), (some 13), none, []⟩ :: L94_6
theorem v94_7 : VS L94_7.eq_1 := rfl
def L94_8 : List AStep := [⟨.mov (.t 5), (some 19), none, []⟩, ⟨.mov (.t 19), (some 4), none, []⟩]
theorem v94_8 : VS L94_8.eq_1 := rfl
def L94_9 : List AStep := [⟨.mov (.t 11), (some 5), none, []⟩]
theorem v94_9 : VS L94_9.eq_1 := rfl
def L94_10 : List AStep := ⟨.mov (.t 5), (some 10), none, []⟩ :: ⟨.bin .add (.t 10) (.c (.int .i64 1)), (some 11), none, []⟩ :: L94_9
theorem v94_10 : VS L94_10.eq_1 := rfl
def L94_11 : List AStep := [⟨.mov (.c (.int .i64 (-1))), (some 4), none, []⟩]
theorem v94_11 : VS L94_11.eq_1 := rfl
def C94_0 : ACode := .cond (.t 9) .skip (.exit 0)
theorem u94_0 : VC C94_0.eq_1 := rfl
def C94_1 : ACode := .seq (.reg L94_3) C94_0
theorem u94_1 : VC C94_1.eq_1 := rfl
def C94_2 : ACode := .seq (.reg L94_8) .ret
theorem u94_2 : VC C94_2.eq_1 := rfl
def C94_3 : ACode := .cond (.t 18) C94_2 .skip
theorem u94_3 : VC C94_3.eq_1 := rfl
def C94_4 : ACode := .seq (.reg L94_7) C94_3
theorem u94_4 : VC C94_4.eq_1 := rfl
def C94_5 : ACode := .block 1 C94_4
theorem u94_5 : VC C94_5.eq_1 := rfl
def C94_6 : ACode := .seq C94_5 (.reg L94_10)
theorem u94_6 : VC C94_6.eq_1 := rfl
def C94_7 : ACode := .seq C94_1 C94_6
theorem u94_7 : VC C94_7.eq_1 := rfl
def C94_8 : ACode := .block 0 (.loop C94_7)
theorem u94_8 : VC C94_8.eq_1 := rfl
def C94_9 : ACode := .seq (.reg L94_1) C94_8
theorem u94_9 : VC C94_9.eq_1 := rfl
def C94_10 : ACode := .seq (.reg L94_11) .ret
theorem u94_10 : VC C94_10.eq_1 := rfl
def C94_11 : ACode := .seq C94_9 C94_10
theorem u94_11 : VC C94_11.eq_1 := rfl
def C94_12 : ACode := .seq (.reg L94_0) C94_11
theorem u94_12 : VC C94_12.eq_1 := rfl
def F94 : AFunc := ⟨20, [.tmp 4], C94_12⟩
theorem cF94 : compB Try.prog 94 = some F94 := by kernel_rfl
attribute [local go_sem ↓] u94_0 u94_1 u94_2 u94_3 u94_4 u94_5 u94_6 u94_7 u94_8 u94_9 u94_10 u94_11 u94_12 v94_0 v94_1 v94_2 v94_3 v94_4 v94_5 v94_6 v94_7 v94_8 v94_9 v94_10 v94_11
theorem c_kindAt (l : List Param) (v : AV) (k : Int) (h : H) (hl : SlQ h v l) (hn : smQ l) : bm Try.prog 94 [v, .one (.int .i64 k)] h = some (ii (kindAt l k), h) := by
  refine bm_eq cF94 ?_
  simp +contextual (maxSteps := 2000000) only [go_sem, Nat.reduceEqDiff, reduceCtorEq, Nat.reduceAdd, Nat.reduceLeDiff, F94]
  refine wpC_loop (fun i T L h' => h' = h ∧ T 0 = .v v ∧ T 1 = .v (.one (.int .i64 k)) ∧ T 5 = .v (.one (.int .i64 i)) ∧ Pre (fun p => decide (p.kind = k)) false l i) l.length ?_ ?_ (Nat.zero_le _) ?_
  · rintro i T L h' hi ⟨rfl, h0, h1, h3, hp⟩
    simp +contextual (maxSteps := 2000000) only [go_sem, Nat.reduceEqDiff, reduceCtorEq, Nat.reduceAdd, Nat.reduceLeDiff, h0, h1, h3, hl.len, hl.iaddr hi, hl.fieldO hi, lt_true hi]
    (repeat' (first | refine And.intro ?_ ?_ | intro _)) <;> first | rfl | rw [wrap_next hi hn.len] | exact hp.next hi ‹_› | rw [kindAt, idx_hit hi hp ‹_›]
  · rintro T L h' ⟨rfl, h0, h1, h3, hp⟩
    simp +contextual (maxSteps := 2000000) only [go_sem, Nat.reduceEqDiff, reduceCtorEq, Nat.reduceAdd, Nat.reduceLeDiff, h0, h1, h3, hl.len, lt_false, kindAt, idx_none hp]
  · simp +contextual (maxSteps := 2000000) only [go_sem, Nat.reduceEqDiff, reduceCtorEq, Nat.reduceAdd, Nat.reduceLeDiff]
    (repeat' (first | refine And.intro ?_ ?_ | intro _)) <;> first | rfl | exact Pre.zero
/-! spec.placeCount -/
def L95_0 : List AStep := [⟨.box 38 (.t 0), (some 1), none, []⟩, ⟨.mov (.c (.int .i64 0)), (some 2), none, []⟩]
theorem v95_0 : VS L95_0.eq_1 := rfl
def L95_1 : List AStep := [⟨.mov (.c (.int .i64 0)), (some 3), none, []⟩]
theorem v95_1 : VS L95_1.eq_1 := rfl
def L95_2 : List AStep := [⟨.mov (.c (.int .i64 0)), (some 4), none, []⟩]
theorem v95_2 : VS L95_2.eq_1 := rfl
def L95_3 : List AStep := [⟨.bin .lss (.t 5) (.t 8), (some 9), none, []⟩]
theorem v95_3 : VS L95_3.eq_1 := rfl
def L95_4 : List AStep := ⟨.load 1 false (.t 6), (some 7), none, []⟩ :: ⟨.len (.t 7), (some 8), none, []⟩ :: L95_3
theorem v95_4 : VS L95_4.eq_1 := rfl
def L95_5 : List AStep := ⟨.mov (.t 4), (some 5), none, []⟩ :: ⟨.faddr 0 (.t 1), (some 6), none, []⟩ :: L95_4
theorem v95_5 : VS L95_5.eq_1 := rfl
def L95_6 : List AStep := [⟨.load 4 true (.t 15), (some 16), none, []⟩, ⟨.call 139 [(.t 16)], (some 17), none, []⟩]
theorem v95_6 : VS L95_6.eq_1 := rfl
def L95_7 : List AStep := ⟨.mov (.t 4), (some 14), none, []⟩ :: ⟨.iaddr 4 (.t 13) (.t 14), (some 15), none, []⟩ :: L95_6
theorem v95_7 : VS L95_7.eq_1 := rfl
def L95_8 : List AStep := ⟨.faddr 0 (.t 1), (some 12), none, []⟩ :: ⟨.load 1 false (.t 12), (some 13), none, []⟩ :: L95_7
theorem v95_8 : VS L95_8.eq_1 := rfl
def L95_9 : List AStep := [⟨.mov (.t 19), (some 3), none, []⟩]
theorem v95_9 : VS L95_9.eq_1 := rfl
def L95_10 : List AStep := ⟨.mov (.t 3), (some 18), none, []⟩ :: ⟨.bin .add (.t 18) (.c (.int .i64 1)), (some 19), none, []⟩ :: L95_9
theorem v95_10 : VS L95_10.eq_1 := rfl
def L95_11 : List AStep := [⟨.mov (.t 11), (some 4), none, []⟩]
theorem v95_11 : VS L95_11.eq_1 := rfl
def L95_12 : List AStep := ⟨.mov (.t 4), (some 10), none, []⟩ :: ⟨.bin .add (.t 10) (.c (.int .i64 1)), (some 11), none, []⟩ :: L95_11
theorem v95_12 : VS L95_12.eq_1 := rfl
def L95_13 : List AStep := [⟨.mov (.t 3), (some 20), none, []⟩, ⟨.mov (.t 20), (some 2), none, []⟩]
theorem v95_13 : VS L95_13.eq_1 := rfl
def C95_0 : ACode := .cond (.t 9) .skip (.exit 0)
theorem u95_0 : VC C95_0.eq_1 := rfl
def C95_1 : ACode := .seq (.reg L95_5) C95_0
theorem u95_1 : VC C95_1.eq_1 := rfl
def C95_2 : ACode := .cond (.t 17) (.reg L95_10) .skip
theorem u95_2 : VC C95_2.eq_1 := rfl
def C95_3 : ACode := .seq (.reg L95_8) C95_2
theorem u95_3 : VC C95_3.eq_1 := rfl
def C95_4 : ACode := .block 1 C95_3
theorem u95_4 : VC C95_4.eq_1 := rfl
def C95_5 : ACode := .seq C95_4 (.reg L95_12)
theorem u95_5 : VC C95_5.eq_1 := rfl
def C95_6 : ACode := .seq C95_1 C95_5
theorem u95_6 : VC C95_6.eq_1 := rfl
def C95_7 : ACode := .block 0 (.loop C95_6)
theorem u95_7 : VC C95_7.eq_1 := rfl
def C95_8 : ACode := .seq (.reg L95_2) C95_7
theorem u95_8 : VC C95_8.eq_1 := rfl
def C95_9 : ACode := .seq (.reg L95_13) .ret
theorem u95_9 : VC C95_9.eq_1 := rfl
def C95_10 : ACode := .seq C95_8 C95_9
theorem u95_10 : VC C95_10.eq_1 := rfl
def C95_11 : ACode := .seq (.reg L95_1) C95_10
theorem u95_11 : VC C95_11.eq_1 := rfl
def C95_12 : ACode := .seq (.reg L95_0) C95_11
theorem u95_12 : VC C95_12.eq_1 := rfl
def F95 : AFunc := ⟨21, [.tmp 2], C95_12⟩
theorem cF95 : compB Try.prog 95 = some F95 := by kernel_rfl
attribute [local go_sem ↓] u95_0 u95_1 u95_2 u95_3 u95_4 u95_5 u95_6 u95_7 u95_8 u95_9 u95_10 u95_11 u95_12 v95_0 v95_1 v95_2 v95_3 v95_4 v95_5 v95_6 v95_7 v95_8 v95_9 v95_10 v95_11 v95_12 v95_13
theorem c_placeCount (l : List Param) (pv : CV) (h : H) (hl : SlQ h (.one pv) l) (hn : smQ l) : bm Try.prog 95 [.agg [pv]] h = some (ii (l.countP byPlace), h) := by
  refine bm_eq cF95 ?_
  simp +contextual (maxSteps := 2000000) only [go_sem, Nat.reduceEqDiff, reduceCtorEq, Nat.reduceAdd, Nat.reduceLeDiff, F95]
  refine wpC_loop (fun i T L h' => h' = h ∧ T 1 = .lp 1 0 ∧ (L 1).2 = [pv] ∧ T 3 = .v (.one (.int .i64 (cnt byPlace l i))) ∧ T 4 = .v (.one (.int .i64 i))) l.length ?_ ?_ (Nat.zero_le _) ?_
  · rintro i T L h' hi ⟨rfl, t1, l1, t3, t4⟩
    have b1 := cnt_le (p := byPlace) (l := l) (i := i)
    have b2 := hn.len
    simp +contextual (maxSteps := 2000000) only [go_sem, Nat.reduceEqDiff, reduceCtorEq, Nat.reduceAdd, Nat.reduceLeDiff, t1, l1, t3, t4, hl.len, hl.iaddr hi, hl.whole hi, c_byPlace, lt_true hi, cnt_next hi]
    (repeat' (first | refine And.intro ?_ ?_ | intro _)) <;> first | rfl | rw [wrap_next hi hn.len] | (rw [i64_wrap (by omega) (by omega)]; simp_all) | simp_all
  · rintro T L h' ⟨rfl, t1, l1, t3, t4⟩
    simp +contextual (maxSteps := 2000000) only [go_sem, Nat.reduceEqDiff, reduceCtorEq, Nat.reduceAdd, Nat.reduceLeDiff, t1, l1, t3, t4, hl.len, lt_false, cnt_all]
  · simp +contextual (maxSteps := 2000000) only [go_sem, Nat.reduceEqDiff, reduceCtorEq, Nat.reduceAdd, Nat.reduceLeDiff, cnt_zero]
    (repeat' (first | refine And.intro ?_ ?_ | intro _)) <;> first | rfl
/-! spec.validParams -/
def L138_0 : List AStep := [⟨.mov (.c (.bool false)), (some 2), none, []⟩]
theorem v138_0 : VS L138_0.eq_1 := rfl
def L138_1 : List AStep := [⟨.mov (.c (.int .i64 0)), (some 3), none, []⟩]
theorem v138_1 : VS L138_1.eq_1 := rfl
def L138_2 : List AStep := [⟨.len (.t 7), (some 8), none, []⟩, ⟨.bin .lss (.t 6) (.t 8), (some 9), none, []⟩]
theorem v138_2 : VS L138_2.eq_1 := rfl
def L138_3 : List AStep := ⟨.mov (.t 3), (some 6), none, []⟩ :: ⟨.mov (.t 0), (some 7), none, []⟩ :: L138_2
theorem v138_3 : VS L138_3.eq_1 := rfl
def L138_4 : List AStep := [⟨.alloc 35 [(.str (strOfNums [])), (.int .i64 0), (.bool false), (.int .i64 0)], (some 4), none, []⟩, ⟨.store 4 (.t 4) (.t 15), none, none, []⟩]
theorem v138_4 : VS L138_4.eq_1 := rfl
def L138_5 : List AStep := ⟨.iaddr 4 (.t 12) (.t 13), (some 14), none, []⟩ :: ⟨.load 4 true (.t 14), (some 15), none, []⟩ :: L138_4
theorem v138_5 : VS L138_5.eq_1 := rfl
def L138_6 : List AStep := ⟨.mov (.t 0), (some 12), none, []⟩ :: ⟨.mov (.t 3), (some 13), none, []⟩ :: L138_5
theorem v138_6 : VS L138_6.eq_1 := rfl
def L138_7 : List AStep := [⟨.bin .geq (.t 25) (.c (.int .i64 0)), (some 26), (some (19, false)), []⟩, ⟨.pick (.t 19) (.c (.bool true)) (.t 26), (some 27), none, []⟩]
theorem v138_7 : VS L138_7.eq_1 := rfl
def L138_8 : List AStep := ⟨.load 1 false (.t 23), (some 24), (some (19, false)), []⟩ :: ⟨.call 162 [(.t 22), (.t 24)], (some 25), (some (19, false)), []⟩ :: L138_7
theorem v138_8 : VS L138_8.eq_1 := rfl
def L138_9 : List AStep := ⟨.slice 35 4 (.t 20) none (some (.t 21)) none, (some 22), (some (19, false)), []⟩ :: ⟨.faddr 0 (.t 4), (some 23), (some (19, false)), []⟩ :: L138_8
theorem v138_9 : VS L138_9.eq_1 := rfl
def L138_10 : List AStep := ⟨.mov (.t 0), (some 20), (some (19, false)), []⟩ :: ⟨.mov (.t 3), (some 21), (some (19, false)), []⟩ :: L138_9
theorem v138_10 : VS L138_10.eq_1 := rfl
def L138_11 : List AStep := ⟨.not (.t 17), (some 18), none, []⟩ :: ⟨.mov (.t 18), (some 19), none, []⟩ :: L138_10
theorem v138_11 : VS L138_11.eq_1 := rfl
def L138_12 : List AStep := ⟨.load 4 true (.t 4), (some 16), none, []⟩ :: ⟨.call 161 [(.t 16)], (some 17), none, []⟩ :: L138_11
theorem v138_12 : VS L138_12.eq_1 := rfl
def L138_13 : List AStep := [⟨.mov (.c (.bool false)), (some 2), none, []⟩]
theorem v138_13 : VS L138_13.eq_1 := rfl
def L138_14 : List AStep := [⟨.mov (.t 3), (some 28), none, []⟩, ⟨.bin .eql (.t 28) (.c (.int .i64 0)), (some 29), none, []⟩]
theorem v138_14 : VS L138_14.eq_1 := rfl
def L138_15 : List AStep := [⟨.store 4 (.t 5) (.t 34), none, none, []⟩]
theorem v138_15 : VS L138_15.eq_1 := rfl
def L138_16 : List AStep := ⟨.load 4 true (.t 33), (some 34), none, []⟩ :: ⟨.alloc 35 [(.str (strOfNums [])), (.int .i64 0), (.bool false), (.int .i64 0)], (some 5), none, []⟩ :: L138_15
theorem v138_16 : VS L138_16.eq_1 := rfl
def L138_17 : List AStep := ⟨.bin .sub (.t 31) (.c (.int .i64 1)), (some 32), none, []⟩ :: ⟨.iaddr 4 (.t 30) (.t 32), (some 33), none, []⟩ :: L138_16
theorem v138_17 : VS L138_17.eq_1 := rfl
def L138_18 : List AStep := ⟨.mov (.t 0), (some 30), none, []⟩ :: ⟨.mov (.t 3), (some 31), none, []⟩ :: L138_17
theorem v138_18 : VS L138_18.eq_1 := rfl
def L138_19 : List AStep := [⟨.pick (.t 59) (.t 62) (.c (.bool false)), (some 63), (some (52, false)), []⟩, ⟨.pick (.t 52) (.c (.bool true)) (.t 63), (some 64), none, []⟩]
theorem v138_19 : VS L138_19.eq_1 := rfl
def L138_20 : List AStep := ⟨.load 1 false (.t 60), (some 61), (some (59, true)), []⟩ :: ⟨.not (.t 61), (some 62), (some (59, true)), []⟩ :: L138_19
theorem v138_20 : VS L138_20.eq_1 := rfl
def L138_21 : List AStep := ⟨.mov (.t 58), (some 59), (some (52, false)), []⟩ :: ⟨.faddr 2 (.t 4), (some 60), (some (59, true)), []⟩ :: L138_20
theorem v138_21 : VS L138_21.eq_1 := rfl
def L138_22 : List AStep := ⟨.load 1 false (.t 56), (some 57), (some (55, true)), []⟩ :: ⟨.pick (.t 55) (.t 57) (.c (.bool false)), (some 58), (some (52, false)), []⟩ :: L138_21
theorem v138_22 : VS L138_22.eq_1 := rfl
def L138_23 : List AStep := ⟨.mov (.t 54), (some 55), (some (52, false)), []⟩ :: ⟨.faddr 2 (.t 5), (some 56), (some (55, true)), []⟩ :: L138_22
theorem v138_23 : VS L138_23.eq_1 := rfl
def L138_24 : List AStep := ⟨.load 4 true (.t 4), (some 53), (some (52, false)), []⟩ :: ⟨.call 139 [(.t 53)], (some 54), (some (52, false)), []⟩ :: L138_23
theorem v138_24 : VS L138_24.eq_1 := rfl
def L138_25 : List AStep := ⟨.pick (.t 40) (.c (.bool true)) (.t 50), (some 51), none, []⟩ :: ⟨.mov (.t 51), (some 52), none, []⟩ :: L138_24
theorem v138_25 : VS L138_25.eq_1 := rfl
def L138_26 : List AStep := ⟨.not (.t 48), (some 49), (some (46, true)), []⟩ :: ⟨.pick (.t 46) (.t 49) (.c (.bool false)), (some 50), (some (40, false)), []⟩ :: L138_25
theorem v138_26 : VS L138_26.eq_1 := rfl
def L138_27 : List AStep := ⟨.load 4 true (.t 4), (some 47), (some (46, true)), []⟩ :: ⟨.call 159 [(.t 47)], (some 48), (some (46, true)), []⟩ :: L138_26
theorem v138_27 : VS L138_27.eq_1 := rfl
def L138_28 : List AStep := ⟨.bin .eql (.t 42) (.t 44), (some 45), (some (40, false)), []⟩ :: ⟨.mov (.t 45), (some 46), (some (40, false)), []⟩ :: L138_27
theorem v138_28 : VS L138_28.eq_1 := rfl
def L138_29 : List AStep := ⟨.faddr 1 (.t 5), (some 43), (some (40, false)), []⟩ :: ⟨.load 1 false (.t 43), (some 44), (some (40, false)), []⟩ :: L138_28
theorem v138_29 : VS L138_29.eq_1 := rfl
def L138_30 : List AStep := ⟨.faddr 1 (.t 4), (some 41), (some (40, false)), []⟩ :: ⟨.load 1 false (.t 41), (some 42), (some (40, false)), []⟩ :: L138_29
theorem v138_30 : VS L138_30.eq_1 := rfl
def L138_31 : List AStep := ⟨.bin .lss (.t 36) (.t 38), (some 39), none, []⟩ :: ⟨.mov (.t 39), (some 40), none, []⟩ :: L138_30
theorem v138_31 : VS L138_31.eq_1 := rfl
def L138_32 : List AStep := ⟨.faddr 1 (.t 5), (some 37), none, []⟩ :: ⟨.load 1 false (.t 37), (some 38), none, []⟩ :: L138_31
theorem v138_32 : VS L138_32.eq_1 := rfl
def L138_33 : List AStep := ⟨.faddr 1 (.t 4), (some 35), none, []⟩ :: ⟨.load 1 false (.t 35), (some 36), none, []⟩ :: L138_32
theorem v138_33 : VS L138_33.eq_1 := rfl
def L138_34 : List AStep := [⟨.mov (.c (.bool false)), (some 2), none, []⟩]
theorem v138_34 : VS L138_34.eq_1 := rfl
def L138_35 : List AStep := [⟨.mov (.t 11), (some 3), none, []⟩]
theorem v138_35 : VS L138_35.eq_1 := rfl
def L138_36 : List AStep := ⟨.mov (.t 3), (some 10), none, []⟩ :: ⟨.bin .add (.t 10) (.c (.int .i64 1)), (some 11), none, []⟩ :: L138_35
theorem v138_36 : VS L138_36.eq_1 := rfl
def L138_37 : List AStep := [⟨.bin .leq (.t 66) (.c (.int .i64 8)), (some 67), none, []⟩, ⟨.mov (.t 67), (some 2), none, []⟩]
theorem v138_37 : VS L138_37.eq_1 := rfl
def L138_38 : List AStep := ⟨.mov (.t 0), (some 65), none, []⟩ :: ⟨.len (.t 65), (some 66), none, []⟩ :: L138_37
theorem v138_38 : VS L138_38.eq_1 := rfl
def C138_0 : ACode := .cond (.t 9) .skip (.exit 0)
theorem u138_0 : VC C138_0.eq_1 := rfl
def C138_1 : ACode := .seq (.reg L138_3) C138_0
theorem u138_1 : VC C138_1.eq_1 := rfl
def C138_2 : ACode := .seq (.reg L138_13) .ret
theorem u138_2 : VC C138_2.eq_1 := rfl
def C138_3 : ACode := .cond (.t 27) C138_2 .skip
theorem u138_3 : VC C138_3.eq_1 := rfl
def C138_4 : ACode := .seq (.reg L138_12) C138_3
theorem u138_4 : VC C138_4.eq_1 := rfl
def C138_5 : ACode := .cond (.t 29) (.exit 1) .skip
theorem u138_5 : VC C138_5.eq_1 := rfl
def C138_6 : ACode := .seq (.reg L138_14) C138_5
theorem u138_6 : VC C138_6.eq_1 := rfl
def C138_7 : ACode := .seq (.reg L138_34) .ret
theorem u138_7 : VC C138_7.eq_1 := rfl
def C138_8 : ACode := .cond (.t 64) C138_7 .skip
theorem u138_8 : VC C138_8.eq_1 := rfl
def C138_9 : ACode := .seq (.reg L138_33) C138_8
theorem u138_9 : VC C138_9.eq_1 := rfl
def C138_10 : ACode := .seq (.reg L138_18) C138_9
theorem u138_10 : VC C138_10.eq_1 := rfl
def C138_11 : ACode := .seq C138_6 C138_10
theorem u138_11 : VC C138_11.eq_1 := rfl
def C138_12 : ACode := .seq C138_4 C138_11
theorem u138_12 : VC C138_12.eq_1 := rfl
def C138_13 : ACode := .seq (.reg L138_6) C138_12
theorem u138_13 : VC C138_13.eq_1 := rfl
def C138_14 : ACode := .block 1 C138_13
theorem u138_14 : VC C138_14.eq_1 := rfl
def C138_15 : ACode := .seq C138_14 (.reg L138_36)
theorem u138_15 : VC C138_15.eq_1 := rfl
def C138_16 : ACode := .seq C138_1 C138_15
theorem u138_16 : VC C138_16.eq_1 := rfl
def C138_17 : ACode := .block 0 (.loop C138_16)
theorem u138_17 : VC C138_17.eq_1 := rfl
def C138_18 : ACode := .seq (.reg L138_1) C138_17
theorem u138_18 : VC C138_18.eq_1 := rfl
def C138_19 : ACode := .seq (.reg L138_38) .ret
theorem u138_19 : VC C138_19.eq_1 := rfl
def C138_20 : ACode := .seq C138_18 C138_19
theorem u138_20 : VC C138_20.eq_1 := rfl
def C138_21 : ACode := .seq (.reg L138_0) C138_20
theorem u138_21 : VC C138_21.eq_1 := rfl
def F138 : AFunc := ⟨68, [.tmp 2], C138_21⟩
theorem cF138 : compB Try.prog 138 = some F138 := by kernel_rfl
attribute [local go_sem ↓] u138_0 u138_1 u138_2 u138_3 u138_4 u138_5 u138_6 u138_7 u138_8 u138_9 u138_10 u138_11 u138_12 u138_13 u138_14 u138_15 u138_16 u138_17 u138_18 u138_19 u138_20 u138_21 v138_0 v138_1 v138_2 v138_3 v138_4 v138_5 v138_6 v138_7 v138_8 v138_9 v138_10 v138_11 v138_12 v138_13 v138_14 v138_15 v138_16 v138_17 v138_18 v138_19 v138_20 v138_21 v138_22 v138_23 v138_24 v138_25 v138_26 v138_27 v138_28 v138_29 v138_30 v138_31 v138_32 v138_33 v138_34 v138_35 v138_36 v138_37 v138_38
theorem c_validParams (l : List Param) (v : AV) (h : H) (hl : SlQ h v l) (hn : smQ l) : bm Try.prog 138 [v] h = some (ib (okSig l), h) := by
  refine bm_eq cF138 ?_
  simp +contextual (maxSteps := 2000000) only [go_sem, Nat.reduceEqDiff, reduceCtorEq, Nat.reduceAdd, Nat.reduceLeDiff, F138]
  refine wpC_loop (fun i T L h' => h' = h ∧ T 0 = .v v ∧ T 3 = .v (.one (.int .i64 i)) ∧ Upto (stepAt l) i) l.length ?_ ?_ (Nat.zero_le _) ?_
  · rintro i T L h' hi ⟨rfl, t0, t3, hu⟩
    obtain ⟨v', e1, s1⟩ := hl.takeO (i := i) (by omega) (kd := .i64)
    have e2 : decide (paramAt (l.take i) l[i].name ≥ 0) = !(newAt Param.name l i) := newAt_ge hi
    cases i with
    | zero =>
      have e3 := stepAt_zero hi
      simp only [List.take_zero] at e1 e2 s1
      have e4 : decide (((0 : Nat) : Int) = 0) = true := rfl
      simp +contextual (maxSteps := 2000000) only [go_sem, Nat.reduceEqDiff, reduceCtorEq, Nat.reduceAdd, Nat.reduceLeDiff, e4, List.take_zero, t0, t3, hl.len, hl.iaddr hi, hl.whole hi, lt_true hi, e1, e2, c_findParam _ _ _ _ s1 (hn.take 0), c_validParam _ _ (hn.at hi)]
      (repeat' (first | refine And.intro ?_ ?_ | intro _)) <;> first | rfl | rw [wrap_next hi hn.len] | exact hu.next (by rw [e3]; simp_all) | (rw [okSig_not hi (by rw [e3]; simp_all)]) | simp_all
    | succ j =>
      have e3 := stepAt_succ hi
      have hj : j < l.length := by omega
      have e4 : decide (((j + 1 : Nat) : Int) = 0) = false := decide_eq_false (by omega)
      simp +contextual (maxSteps := 2000000) only [go_sem, Nat.reduceEqDiff, reduceCtorEq, Nat.reduceAdd, Nat.reduceLeDiff, e4, t0, t3, hl.len, hl.iaddr hi, hl.whole hi, lt_true hi, e1, e2, c_findParam _ _ _ _ s1 (hn.take _), c_validParam _ _ (hn.at hi), wrap_pred (show j < 2 ^ 62 from Nat.lt_trans (Nat.lt_succ_self j) (Nat.lt_trans hi hn.len)), hl.iaddr hj, hl.whole hj, c_isSingle, c_byPlace]
      (repeat' (first | refine And.intro ?_ ?_ | intro _)) <;> first | rfl | rw [wrap_next hi hn.len] | exact hu.next (by rw [e3]; simp_all [follows]) | (rw [okSig_not hi (by rw [e3]; simp_all [follows])]) | simp_all
  · rintro T L h' ⟨rfl, t0, t3, hu⟩
    simp +contextual (maxSteps := 2000000) only [go_sem, Nat.reduceEqDiff, reduceCtorEq, Nat.reduceAdd, Nat.reduceLeDiff, t0, t3, hl.len, lt_false, okSig_of hu]
  · simp +contextual (maxSteps := 2000000) only [go_sem, Nat.reduceEqDiff, reduceCtorEq, Nat.reduceAdd, Nat.reduceLeDiff]
    (repeat' (first | refine And.intro ?_ ?_ | intro _)) <;> first | rfl | exact Upto.zero
/-! spec.validSignature -/
def L93_0 : List AStep := [⟨.box 38 (.t 0), (some 1), none, []⟩, ⟨.mov (.c (.bool false)), (some 2), none, []⟩]
theorem v93_0 : VS L93_0.eq_1 := rfl
def L93_1 : List AStep := [⟨.call 138 [(.t 4)], (some 5), none, []⟩, ⟨.mov (.t 5), (some 2), none, []⟩]
theorem v93_1 : VS L93_1.eq_1 := rfl
def L93_2 : List AStep := ⟨.faddr 0 (.t 1), (some 3), none, []⟩ :: ⟨.load 1 false (.t 3), (some 4), none, []⟩ :: L93_1
theorem v93_2 : VS L93_2.eq_1 := rfl
def C93_0 : ACode := .seq (.reg L93_2) .ret
theorem u93_0 : VC C93_0.eq_1 := rfl
def C93_1 : ACode := .seq (.reg L93_0) C93_0
theorem u93_1 : VC C93_1.eq_1 := rfl
def F93 : AFunc := ⟨6, [.tmp 2], C93_1⟩
theorem cF93 : compB Try.prog 93 = some F93 := by kernel_rfl
attribute [local go_sem ↓] u93_0 u93_1 v93_0 v93_1 v93_2
theorem c_validSignature (l : List Param) (pv : CV) (h : H) (hl : SlQ h (.one pv) l) (hn : smQ l) : bm Try.prog 93 [.agg [pv]] h = some (ib (okSig l), h) := by
  refine bm_eq cF93 ?_
  simp +contextual (maxSteps := 2000000) only [go_sem, Nat.reduceEqDiff, reduceCtorEq, Nat.reduceAdd, Nat.reduceLeDiff, F93, c_validParams _ _ _ hl hn]
end Go.Proofs.Ytekkimfdcbgcoaa.Am
