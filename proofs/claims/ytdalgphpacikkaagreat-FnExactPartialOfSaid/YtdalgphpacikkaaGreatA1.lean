/- Contracts of the reference: numbers, names, pairs, flat calls and signatures that are valid. -/
import Derived.Test.YtdalgphpacikkaaGreatDat
namespace Go.Proofs.YtdalgphpacikkaaGreat.Am
open Go
set_option maxRecDepth 100000
set_option maxHeartbeats 4000000
set_option linter.unusedSimpArgs false
set_option linter.unusedVariables false
attribute [local go_sem ↓] bv_t bv_c ev_t ev_c put_same put_ne put_none kill_at pro_at lb_same lb_ne start_zero start_succ wpC_seq wpC_reg wpC_cond wpC_block wpC_skip wpC_exit wpC_ret thenQ_normal thenQ_exit thenQ_ret inBlk_normal inBlk_exit inBlk_ret wpS_nil wpS_step wpS_again wpS_guard wpO_mov wpO_load wpO_faddr wpO_nilCheck wpO_pick wpO_build wpO_bin wpO_eqb wpO_eqst wpO_eqnil wpO_not wpO_conv wpO_bytesStr wpO_iaddr wpO_idxStr wpO_field wpO_extract wpO_len wpO_lenStr wpO_cap wpO_min wpO_slice wpO_sliceStr wpO_alloc wpO_box wpO_store wpO_call wpO_callv wpO_mkfn wpO_buildSlice wpO_mkslice wpO_append wpO_appz proA_nil proA_cons tmpX_nil tmpX_tmp tmpX_cell doneB_normal doneB_ret agK_cons agK_nil agK_guard agG_tt agG_ff agG_tf agG_ft agG_undef pureB_load results_one results_two results_nil resBs_cons resBs_nil resB_tmp resB_cell
attribute [local go_sem] kill_v kill_lp_ne kill_lp_same pro_v pro_lp_same pro_lp_ne av_v av_lp optB_some optX_some valX_eq ldX_lp ldX_v faX_lp faX_v ncX_lp ncX_ptr ncX_fn boxK_one boxK_agg stL_some stK_lp_one stK_lp_agg stK_v_one stK_v_agg proM_v proM_lp callG_mk callVG_mk callvK_fn fnG_mk ptrsA_nil ptrsA_cons callH_some whenA_true whenA_false guardH_tt guardH_ff guardH_tf guardH_ft guardH_undef agV_one agV_agg lenO_sl lenStrO_str notO_bool pickO_bool convO_int eqbO_bool eqnilO_sl extractO_tup capO_sl minO_int loadL_one loadL_all storeL_eq fillA_nil fillA_one fillA_agg nat_ge neg_ge nat_lt neg_lt buildO bin_add bin_sub bin_mul bin_eql bin_neq bin_lss bin_leq bin_gtr bin_geq str_eql str_neq str_lss str_leq str_gtr str_geq retK_some endK_mk gcK_same gcK_int gcK_bool tupO_one tupO_agg rdy_self ib ii Option.map_none Option.map_some Option.some.injEq exists_eq_left' exists_eq_left ne_eq not_false_eq_true if_true if_false List.map_cons List.map_nil List.getElem?_cons_zero List.getElem?_cons_succ List.length_cons List.length_nil List.take_succ_cons List.take_zero List.take_nil List.drop_succ_cons List.drop_zero List.drop_nil List.cons_append List.nil_append List.append_nil List.set_cons_zero List.set_cons_succ Nat.zero_add forall_const true_and and_true and_self Bool.false_eq_true false_implies true_implies implies_true Bool.not_true Bool.not_false Bool.not_eq_true' Bool.not_eq_false' beq_self_eq_true Bool.bne_true Bool.bne_false
attribute [local go_sem] lenI lenS lenP lenQ lenB lenL lenT encI_0 encS_0 encP_0 encP_1 encQ_0 encQ_1 encQ_2 encQ_3 encB_0 encB_1 encL_0 encL_1 encT_0 encT_1
attribute [local go_sem low] whenA_bool guardH_bool
/-! spec.inRange -/
def L97_0 : List AStep := [⟨.mov (.c (.bool false)), (some 6), none, []⟩]
theorem v97_0 : VS L97_0.eq_1 := rfl
def L97_1 : List AStep := [⟨.mov (.t 14), (some 6), none, []⟩]
theorem v97_1 : VS L97_1.eq_1 := rfl
def L97_2 : List AStep := ⟨.bin .leq (.t 11) (.t 12), (some 13), (some (10, true)), []⟩ :: ⟨.pick (.t 10) (.t 13) (.c (.bool false)), (some 14), none, []⟩ :: L97_1
theorem v97_2 : VS L97_2.eq_1 := rfl
def L97_3 : List AStep := ⟨.mov (.t 0), (some 11), (some (10, true)), []⟩ :: ⟨.mov (.t 2), (some 12), (some (10, true)), []⟩ :: L97_2
theorem v97_3 : VS L97_3.eq_1 := rfl
def L97_4 : List AStep := ⟨.bin .leq (.t 7) (.t 8), (some 9), none, []⟩ :: ⟨.mov (.t 9), (some 10), none, []⟩ :: L97_3
theorem v97_4 : VS L97_4.eq_1 := rfl
def L97_5 : List AStep := ⟨.mov (.t 1), (some 7), none, []⟩ :: ⟨.mov (.t 0), (some 8), none, []⟩ :: L97_4
theorem v97_5 : VS L97_5.eq_1 := rfl
def C97_0 : ACode := .seq (.reg L97_5) .ret
theorem u97_0 : VC C97_0.eq_1 := rfl
def C97_1 : ACode := .seq (.reg L97_0) C97_0
theorem u97_1 : VC C97_1.eq_1 := rfl
def F97 : AFunc := ⟨15, [.tmp 6], C97_1⟩
theorem cF97 : compB Tryz.prog 97 = some F97 := by kernel_rfl
attribute [local go_sem ↓] u97_0 u97_1 v97_0 v97_1 v97_2 v97_3 v97_4 v97_5
theorem c_inRange (n lo hi : Int) (h : H) : bm Tryz.prog 97 [.one (.int .i64 n), .one (.int .i64 lo), .one (.int .i64 hi)] h = some (ib (decide (lo ≤ n) && decide (n ≤ hi)), h) := by
  refine bm_eq cF97 ?_
  simp +contextual (maxSteps := 2000000) only [go_sem, Nat.reduceEqDiff, reduceCtorEq, Nat.reduceAdd, Nat.reduceLeDiff, F97]
  cases decide (lo ≤ n) <;> simp
/-! spec.validNumber -/
def L85_0 : List AStep := [⟨.mov (.c (.bool false)), (some 2), none, []⟩]
theorem v85_0 : VS L85_0.eq_1 := rfl
def L85_1 : List AStep := [⟨.mov (.t 4), (some 2), none, []⟩]
theorem v85_1 : VS L85_1.eq_1 := rfl
def L85_2 : List AStep := ⟨.mov (.t 0), (some 3), none, []⟩ :: ⟨.call 97 [(.t 3), (.c (.int .i64 (-99))), (.c (.int .i64 99))], (some 4), none, []⟩ :: L85_1
theorem v85_2 : VS L85_2.eq_1 := rfl
def C85_0 : ACode := .seq (.reg L85_2) .ret
theorem u85_0 : VC C85_0.eq_1 := rfl
def C85_1 : ACode := .seq (.reg L85_0) C85_0
theorem u85_1 : VC C85_1.eq_1 := rfl
def F85 : AFunc := ⟨5, [.tmp 2], C85_1⟩
theorem cF85 : compB Tryz.prog 85 = some F85 := by kernel_rfl
attribute [local go_sem ↓] u85_0 u85_1 v85_0 v85_1 v85_2
theorem c_validNumber (n : Int) (h : H) : bm Tryz.prog 85 [.one (.int .i64 n)] h = some (ib (okNum n), h) := by
  refine bm_eq cF85 ?_
  simp +contextual (maxSteps := 2000000) only [go_sem, Nat.reduceEqDiff, reduceCtorEq, Nat.reduceAdd, Nat.reduceLeDiff, F85, c_inRange, okNum]
/-! spec.validNumbers -/
def L71_0 : List AStep := [⟨.mov (.c (.bool false)), (some 2), none, []⟩]
theorem v71_0 : VS L71_0.eq_1 := rfl
def L71_1 : List AStep := [⟨.mov (.c (.int .i64 0)), (some 3), none, []⟩]
theorem v71_1 : VS L71_1.eq_1 := rfl
def L71_2 : List AStep := [⟨.len (.t 5), (some 6), none, []⟩, ⟨.bin .lss (.t 4) (.t 6), (some 7), none, []⟩]
theorem v71_2 : VS L71_2.eq_1 := rfl
def L71_3 : List AStep := ⟨.mov (.t 3), (some 4), none, []⟩ :: ⟨.mov (.t 0), (some 5), none, []⟩ :: L71_2
theorem v71_3 : VS L71_3.eq_1 := rfl
def L71_4 : List AStep := [⟨.call 85 [(.t 13)], (some 14), none, []⟩, ⟨.not (.t 14), (some 15), none, []⟩]
theorem v71_4 : VS L71_4.eq_1 := rfl
def L71_5 : List AStep := ⟨.iaddr 1 (.t 10) (.t 11), (some 12), none, []⟩ :: ⟨.load 1 false (.t 12), (some 13), none, []⟩ :: L71_4
theorem v71_5 : VS L71_5.eq_1 := rfl
def L71_6 : List AStep := ⟨.mov (.t 0), (some 10), none, []⟩ :: ⟨.mov (.t 3), (some 11), none, []⟩ :: L71_5
theorem v71_6 : VS L71_6.eq_1 := rfl
def L71_7 : List AStep := [⟨.mov (.c (.bool false)), (some 2), none, []⟩]
theorem v71_7 : VS L71_7.eq_1 := rfl
def L71_8 : List AStep := [⟨.mov (.t 9), (some 3), none, []⟩]
theorem v71_8 : VS L71_8.eq_1 := rfl
def L71_9 : List AStep := ⟨.mov (.t 3), (some 8), none, []⟩ :: ⟨.bin .add (.t 8) (.c (.int .i64 1)), (some 9), none, []⟩ :: L71_8
theorem v71_9 : VS L71_9.eq_1 := rfl
def L71_10 : List AStep := [⟨.mov (.c (.bool true)), (some 2), none, []⟩]
theorem v71_10 : VS L71_10.eq_1 := rfl
def C71_0 : ACode := .cond (.t 7) .skip (.exit 0)
theorem u71_0 : VC C71_0.eq_1 := rfl
def C71_1 : ACode := .seq (.reg L71_3) C71_0
theorem u71_1 : VC C71_1.eq_1 := rfl
def C71_2 : ACode := .seq (.reg L71_7) .ret
theorem u71_2 : VC C71_2.eq_1 := rfl
def C71_3 : ACode := .cond (.t 15) C71_2 .skip
theorem u71_3 : VC C71_3.eq_1 := rfl
def C71_4 : ACode := .seq (.reg L71_6) C71_3
theorem u71_4 : VC C71_4.eq_1 := rfl
def C71_5 : ACode := .block 1 C71_4
theorem u71_5 : VC C71_5.eq_1 := rfl
def C71_6 : ACode := .seq C71_5 (.reg L71_9)
theorem u71_6 : VC C71_6.eq_1 := rfl
def C71_7 : ACode := .seq C71_1 C71_6
theorem u71_7 : VC C71_7.eq_1 := rfl
def C71_8 : ACode := .block 0 (.loop C71_7)
theorem u71_8 : VC C71_8.eq_1 := rfl
def C71_9 : ACode := .seq (.reg L71_1) C71_8
theorem u71_9 : VC C71_9.eq_1 := rfl
def C71_10 : ACode := .seq (.reg L71_10) .ret
theorem u71_10 : VC C71_10.eq_1 := rfl
def C71_11 : ACode := .seq C71_9 C71_10
theorem u71_11 : VC C71_11.eq_1 := rfl
def C71_12 : ACode := .seq (.reg L71_0) C71_11
theorem u71_12 : VC C71_12.eq_1 := rfl
def F71 : AFunc := ⟨16, [.tmp 2], C71_12⟩
theorem cF71 : compB Tryz.prog 71 = some F71 := by kernel_rfl
attribute [local go_sem ↓] u71_0 u71_1 u71_2 u71_3 u71_4 u71_5 u71_6 u71_7 u71_8 u71_9 u71_10 u71_11 u71_12 v71_0 v71_1 v71_2 v71_3 v71_4 v71_5 v71_6 v71_7 v71_8 v71_9 v71_10
theorem c_validNumbers (l : List Int) (v : AV) (h : H) (hl : SlI h v l) (hn : l.length ≤ big) : bm Tryz.prog 71 [v] h = some (ib (l.all okNum), h) := by
  refine bm_eq cF71 ?_
  simp +contextual (maxSteps := 2000000) only [go_sem, Nat.reduceEqDiff, reduceCtorEq, Nat.reduceAdd, Nat.reduceLeDiff, F71]
  refine wpC_loop (fun i T L h' => h' = h ∧ T 0 = .v v ∧ T 3 = .v (.one (.int .i64 i)) ∧ Pre okNum true l i) l.length ?_ ?_ (Nat.zero_le _) ?_
  · rintro i T L h' hi ⟨rfl, h0, h3, hp⟩
    simp +contextual (maxSteps := 2000000) only [go_sem, Nat.reduceEqDiff, reduceCtorEq, Nat.reduceAdd, Nat.reduceLeDiff, h0, h3, hl.len, hl.iaddr hi, hl.oneO hi, c_validNumber, lt_true hi]
    (repeat' (first | refine And.intro ?_ ?_ | intro _)) <;> first | rfl | rw [wrap_next hi (big_lt hn)] | exact hp.next hi ‹_› | rw [all_stop hi ‹_›]
  · rintro T L h' ⟨rfl, h0, h3, hp⟩
    simp +contextual (maxSteps := 2000000) only [go_sem, Nat.reduceEqDiff, reduceCtorEq, Nat.reduceAdd, Nat.reduceLeDiff, h0, h3, hl.len, lt_false, hp.all]
  · simp +contextual (maxSteps := 2000000) only [go_sem, Nat.reduceEqDiff, reduceCtorEq, Nat.reduceAdd, Nat.reduceLeDiff]
    (repeat' (first | refine And.intro ?_ ?_ | intro _)) <;> first | rfl | exact Pre.zero
/-! spec.pairAt -/
def L70_0 : List AStep := [⟨.mov (.c (.int .i64 0)), (some 4), none, []⟩]
theorem v70_0 : VS L70_0.eq_1 := rfl
def L70_1 : List AStep := [⟨.mov (.c (.int .i64 0)), (some 5), none, []⟩]
theorem v70_1 : VS L70_1.eq_1 := rfl
def L70_2 : List AStep := [⟨.len (.t 7), (some 8), none, []⟩, ⟨.bin .lss (.t 6) (.t 8), (some 9), none, []⟩]
theorem v70_2 : VS L70_2.eq_1 := rfl
def L70_3 : List AStep := ⟨.mov (.t 5), (some 6), none, []⟩ :: ⟨.mov (.t 0), (some 7), none, []⟩ :: L70_2
theorem v70_3 : VS L70_3.eq_1 := rfl
def L70_4 : List AStep := [⟨.bin .eql (.t 16) (.t 17), (some 18), none, []⟩]
theorem v70_4 : VS L70_4.eq_1 := rfl
def L70_5 : List AStep := ⟨.load 1 false (.t 15), (some 16), none, []⟩ :: ⟨.mov (.t 1), (some 17), none, []⟩ :: L70_4
theorem v70_5 : VS L70_5.eq_1 := rfl
def L70_6 : List AStep := ⟨.iaddr 2 (.t 12) (.t 13), (some 14), none, []⟩ :: ⟨.faddr 0 (.t 14), (some 15), none, []⟩ :: L70_5
theorem v70_6 : VS L70_6.eq_1 := rfl
def L70_7 : List AStep := ⟨.mov (.t 0), (some 12), none, []⟩ :: ⟨.mov (.t 5), (some 13), none, []⟩ :: L70_6
theorem v70_7 : VS L70_7.eq_1 := rfl
def L70_8 : List AStep := [⟨.mov (.t 5), (some 19), none, []⟩, ⟨.mov (.t 19), (some 4), none, []⟩]
theorem v70_8 : VS L70_8.eq_1 := rfl
def L70_9 : List AStep := [⟨.mov (.t 11), (some 5), none, []⟩]
theorem v70_9 : VS L70_9.eq_1 := rfl
def L70_10 : List AStep := ⟨.mov (.t 5), (some 10), none, []⟩ :: ⟨.bin .add (.t 10) (.c (.int .i64 1)), (some 11), none, []⟩ :: L70_9
theorem v70_10 : VS L70_10.eq_1 := rfl
def L70_11 : List AStep := [⟨.mov (.c (.int .i64 (-1))), (some 4), none, []⟩]
theorem v70_11 : VS L70_11.eq_1 := rfl
def C70_0 : ACode := .cond (.t 9) .skip (.exit 0)
theorem u70_0 : VC C70_0.eq_1 := rfl
def C70_1 : ACode := .seq (.reg L70_3) C70_0
theorem u70_1 : VC C70_1.eq_1 := rfl
def C70_2 : ACode := .seq (.reg L70_8) .ret
theorem u70_2 : VC C70_2.eq_1 := rfl
def C70_3 : ACode := .cond (.t 18) C70_2 .skip
theorem u70_3 : VC C70_3.eq_1 := rfl
def C70_4 : ACode := .seq (.reg L70_7) C70_3
theorem u70_4 : VC C70_4.eq_1 := rfl
def C70_5 : ACode := .block 1 C70_4
theorem u70_5 : VC C70_5.eq_1 := rfl
def C70_6 : ACode := .seq C70_5 (.reg L70_10)
theorem u70_6 : VC C70_6.eq_1 := rfl
def C70_7 : ACode := .seq C70_1 C70_6
theorem u70_7 : VC C70_7.eq_1 := rfl
def C70_8 : ACode := .block 0 (.loop C70_7)
theorem u70_8 : VC C70_8.eq_1 := rfl
def C70_9 : ACode := .seq (.reg L70_1) C70_8
theorem u70_9 : VC C70_9.eq_1 := rfl
def C70_10 : ACode := .seq (.reg L70_11) .ret
theorem u70_10 : VC C70_10.eq_1 := rfl
def C70_11 : ACode := .seq C70_9 C70_10
theorem u70_11 : VC C70_11.eq_1 := rfl
def C70_12 : ACode := .seq (.reg L70_0) C70_11
theorem u70_12 : VC C70_12.eq_1 := rfl
def F70 : AFunc := ⟨20, [.tmp 4], C70_12⟩
theorem cF70 : compB Tryz.prog 70 = some F70 := by kernel_rfl
attribute [local go_sem ↓] u70_0 u70_1 u70_2 u70_3 u70_4 u70_5 u70_6 u70_7 u70_8 u70_9 u70_10 u70_11 u70_12 v70_0 v70_1 v70_2 v70_3 v70_4 v70_5 v70_6 v70_7 v70_8 v70_9 v70_10 v70_11
theorem c_pairAt (l : List Pair) (v : AV) (s : ByteArray) (h : H) (hl : SlP h v l) (hn : smP l) : bm Tryz.prog 70 [v, .one (.str s)] h = some (ii (pairAt l s), h) := by
  refine bm_eq cF70 ?_
  simp +contextual (maxSteps := 2000000) only [go_sem, Nat.reduceEqDiff, reduceCtorEq, Nat.reduceAdd, Nat.reduceLeDiff, F70]
  refine wpC_loop (fun i T L h' => h' = h ∧ T 0 = .v v ∧ T 1 = .v (.one (.str s)) ∧ T 5 = .v (.one (.int .i64 i)) ∧ Pre (fun p => decide (p.name = s)) false l i) l.length ?_ ?_ (Nat.zero_le _) ?_
  · rintro i T L h' hi ⟨rfl, h0, h1, h3, hp⟩
    simp +contextual (maxSteps := 2000000) only [go_sem, Nat.reduceEqDiff, reduceCtorEq, Nat.reduceAdd, Nat.reduceLeDiff, h0, h1, h3, hl.len, hl.iaddr hi, hl.fieldO hi, lt_true hi]
    (repeat' (first | refine And.intro ?_ ?_ | intro _)) <;> first | rfl | rw [wrap_next hi hn.len] | exact hp.next hi ‹_› | rw [pairAt, idx_hit hi hp ‹_›]
  · rintro T L h' ⟨rfl, h0, h1, h3, hp⟩
    simp +contextual (maxSteps := 2000000) only [go_sem, Nat.reduceEqDiff, reduceCtorEq, Nat.reduceAdd, Nat.reduceLeDiff, h0, h1, h3, hl.len, lt_false, pairAt, idx_none hp]
  · simp +contextual (maxSteps := 2000000) only [go_sem, Nat.reduceEqDiff, reduceCtorEq, Nat.reduceAdd, Nat.reduceLeDiff]
    (repeat' (first | refine And.intro ?_ ?_ | intro _)) <;> first | rfl | exact Pre.zero
/-! spec.validName -/
def L86_0 : List AStep := [⟨.mov (.c (.bool false)), (some 2), none, []⟩]
theorem v86_0 : VS L86_0.eq_1 := rfl
def L86_1 : List AStep := [⟨.mov (.c (.int .i64 0)), (some 3), none, []⟩]
theorem v86_1 : VS L86_1.eq_1 := rfl
def L86_2 : List AStep := [⟨.lenStr (.t 5), (some 6), none, []⟩, ⟨.bin .lss (.t 4) (.t 6), (some 7), none, []⟩]
theorem v86_2 : VS L86_2.eq_1 := rfl
def L86_3 : List AStep := ⟨.mov (.t 3), (some 4), none, []⟩ :: ⟨.mov (.t 0), (some 5), none, []⟩ :: L86_2
theorem v86_3 : VS L86_3.eq_1 := rfl
def L86_4 : List AStep := [⟨.bin .gtr (.t 17) (.c (.int .u8 122)), (some 18), (some (14, false)), []⟩, ⟨.pick (.t 14) (.c (.bool true)) (.t 18), (some 19), none, []⟩]
theorem v86_4 : VS L86_4.eq_1 := rfl
def L86_5 : List AStep := ⟨.mov (.t 3), (some 16), (some (14, false)), []⟩ :: ⟨.idxStr (.t 15) (.t 16), (some 17), (some (14, false)), []⟩ :: L86_4
theorem v86_5 : VS L86_5.eq_1 := rfl
def L86_6 : List AStep := ⟨.mov (.t 13), (some 14), none, []⟩ :: ⟨.mov (.t 0), (some 15), (some (14, false)), []⟩ :: L86_5
theorem v86_6 : VS L86_6.eq_1 := rfl
def L86_7 : List AStep := ⟨.idxStr (.t 10) (.t 11), (some 12), none, []⟩ :: ⟨.bin .lss (.t 12) (.c (.int .u8 97)), (some 13), none, []⟩ :: L86_6
theorem v86_7 : VS L86_7.eq_1 := rfl
def L86_8 : List AStep := ⟨.mov (.t 0), (some 10), none, []⟩ :: ⟨.mov (.t 3), (some 11), none, []⟩ :: L86_7
theorem v86_8 : VS L86_8.eq_1 := rfl
def L86_9 : List AStep := [⟨.mov (.c (.bool false)), (some 2), none, []⟩]
theorem v86_9 : VS L86_9.eq_1 := rfl
def L86_10 : List AStep := [⟨.mov (.t 9), (some 3), none, []⟩]
theorem v86_10 : VS L86_10.eq_1 := rfl
def L86_11 : List AStep := ⟨.mov (.t 3), (some 8), none, []⟩ :: ⟨.bin .add (.t 8) (.c (.int .i64 1)), (some 9), none, []⟩ :: L86_10
theorem v86_11 : VS L86_11.eq_1 := rfl
def L86_12 : List AStep := [⟨.call 97 [(.t 21), (.c (.int .i64 1)), (.c (.int .i64 6))], (some 22), none, []⟩, ⟨.mov (.t 22), (some 2), none, []⟩]
theorem v86_12 : VS L86_12.eq_1 := rfl
def L86_13 : List AStep := ⟨.mov (.t 0), (some 20), none, []⟩ :: ⟨.lenStr (.t 20), (some 21), none, []⟩ :: L86_12
theorem v86_13 : VS L86_13.eq_1 := rfl
def C86_0 : ACode := .cond (.t 7) .skip (.exit 0)
theorem u86_0 : VC C86_0.eq_1 := rfl
def C86_1 : ACode := .seq (.reg L86_3) C86_0
theorem u86_1 : VC C86_1.eq_1 := rfl
def C86_2 : ACode := .seq (.reg L86_9) .ret
theorem u86_2 : VC C86_2.eq_1 := rfl
def C86_3 : ACode := .cond (.t 19) C86_2 .skip
theorem u86_3 : VC C86_3.eq_1 := rfl
def C86_4 : ACode := .seq (.reg L86_8) C86_3
theorem u86_4 : VC C86_4.eq_1 := rfl
def C86_5 : ACode := .block 1 C86_4
theorem u86_5 : VC C86_5.eq_1 := rfl
def C86_6 : ACode := .seq C86_5 (.reg L86_11)
theorem u86_6 : VC C86_6.eq_1 := rfl
def C86_7 : ACode := .seq C86_1 C86_6
theorem u86_7 : VC C86_7.eq_1 := rfl
def C86_8 : ACode := .block 0 (.loop C86_7)
theorem u86_8 : VC C86_8.eq_1 := rfl
def C86_9 : ACode := .seq (.reg L86_1) C86_8
theorem u86_9 : VC C86_9.eq_1 := rfl
def C86_10 : ACode := .seq (.reg L86_13) .ret
theorem u86_10 : VC C86_10.eq_1 := rfl
def C86_11 : ACode := .seq C86_9 C86_10
theorem u86_11 : VC C86_11.eq_1 := rfl
def C86_12 : ACode := .seq (.reg L86_0) C86_11
theorem u86_12 : VC C86_12.eq_1 := rfl
def F86 : AFunc := ⟨23, [.tmp 2], C86_12⟩
theorem cF86 : compB Tryz.prog 86 = some F86 := by kernel_rfl
attribute [local go_sem ↓] u86_0 u86_1 u86_2 u86_3 u86_4 u86_5 u86_6 u86_7 u86_8 u86_9 u86_10 u86_11 u86_12 v86_0 v86_1 v86_2 v86_3 v86_4 v86_5 v86_6 v86_7 v86_8 v86_9 v86_10 v86_11 v86_12 v86_13
theorem c_validName (s : ByteArray) (h : H) (hn : s.size < 2 ^ 62) : bm Tryz.prog 86 [.one (.str s)] h = some (ib (okName s), h) := by
  refine bm_eq cF86 ?_
  simp +contextual (maxSteps := 2000000) only [go_sem, Nat.reduceEqDiff, reduceCtorEq, Nat.reduceAdd, Nat.reduceLeDiff, F86]
  have hsz : s.data.toList.length = s.size := Array.length_toList
  refine wpC_loop (fun i T L h' => h' = h ∧ T 0 = .v (.one (.str s)) ∧ T 3 = .v (.one (.int .i64 i)) ∧ Pre isLow true s.data.toList i) s.size ?_ ?_ (Nat.zero_le _) ?_
  · rintro i T L h' hi ⟨rfl, h0, h3, hp⟩
    simp +contextual (maxSteps := 2000000) only [go_sem, Nat.reduceEqDiff, reduceCtorEq, Nat.reduceAdd, Nat.reduceLeDiff, h0, h3, idx_at hi, lt_true hi]
    have e : s.data.toList[i]'(by omega) = s.data[i]'hi := Array.getElem_toList _
    have bad : isLow (s.data[i]'hi) = false → okName s = false := fun hx => by
      unfold okName
      rw [all_stop (l := s.data.toList) (i := i) (by omega) (by rw [e]; exact hx)]
      rfl
    have low : isLow (s.data[i]'hi) = (!(decide ((↑(s.data[i]'hi).toNat : Int) < 97)) && !(decide ((↑(s.data[i]'hi).toNat : Int) > 122))) := by
      unfold isLow
      rw [Bool.eq_iff_iff]
      simp
      omega
    (repeat' (first | refine And.intro ?_ ?_ | intro _)) <;> first | rfl | rw [wrap_next hi hn] | exact hp.next (by omega) (by rw [e, low]; simp_all) | rw [bad (by rw [low]; simp_all)]
  · rintro T L h' ⟨rfl, h0, h3, hp⟩
    rw [← hsz] at hp
    simp +contextual (maxSteps := 2000000) only [go_sem, Nat.reduceEqDiff, reduceCtorEq, Nat.reduceAdd, Nat.reduceLeDiff, h0, h3, lt_false, c_inRange, okName, hp.all, Bool.true_and]
  · simp +contextual (maxSteps := 2000000) only [go_sem, Nat.reduceEqDiff, reduceCtorEq, Nat.reduceAdd, Nat.reduceLeDiff]
    (repeat' (first | refine And.intro ?_ ?_ | intro _)) <;> first | rfl | exact Pre.zero
/-! spec.validPairs -/
def L72_0 : List AStep := [⟨.mov (.c (.bool false)), (some 2), none, []⟩]
theorem v72_0 : VS L72_0.eq_1 := rfl
def L72_1 : List AStep := [⟨.mov (.c (.int .i64 0)), (some 3), none, []⟩]
theorem v72_1 : VS L72_1.eq_1 := rfl
def L72_2 : List AStep := [⟨.len (.t 5), (some 6), none, []⟩, ⟨.bin .lss (.t 4) (.t 6), (some 7), none, []⟩]
theorem v72_2 : VS L72_2.eq_1 := rfl
def L72_3 : List AStep := ⟨.mov (.t 3), (some 4), none, []⟩ :: ⟨.mov (.t 0), (some 5), none, []⟩ :: L72_2
theorem v72_3 : VS L72_3.eq_1 := rfl
def L72_4 : List AStep := [⟨.not (.t 23), (some 24), (some (17, false)), []⟩, ⟨.pick (.t 17) (.c (.bool true)) (.t 24), (some 25), none, []⟩]
theorem v72_4 : VS L72_4.eq_1 := rfl
def L72_5 : List AStep := ⟨.load 1 false (.t 21), (some 22), (some (17, false)), []⟩ :: ⟨.call 85 [(.t 22)], (some 23), (some (17, false)), []⟩ :: L72_4
theorem v72_5 : VS L72_5.eq_1 := rfl
def L72_6 : List AStep := ⟨.iaddr 2 (.t 18) (.t 19), (some 20), (some (17, false)), []⟩ :: ⟨.faddr 1 (.t 20), (some 21), (some (17, false)), []⟩ :: L72_5
theorem v72_6 : VS L72_6.eq_1 := rfl
def L72_7 : List AStep := ⟨.mov (.t 0), (some 18), (some (17, false)), []⟩ :: ⟨.mov (.t 3), (some 19), (some (17, false)), []⟩ :: L72_6
theorem v72_7 : VS L72_7.eq_1 := rfl
def L72_8 : List AStep := ⟨.not (.t 15), (some 16), none, []⟩ :: ⟨.mov (.t 16), (some 17), none, []⟩ :: L72_7
theorem v72_8 : VS L72_8.eq_1 := rfl
def L72_9 : List AStep := ⟨.load 1 false (.t 13), (some 14), none, []⟩ :: ⟨.call 86 [(.t 14)], (some 15), none, []⟩ :: L72_8
theorem v72_9 : VS L72_9.eq_1 := rfl
def L72_10 : List AStep := ⟨.iaddr 2 (.t 10) (.t 11), (some 12), none, []⟩ :: ⟨.faddr 0 (.t 12), (some 13), none, []⟩ :: L72_9
theorem v72_10 : VS L72_10.eq_1 := rfl
def L72_11 : List AStep := ⟨.mov (.t 0), (some 10), none, []⟩ :: ⟨.mov (.t 3), (some 11), none, []⟩ :: L72_10
theorem v72_11 : VS L72_11.eq_1 := rfl
def L72_12 : List AStep := [⟨.mov (.c (.bool false)), (some 2), none, []⟩]
theorem v72_12 : VS L72_12.eq_1 := rfl
def L72_13 : List AStep := [⟨.mov (.t 9), (some 3), none, []⟩]
theorem v72_13 : VS L72_13.eq_1 := rfl
def L72_14 : List AStep := ⟨.mov (.t 3), (some 8), none, []⟩ :: ⟨.bin .add (.t 8) (.c (.int .i64 1)), (some 9), none, []⟩ :: L72_13
theorem v72_14 : VS L72_14.eq_1 := rfl
def L72_15 : List AStep := [⟨.mov (.c (.bool true)), (some 2), none, []⟩]
theorem v72_15 : VS L72_15.eq_1 := rfl
def C72_0 : ACode := .cond (.t 7) .skip (.exit 0)
theorem u72_0 : VC C72_0.eq_1 := rfl
def C72_1 : ACode := .seq (.reg L72_3) C72_0
theorem u72_1 : VC C72_1.eq_1 := rfl
def C72_2 : ACode := .seq (.reg L72_12) .ret
theorem u72_2 : VC C72_2.eq_1 := rfl
def C72_3 : ACode := .cond (.t 25) C72_2 .skip
theorem u72_3 : VC C72_3.eq_1 := rfl
def C72_4 : ACode := .seq (.reg L72_11) C72_3
theorem u72_4 : VC C72_4.eq_1 := rfl
def C72_5 : ACode := .block 1 C72_4
theorem u72_5 : VC C72_5.eq_1 := rfl
def C72_6 : ACode := .seq C72_5 (.reg L72_14)
theorem u72_6 : VC C72_6.eq_1 := rfl
def C72_7 : ACode := .seq C72_1 C72_6
theorem u72_7 : VC C72_7.eq_1 := rfl
def C72_8 : ACode := .block 0 (.loop C72_7)
theorem u72_8 : VC C72_8.eq_1 := rfl
def C72_9 : ACode := .seq (.reg L72_1) C72_8
theorem u72_9 : VC C72_9.eq_1 := rfl
def C72_10 : ACode := .seq (.reg L72_15) .ret
theorem u72_10 : VC C72_10.eq_1 := rfl
def C72_11 : ACode := .seq C72_9 C72_10
theorem u72_11 : VC C72_11.eq_1 := rfl
def C72_12 : ACode := .seq (.reg L72_0) C72_11
theorem u72_12 : VC C72_12.eq_1 := rfl
def F72 : AFunc := ⟨26, [.tmp 2], C72_12⟩
theorem cF72 : compB Tryz.prog 72 = some F72 := by kernel_rfl
attribute [local go_sem ↓] u72_0 u72_1 u72_2 u72_3 u72_4 u72_5 u72_6 u72_7 u72_8 u72_9 u72_10 u72_11 u72_12 v72_0 v72_1 v72_2 v72_3 v72_4 v72_5 v72_6 v72_7 v72_8 v72_9 v72_10 v72_11 v72_12 v72_13 v72_14 v72_15
theorem c_validPairs (l : List Pair) (v : AV) (h : H) (hl : SlP h v l) (hn : smP l) : bm Tryz.prog 72 [v] h = some (ib (l.all okPair), h) := by
  refine bm_eq cF72 ?_
  simp +contextual (maxSteps := 2000000) only [go_sem, Nat.reduceEqDiff, reduceCtorEq, Nat.reduceAdd, Nat.reduceLeDiff, F72]
  refine wpC_loop (fun i T L h' => h' = h ∧ T 0 = .v v ∧ T 3 = .v (.one (.int .i64 i)) ∧ Pre okPair true l i) l.length ?_ ?_ (Nat.zero_le _) ?_
  · rintro i T L h' hi ⟨rfl, h0, h3, hp⟩
    simp +contextual (maxSteps := 2000000) only [go_sem, Nat.reduceEqDiff, reduceCtorEq, Nat.reduceAdd, Nat.reduceLeDiff, h0, h3, hl.len, hl.iaddr hi, hl.fieldO hi, c_validNumber, c_validName _ _ (hn.at hi), lt_true hi]
    (repeat' (first | refine And.intro ?_ ?_ | intro _)) <;> first | rfl | rw [wrap_next hi hn.len] | exact hp.next hi (by simp [okPair, *]) | rw [all_stop hi (by simp [okPair, *])]
  · rintro T L h' ⟨rfl, h0, h3, hp⟩
    simp +contextual (maxSteps := 2000000) only [go_sem, Nat.reduceEqDiff, reduceCtorEq, Nat.reduceAdd, Nat.reduceLeDiff, h0, h3, hl.len, lt_false, hp.all]
  · simp +contextual (maxSteps := 2000000) only [go_sem, Nat.reduceEqDiff, reduceCtorEq, Nat.reduceAdd, Nat.reduceLeDiff]
    (repeat' (first | refine And.intro ?_ ?_ | intro _)) <;> first | rfl | exact Pre.zero
/-! spec.validFlat -/
def L54_0 : List AStep := [⟨.box 36 (.t 0), (some 1), none, []⟩, ⟨.mov (.c (.bool false)), (some 2), none, []⟩]
theorem v54_0 : VS L54_0.eq_1 := rfl
def L54_1 : List AStep := [⟨.mov (.c (.int .i64 0)), (some 3), none, []⟩]
theorem v54_1 : VS L54_1.eq_1 := rfl
def L54_2 : List AStep := [⟨.bin .lss (.t 4) (.t 7), (some 8), none, []⟩]
theorem v54_2 : VS L54_2.eq_1 := rfl
def L54_3 : List AStep := ⟨.load 1 false (.t 5), (some 6), none, []⟩ :: ⟨.len (.t 6), (some 7), none, []⟩ :: L54_2
theorem v54_3 : VS L54_3.eq_1 := rfl
def L54_4 : List AStep := ⟨.mov (.t 3), (some 4), none, []⟩ :: ⟨.faddr 1 (.t 1), (some 5), none, []⟩ :: L54_3
theorem v54_4 : VS L54_4.eq_1 := rfl
def L54_5 : List AStep := [⟨.call 70 [(.t 14), (.t 20)], (some 21), none, []⟩, ⟨.bin .geq (.t 21) (.c (.int .i64 0)), (some 22), none, []⟩]
theorem v54_5 : VS L54_5.eq_1 := rfl
def L54_6 : List AStep := ⟨.faddr 0 (.t 18), (some 19), none, []⟩ :: ⟨.load 1 false (.t 19), (some 20), none, []⟩ :: L54_5
theorem v54_6 : VS L54_6.eq_1 := rfl
def L54_7 : List AStep := ⟨.mov (.t 3), (some 17), none, []⟩ :: ⟨.iaddr 2 (.t 16) (.t 17), (some 18), none, []⟩ :: L54_6
theorem v54_7 : VS L54_7.eq_1 := rfl
def L54_8 : List AStep := ⟨.faddr 1 (.t 1), (some 15), none, []⟩ :: ⟨.load 1 false (.t 15), (some 16), none, []⟩ :: L54_7
theorem v54_8 : VS L54_8.eq_1 := rfl
def L54_9 : List AStep := ⟨.mov (.t 3), (some 13), none, []⟩ :: ⟨.slice 81 2 (.t 12) none (some (.t 13)) none, (some 14), none, []⟩ :: L54_8
theorem v54_9 : VS L54_9.eq_1 := rfl
def L54_10 : List AStep := ⟨.faddr 1 (.t 1), (some 11), none, []⟩ :: ⟨.load 1 false (.t 11), (some 12), none, []⟩ :: L54_9
theorem v54_10 : VS L54_10.eq_1 := rfl
def L54_11 : List AStep := [⟨.mov (.c (.bool false)), (some 2), none, []⟩]
theorem v54_11 : VS L54_11.eq_1 := rfl
def L54_12 : List AStep := [⟨.mov (.t 10), (some 3), none, []⟩]
theorem v54_12 : VS L54_12.eq_1 := rfl
def L54_13 : List AStep := ⟨.mov (.t 3), (some 9), none, []⟩ :: ⟨.bin .add (.t 9) (.c (.int .i64 1)), (some 10), none, []⟩ :: L54_12
theorem v54_13 : VS L54_13.eq_1 := rfl
def L54_14 : List AStep := [⟨.mov (.t 42), (some 2), none, []⟩]
theorem v54_14 : VS L54_14.eq_1 := rfl
def L54_15 : List AStep := ⟨.bin .leq (.t 40) (.c (.int .i64 8)), (some 41), (some (37, true)), []⟩ :: ⟨.pick (.t 37) (.t 41) (.c (.bool false)), (some 42), none, []⟩ :: L54_14
theorem v54_15 : VS L54_15.eq_1 := rfl
def L54_16 : List AStep := ⟨.load 1 false (.t 38), (some 39), (some (37, true)), []⟩ :: ⟨.len (.t 39), (some 40), (some (37, true)), []⟩ :: L54_15
theorem v54_16 : VS L54_16.eq_1 := rfl
def L54_17 : List AStep := ⟨.mov (.t 36), (some 37), none, []⟩ :: ⟨.faddr 1 (.t 1), (some 38), (some (37, true)), []⟩ :: L54_16
theorem v54_17 : VS L54_17.eq_1 := rfl
def L54_18 : List AStep := ⟨.bin .leq (.t 34) (.c (.int .i64 8)), (some 35), (some (31, true)), []⟩ :: ⟨.pick (.t 31) (.t 35) (.c (.bool false)), (some 36), none, []⟩ :: L54_17
theorem v54_18 : VS L54_18.eq_1 := rfl
def L54_19 : List AStep := ⟨.load 1 false (.t 32), (some 33), (some (31, true)), []⟩ :: ⟨.len (.t 33), (some 34), (some (31, true)), []⟩ :: L54_18
theorem v54_19 : VS L54_19.eq_1 := rfl
def L54_20 : List AStep := ⟨.mov (.t 30), (some 31), none, []⟩ :: ⟨.faddr 0 (.t 1), (some 32), (some (31, true)), []⟩ :: L54_19
theorem v54_20 : VS L54_20.eq_1 := rfl
def L54_21 : List AStep := ⟨.call 72 [(.t 28)], (some 29), (some (26, true)), []⟩ :: ⟨.pick (.t 26) (.t 29) (.c (.bool false)), (some 30), none, []⟩ :: L54_20
theorem v54_21 : VS L54_21.eq_1 := rfl
def L54_22 : List AStep := ⟨.faddr 1 (.t 1), (some 27), (some (26, true)), []⟩ :: ⟨.load 1 false (.t 27), (some 28), (some (26, true)), []⟩ :: L54_21
theorem v54_22 : VS L54_22.eq_1 := rfl
def L54_23 : List AStep := ⟨.call 71 [(.t 24)], (some 25), none, []⟩ :: ⟨.mov (.t 25), (some 26), none, []⟩ :: L54_22
theorem v54_23 : VS L54_23.eq_1 := rfl
def L54_24 : List AStep := ⟨.faddr 0 (.t 1), (some 23), none, []⟩ :: ⟨.load 1 false (.t 23), (some 24), none, []⟩ :: L54_23
theorem v54_24 : VS L54_24.eq_1 := rfl
def C54_0 : ACode := .cond (.t 8) .skip (.exit 0)
theorem u54_0 : VC C54_0.eq_1 := rfl
def C54_1 : ACode := .seq (.reg L54_4) C54_0
theorem u54_1 : VC C54_1.eq_1 := rfl
def C54_2 : ACode := .seq (.reg L54_11) .ret
theorem u54_2 : VC C54_2.eq_1 := rfl
def C54_3 : ACode := .cond (.t 22) C54_2 .skip
theorem u54_3 : VC C54_3.eq_1 := rfl
def C54_4 : ACode := .seq (.reg L54_10) C54_3
theorem u54_4 : VC C54_4.eq_1 := rfl
def C54_5 : ACode := .block 1 C54_4
theorem u54_5 : VC C54_5.eq_1 := rfl
def C54_6 : ACode := .seq C54_5 (.reg L54_13)
theorem u54_6 : VC C54_6.eq_1 := rfl
def C54_7 : ACode := .seq C54_1 C54_6
theorem u54_7 : VC C54_7.eq_1 := rfl
def C54_8 : ACode := .block 0 (.loop C54_7)
theorem u54_8 : VC C54_8.eq_1 := rfl
def C54_9 : ACode := .seq (.reg L54_1) C54_8
theorem u54_9 : VC C54_9.eq_1 := rfl
def C54_10 : ACode := .seq (.reg L54_24) .ret
theorem u54_10 : VC C54_10.eq_1 := rfl
def C54_11 : ACode := .seq C54_9 C54_10
theorem u54_11 : VC C54_11.eq_1 := rfl
def C54_12 : ACode := .seq (.reg L54_0) C54_11
theorem u54_12 : VC C54_12.eq_1 := rfl
def F54 : AFunc := ⟨43, [.tmp 2], C54_12⟩
theorem cF54 : compB Tryz.prog 54 = some F54 := by kernel_rfl
attribute [local go_sem ↓] u54_0 u54_1 u54_2 u54_3 u54_4 u54_5 u54_6 u54_7 u54_8 u54_9 u54_10 u54_11 u54_12 v54_0 v54_1 v54_2 v54_3 v54_4 v54_5 v54_6 v54_7 v54_8 v54_9 v54_10 v54_11 v54_12 v54_13 v54_14 v54_15 v54_16 v54_17 v54_18 v54_19 v54_20 v54_21 v54_22 v54_23 v54_24
theorem c_validFlat (f : Flat) (pv nv : CV) (h : H) (hp : SlI h (.one pv) f.pl) (hq : SlP h (.one nv) f.nl) (hn : smF f) : bm Tryz.prog 54 [.agg [pv, nv]] h = some (ib (okFlat f), h) := by
  refine bm_eq cF54 ?_
  simp +contextual (maxSteps := 2000000) only [go_sem, Nat.reduceEqDiff, reduceCtorEq, Nat.reduceAdd, Nat.reduceLeDiff, F54]
  refine wpC_loop (fun i T L h' => h' = h ∧ T 1 = .lp 1 0 ∧ (L 1).2 = [pv, nv] ∧ T 3 = .v (.one (.int .i64 i)) ∧ Upto (newAt Pair.name f.nl) i) f.nl.length ?_ ?_ (Nat.zero_le _) ?_
  · rintro i T L h' hi ⟨rfl, t1, l1, t3, hu⟩
    obtain ⟨v', e1, s1⟩ := hq.takeO (i := i) (by omega) (kd := .i64)
    have e2 : decide (pairAt (f.nl.take i) f.nl[i].name ≥ 0) = !(newAt Pair.name f.nl i) := newAt_ge hi
    simp +contextual (maxSteps := 2000000) only [go_sem, Nat.reduceEqDiff, reduceCtorEq, Nat.reduceAdd, Nat.reduceLeDiff, e2, t1, l1, t3, hq.len, hq.iaddr hi, hq.fieldO hi, lt_true hi, e1, c_pairAt _ _ _ _ s1 (hn.nl.take i)]
    (repeat' (first | refine And.intro ?_ ?_ | intro _)) <;> first | rfl | rw [wrap_next hi hn.nl.len] | exact hu.next (by simp_all) | rw [okFlat, apart_not hi (by simp_all)]; rfl
  · rintro T L h' ⟨rfl, t1, l1, t3, hu⟩
    simp +contextual (maxSteps := 2000000) only [go_sem, Nat.reduceEqDiff, reduceCtorEq, Nat.reduceAdd, Nat.reduceLeDiff, t1, l1, t3, hq.len, hp.len, lt_false, c_validNumbers _ _ _ hp hn.pl, c_validPairs _ _ _ hq hn.nl, okFlat, apart_of hu]
    (repeat' (first | refine And.intro ?_ ?_ | intro _)) <;> first | rfl | simp_all
  · simp +contextual (maxSteps := 2000000) only [go_sem, Nat.reduceEqDiff, reduceCtorEq, Nat.reduceAdd, Nat.reduceLeDiff]
    (repeat' (first | refine And.intro ?_ ?_ | intro _)) <;> first | rfl | exact Upto.zero
/-! spec.byPlace -/
def L73_0 : List AStep := [⟨.box 79 (.t 0), (some 1), none, []⟩, ⟨.mov (.c (.bool false)), (some 2), none, []⟩]
theorem v73_0 : VS L73_0.eq_1 := rfl
def L73_1 : List AStep := [⟨.mov (.t 10), (some 2), none, []⟩]
theorem v73_1 : VS L73_1.eq_1 := rfl
def L73_2 : List AStep := ⟨.bin .eql (.t 8) (.c (.int .i64 1)), (some 9), (some (6, false)), []⟩ :: ⟨.pick (.t 6) (.c (.bool true)) (.t 9), (some 10), none, []⟩ :: L73_1
theorem v73_2 : VS L73_2.eq_1 := rfl
def L73_3 : List AStep := ⟨.faddr 1 (.t 1), (some 7), (some (6, false)), []⟩ :: ⟨.load 1 false (.t 7), (some 8), (some (6, false)), []⟩ :: L73_2
theorem v73_3 : VS L73_3.eq_1 := rfl
def L73_4 : List AStep := ⟨.bin .eql (.t 4) (.c (.int .i64 0)), (some 5), none, []⟩ :: ⟨.mov (.t 5), (some 6), none, []⟩ :: L73_3
theorem v73_4 : VS L73_4.eq_1 := rfl
def L73_5 : List AStep := ⟨.faddr 1 (.t 1), (some 3), none, []⟩ :: ⟨.load 1 false (.t 3), (some 4), none, []⟩ :: L73_4
theorem v73_5 : VS L73_5.eq_1 := rfl
def C73_0 : ACode := .seq (.reg L73_5) .ret
theorem u73_0 : VC C73_0.eq_1 := rfl
def C73_1 : ACode := .seq (.reg L73_0) C73_0
theorem u73_1 : VC C73_1.eq_1 := rfl
def F73 : AFunc := ⟨11, [.tmp 2], C73_1⟩
theorem cF73 : compB Tryz.prog 73 = some F73 := by kernel_rfl
attribute [local go_sem ↓] u73_0 u73_1 v73_0 v73_1 v73_2 v73_3 v73_4 v73_5
theorem c_byPlace (p : Param) (h : H) : bm Tryz.prog 73 [.agg (encQ p)] h = some (ib (byPlace p), h) := by
  refine bm_eq cF73 ?_
  simp +contextual (maxSteps := 2000000) only [go_sem, Nat.reduceEqDiff, reduceCtorEq, Nat.reduceAdd, Nat.reduceLeDiff, F73, byPlace]
  cases decide (p.kind = 0) <;> simp
/-! spec.byName -/
def L75_0 : List AStep := [⟨.box 79 (.t 0), (some 1), none, []⟩, ⟨.mov (.c (.bool false)), (some 2), none, []⟩]
theorem v75_0 : VS L75_0.eq_1 := rfl
def L75_1 : List AStep := [⟨.mov (.t 10), (some 2), none, []⟩]
theorem v75_1 : VS L75_1.eq_1 := rfl
def L75_2 : List AStep := ⟨.bin .eql (.t 8) (.c (.int .i64 3)), (some 9), (some (6, false)), []⟩ :: ⟨.pick (.t 6) (.c (.bool true)) (.t 9), (some 10), none, []⟩ :: L75_1
theorem v75_2 : VS L75_2.eq_1 := rfl
def L75_3 : List AStep := ⟨.faddr 1 (.t 1), (some 7), (some (6, false)), []⟩ :: ⟨.load 1 false (.t 7), (some 8), (some (6, false)), []⟩ :: L75_2
theorem v75_3 : VS L75_3.eq_1 := rfl
def L75_4 : List AStep := ⟨.bin .eql (.t 4) (.c (.int .i64 1)), (some 5), none, []⟩ :: ⟨.mov (.t 5), (some 6), none, []⟩ :: L75_3
theorem v75_4 : VS L75_4.eq_1 := rfl
def L75_5 : List AStep := ⟨.faddr 1 (.t 1), (some 3), none, []⟩ :: ⟨.load 1 false (.t 3), (some 4), none, []⟩ :: L75_4
theorem v75_5 : VS L75_5.eq_1 := rfl
def C75_0 : ACode := .seq (.reg L75_5) .ret
theorem u75_0 : VC C75_0.eq_1 := rfl
def C75_1 : ACode := .seq (.reg L75_0) C75_0
theorem u75_1 : VC C75_1.eq_1 := rfl
def F75 : AFunc := ⟨11, [.tmp 2], C75_1⟩
theorem cF75 : compB Tryz.prog 75 = some F75 := by kernel_rfl
attribute [local go_sem ↓] u75_0 u75_1 v75_0 v75_1 v75_2 v75_3 v75_4 v75_5
theorem c_byName (p : Param) (h : H) : bm Tryz.prog 75 [.agg (encQ p)] h = some (ib (byName p), h) := by
  refine bm_eq cF75 ?_
  simp +contextual (maxSteps := 2000000) only [go_sem, Nat.reduceEqDiff, reduceCtorEq, Nat.reduceAdd, Nat.reduceLeDiff, F75, byName]
  cases decide (p.kind = 1) <;> simp
/-! spec.isSingle -/
def L84_0 : List AStep := [⟨.box 79 (.t 0), (some 1), none, []⟩, ⟨.mov (.c (.bool false)), (some 2), none, []⟩]
theorem v84_0 : VS L84_0.eq_1 := rfl
def L84_1 : List AStep := [⟨.mov (.t 8), (some 2), none, []⟩]
theorem v84_1 : VS L84_1.eq_1 := rfl
def L84_2 : List AStep := ⟨.call 75 [(.t 6)], (some 7), (some (5, false)), []⟩ :: ⟨.pick (.t 5) (.c (.bool true)) (.t 7), (some 8), none, []⟩ :: L84_1
theorem v84_2 : VS L84_2.eq_1 := rfl
def L84_3 : List AStep := ⟨.mov (.t 4), (some 5), none, []⟩ :: ⟨.load 4 true (.t 1), (some 6), (some (5, false)), []⟩ :: L84_2
theorem v84_3 : VS L84_3.eq_1 := rfl
def L84_4 : List AStep := ⟨.load 4 true (.t 1), (some 3), none, []⟩ :: ⟨.call 73 [(.t 3)], (some 4), none, []⟩ :: L84_3
theorem v84_4 : VS L84_4.eq_1 := rfl
def C84_0 : ACode := .seq (.reg L84_4) .ret
theorem u84_0 : VC C84_0.eq_1 := rfl
def C84_1 : ACode := .seq (.reg L84_0) C84_0
theorem u84_1 : VC C84_1.eq_1 := rfl
def F84 : AFunc := ⟨9, [.tmp 2], C84_1⟩
theorem cF84 : compB Tryz.prog 84 = some F84 := by kernel_rfl
attribute [local go_sem ↓] u84_0 u84_1 v84_0 v84_1 v84_2 v84_3 v84_4
theorem c_isSingle (p : Param) (h : H) : bm Tryz.prog 84 [.agg (encQ p)] h = some (ib (single p), h) := by
  refine bm_eq cF84 ?_
  simp +contextual (maxSteps := 2000000) only [go_sem, Nat.reduceEqDiff, reduceCtorEq, Nat.reduceAdd, Nat.reduceLeDiff, F84, c_byPlace, c_byName, single]
  cases byPlace p <;> simp
end Go.Proofs.YtdalgphpacikkaaGreat.Am
