/- Contracts of the reference: numbers, names, pairs, flat calls and signatures that are valid. -/
import Derived.Test.YtdalgphpacikkacDat
namespace Go.Proofs.Ytdalgphpacikkac.Am
open Go
set_option maxRecDepth 100000
set_option maxHeartbeats 4000000
set_option linter.unusedSimpArgs false
set_option linter.unusedVariables false
attribute [local go_sem ↓] bv_t bv_c ev_t ev_c put_same put_ne put_none kill_at pro_at lb_same lb_ne start_zero start_succ wpC_seq wpC_reg wpC_cond wpC_block wpC_skip wpC_exit wpC_ret thenQ_normal thenQ_exit thenQ_ret inBlk_normal inBlk_exit inBlk_ret wpS_nil wpS_step wpS_again wpS_guard wpO_mov wpO_load wpO_faddr wpO_nilCheck wpO_pick wpO_build wpO_bin wpO_eqb wpO_eqst wpO_eqnil wpO_not wpO_conv wpO_bytesStr wpO_iaddr wpO_idxStr wpO_field wpO_extract wpO_len wpO_lenStr wpO_cap wpO_min wpO_slice wpO_sliceStr wpO_alloc wpO_box wpO_store wpO_call wpO_callv wpO_mkfn wpO_buildSlice wpO_mkslice wpO_append wpO_appz proA_nil proA_cons tmpX_nil tmpX_tmp tmpX_cell doneB_normal doneB_ret agK_cons agK_nil agK_guard agG_tt agG_ff agG_tf agG_ft agG_undef pureB_load results_one results_two results_nil resBs_cons resBs_nil resB_tmp resB_cell
attribute [local go_sem] kill_v kill_lp_ne kill_lp_same pro_v pro_lp_same pro_lp_ne av_v av_lp optB_some optX_some valX_eq ldX_lp ldX_v faX_lp faX_v ncX_lp ncX_ptr ncX_fn boxK_one boxK_agg stL_some stK_lp_one stK_lp_agg stK_v_one stK_v_agg proM_v proM_lp callG_mk callVG_mk callvK_fn fnG_mk ptrsA_nil ptrsA_cons callH_some whenA_true whenA_false guardH_tt guardH_ff guardH_tf guardH_ft guardH_undef agV_one agV_agg lenO_sl lenStrO_str notO_bool pickO_bool convO_int eqbO_bool eqnilO_sl extractO_tup capO_sl minO_int loadL_one loadL_all storeL_eq fillA_nil fillA_one fillA_agg nat_ge neg_ge nat_lt neg_lt buildO bin_add bin_sub bin_mul bin_eql bin_neq bin_lss bin_leq bin_gtr bin_geq str_eql str_neq str_lss str_leq str_gtr str_geq retK_some endK_mk gcK_same gcK_int gcK_bool tupO_one tupO_agg rdy_self ib ii Option.map_none Option.map_some Option.some.injEq exists_eq_left' exists_eq_left ne_eq not_false_eq_true if_true if_false List.map_cons List.map_nil List.getElem?_cons_zero List.getElem?_cons_succ List.length_cons List.length_nil List.take_succ_cons List.take_zero List.take_nil List.drop_succ_cons List.drop_zero List.drop_nil List.cons_append List.nil_append List.append_nil List.set_cons_zero List.set_cons_succ Nat.zero_add forall_const true_and and_true and_self Bool.false_eq_true false_implies true_implies implies_true Bool.not_true Bool.not_false Bool.not_eq_true' Bool.not_eq_false' beq_self_eq_true Bool.bne_true Bool.bne_false
attribute [local go_sem] lenI lenS lenP lenQ lenB lenL lenT encI_0 encS_0 encP_0 encP_1 encQ_0 encQ_1 encQ_2 encQ_3 encB_0 encB_1 encL_0 encL_1 encT_0 encT_1
attribute [local go_sem low] whenA_bool guardH_bool
/-! spec.inRange -/
def L115_0 : List AStep := [⟨.mov (.c (.bool false)), (some 6), none, []⟩]
theorem v115_0 : VS L115_0.eq_1 := rfl
def L115_1 : List AStep := [⟨.mov (.t 14), (some 6), none, []⟩]
theorem v115_1 : VS L115_1.eq_1 := rfl
def L115_2 : List AStep := ⟨.bin .leq (.t 11) (.t 12), (some 13), (some (10, true)), []⟩ :: ⟨.pick (.t 10) (.t 13) (.c (.bool false)), (some 14), none, []⟩ :: L115_1
theorem v115_2 : VS L115_2.eq_1 := rfl
def L115_3 : List AStep := ⟨.mov (.t 0), (some 11), (some (10, true)), []⟩ :: ⟨.mov (.t 2), (some 12), (some (10, true)), []⟩ :: L115_2
theorem v115_3 : VS L115_3.eq_1 := rfl
def L115_4 : List AStep := ⟨.bin .leq (.t 7) (.t 8), (some 9), none, []⟩ :: ⟨.mov (.t 9), (some 10), none, []⟩ :: L115_3
theorem v115_4 : VS L115_4.eq_1 := rfl
def L115_5 : List AStep := ⟨.mov (.t 1), (some 7), none, []⟩ :: ⟨.mov (.t 0), (some 8), none, []⟩ :: L115_4
theorem v115_5 : VS L115_5.eq_1 := rfl
def C115_0 : ACode := .seq (.reg L115_5) .ret
theorem u115_0 : VC C115_0.eq_1 := rfl
def C115_1 : ACode := .seq (.reg L115_0) C115_0
theorem u115_1 : VC C115_1.eq_1 := rfl
def F115 : AFunc := ⟨15, [.tmp 6], C115_1⟩
theorem cF115 : compB Try.prog 115 = some F115 := by kernel_rfl
attribute [local go_sem ↓] u115_0 u115_1 v115_0 v115_1 v115_2 v115_3 v115_4 v115_5
theorem c_inRange (n lo hi : Int) (h : H) : bm Try.prog 115 [.one (.int .i64 n), .one (.int .i64 lo), .one (.int .i64 hi)] h = some (ib (decide (lo ≤ n) && decide (n ≤ hi)), h) := by
  refine bm_eq cF115 ?_
  simp +contextual (maxSteps := 2000000) only [go_sem, Nat.reduceEqDiff, reduceCtorEq, Nat.reduceAdd, Nat.reduceLeDiff, F115]
  cases decide (lo ≤ n) <;> simp
/-! spec.validNumber -/
def L87_0 : List AStep := [⟨.mov (.c (.bool false)), (some 2), none, []⟩]
theorem v87_0 : VS L87_0.eq_1 := rfl
def L87_1 : List AStep := [⟨.mov (.t 4), (some 2), none, []⟩]
theorem v87_1 : VS L87_1.eq_1 := rfl
def L87_2 : List AStep := ⟨.mov (.t 0), (some 3), none, []⟩ :: ⟨.call 115 [(.t 3), (.c (.int .i64 (-99))), (.c (.int .i64 99))], (some 4), none, []⟩ :: L87_1
theorem v87_2 : VS L87_2.eq_1 := rfl
def C87_0 : ACode := .seq (.reg L87_2) .ret
theorem u87_0 : VC C87_0.eq_1 := rfl
def C87_1 : ACode := .seq (.reg L87_0) C87_0
theorem u87_1 : VC C87_1.eq_1 := rfl
def F87 : AFunc := ⟨5, [.tmp 2], C87_1⟩
theorem cF87 : compB Try.prog 87 = some F87 := by kernel_rfl
attribute [local go_sem ↓] u87_0 u87_1 v87_0 v87_1 v87_2
theorem c_validNumber (n : Int) (h : H) : bm Try.prog 87 [.one (.int .i64 n)] h = some (ib (okNum n), h) := by
  refine bm_eq cF87 ?_
  simp +contextual (maxSteps := 2000000) only [go_sem, Nat.reduceEqDiff, reduceCtorEq, Nat.reduceAdd, Nat.reduceLeDiff, F87, c_inRange, okNum]
/-! spec.validNumbers -/
def L89_0 : List AStep := [⟨.mov (.c (.bool false)), (some 2), none, []⟩]
theorem v89_0 : VS L89_0.eq_1 := rfl
def L89_1 : List AStep := [⟨.mov (.c (.int .i64 0)), (some 3), none, []⟩]
theorem v89_1 : VS L89_1.eq_1 := rfl
def L89_2 : List AStep := [⟨.len (.t 5), (some 6), none, []⟩, ⟨.bin .lss (.t 4) (.t 6), (some 7), none, []⟩]
theorem v89_2 : VS L89_2.eq_1 := rfl
def L89_3 : List AStep := ⟨.mov (.t 3), (some 4), none, []⟩ :: ⟨.mov (.t 0), (some 5), none, []⟩ :: L89_2
theorem v89_3 : VS L89_3.eq_1 := rfl
def L89_4 : List AStep := [⟨.call 87 [(.t 13)], (some 14), none, []⟩, ⟨.not (.t 14), (some 15), none, []⟩]
theorem v89_4 : VS L89_4.eq_1 := rfl
def L89_5 : List AStep := ⟨.iaddr 1 (.t 10) (.t 11), (some 12), none, []⟩ :: ⟨.load 1 false (.t 12), (some 13), none, []⟩ :: L89_4
theorem v89_5 : VS L89_5.eq_1 := rfl
def L89_6 : List AStep := ⟨.mov (.t 0), (some 10), none, []⟩ :: ⟨.mov (.t 3), (some 11), none, []⟩ :: L89_5
theorem v89_6 : VS L89_6.eq_1 := rfl
def L89_7 : List AStep := [⟨.mov (.c (.bool false)), (some 2), none, []⟩]
theorem v89_7 : VS L89_7.eq_1 := rfl
def L89_8 : List AStep := [⟨.mov (.t 9), (some 3), none, []⟩]
theorem v89_8 : VS L89_8.eq_1 := rfl
def L89_9 : List AStep := ⟨.mov (.t 3), (some 8), none, []⟩ :: ⟨.bin .add (.t 8) (.c (.int .i64 1)), (some 9), none, []⟩ :: L89_8
theorem v89_9 : VS L89_9.eq_1 := rfl
def L89_10 : List AStep := [⟨.mov (.c (.bool true)), (some 2), none, []⟩]
theorem v89_10 : VS L89_10.eq_1 := rfl
def C89_0 : ACode := .cond (.t 7) .skip (.exit 0)
theorem u89_0 : VC C89_0.eq_1 := rfl
def C89_1 : ACode := .seq (.reg L89_3) C89_0
theorem u89_1 : VC C89_1.eq_1 := rfl
def C89_2 : ACode := .seq (.reg L89_7) .ret
theorem u89_2 : VC C89_2.eq_1 := rfl
def C89_3 : ACode := .cond (.t 15) C89_2 .skip
theorem u89_3 : VC C89_3.eq_1 := rfl
def C89_4 : ACode := .seq (.reg L89_6) C89_3
theorem u89_4 : VC C89_4.eq_1 := rfl
def C89_5 : ACode := .block 1 C89_4
theorem u89_5 : VC C89_5.eq_1 := rfl
def C89_6 : ACode := .seq C89_5 (.reg L89_9)
theorem u89_6 : VC C89_6.eq_1 := rfl
def C89_7 : ACode := .seq C89_1 C89_6
theorem u89_7 : VC C89_7.eq_1 := rfl
def C89_8 : ACode := .block 0 (.loop C89_7)
theorem u89_8 : VC C89_8.eq_1 := rfl
def C89_9 : ACode := .seq (.reg L89_1) C89_8
theorem u89_9 : VC C89_9.eq_1 := rfl
def C89_10 : ACode := .seq (.reg L89_10) .ret
theorem u89_10 : VC C89_10.eq_1 := rfl
def C89_11 : ACode := .seq C89_9 C89_10
theorem u89_11 : VC C89_11.eq_1 := rfl
def C89_12 : ACode := .seq (.reg L89_0) C89_11
theorem u89_12 : VC C89_12.eq_1 := rfl
def F89 : AFunc := ⟨16, [.tmp 2], C89_12⟩
theorem cF89 : compB Try.prog 89 = some F89 := by kernel_rfl
attribute [local go_sem ↓] u89_0 u89_1 u89_2 u89_3 u89_4 u89_5 u89_6 u89_7 u89_8 u89_9 u89_10 u89_11 u89_12 v89_0 v89_1 v89_2 v89_3 v89_4 v89_5 v89_6 v89_7 v89_8 v89_9 v89_10
theorem c_validNumbers (l : List Int) (v : AV) (h : H) (hl : SlI h v l) (hn : l.length ≤ big) : bm Try.prog 89 [v] h = some (ib (l.all okNum), h) := by
  refine bm_eq cF89 ?_
  simp +contextual (maxSteps := 2000000) only [go_sem, Nat.reduceEqDiff, reduceCtorEq, Nat.reduceAdd, Nat.reduceLeDiff, F89]
  refine wpC_loop (fun i T L h' => h' = h ∧ T 0 = .v v ∧ T 3 = .v (.one (.int .i64 i)) ∧ Pre okNum true l i) l.length ?_ ?_ (Nat.zero_le _) ?_
  · rintro i T L h' hi ⟨rfl, h0, h3, hp⟩
    simp +contextual (maxSteps := 2000000) only [go_sem, Nat.reduceEqDiff, reduceCtorEq, Nat.reduceAdd, Nat.reduceLeDiff, h0, h3, hl.len, hl.iaddr hi, hl.oneO hi, c_validNumber, lt_true hi]
    (repeat' (first | refine And.intro ?_ ?_ | intro _)) <;> first | rfl | rw [wrap_next hi (big_lt hn)] | exact hp.next hi ‹_› | rw [all_stop hi ‹_›]
  · rintro T L h' ⟨rfl, h0, h3, hp⟩
    simp +contextual (maxSteps := 2000000) only [go_sem, Nat.reduceEqDiff, reduceCtorEq, Nat.reduceAdd, Nat.reduceLeDiff, h0, h3, hl.len, lt_false, hp.all]
  · simp +contextual (maxSteps := 2000000) only [go_sem, Nat.reduceEqDiff, reduceCtorEq, Nat.reduceAdd, Nat.reduceLeDiff]
    (repeat' (first | refine And.intro ?_ ?_ | intro _)) <;> first | rfl | exact Pre.zero
/-! spec.pairAt -/
def L88_0 : List AStep := [⟨.mov (.c (.int .i64 0)), (some 4), none, []⟩]
theorem v88_0 : VS L88_0.eq_1 := rfl
def L88_1 : List AStep := [⟨.mov (.c (.int .i64 0)), (some 5), none, []⟩]
theorem v88_1 : VS L88_1.eq_1 := rfl
def L88_2 : List AStep := [⟨.len (.t 7), (some 8), none, []⟩, ⟨.bin .lss (.t 6) (.t 8), (some 9), none, []⟩]
theorem v88_2 : VS L88_2.eq_1 := rfl
def L88_3 : List AStep := ⟨.mov (.t 5), (some 6), none, []⟩ :: ⟨.mov (.t 0), (some 7), none, []⟩ :: L88_2
theorem v88_3 : VS L88_3.eq_1 := rfl
def L88_4 : List AStep := [⟨.bin .eql (.t 16) (.t 17), (some 18), none, []⟩]
theorem v88_4 : VS L88_4.eq_1 := rfl
def L88_5 : List AStep := ⟨.load 1 false (.t 15), (some 16), none, []⟩ :: ⟨.mov (.t 1), (some 17), none, []⟩ :: L88_4
theorem v88_5 : VS L88_5.eq_1 := rfl
def L88_6 : List AStep := ⟨.iaddr 2 (.t 12) (.t 13), (some 14), none, []⟩ :: ⟨.faddr 0 (.t 14), (some 15), none, []⟩ :: L88_5
theorem v88_6 : VS L88_6.eq_1 := rfl
def L88_7 : List AStep := ⟨.mov (.t 0), (some 12), none, []⟩ :: ⟨.mov (.t 5), (some 13), none, []⟩ :: L88_6
theorem v88_7 : VS L88_7.eq_1 := rfl
def L88_8 : List AStep := [⟨.mov (.t 5), (some 19), none, []⟩, ⟨.mov (.t 19), (some 4), none, []⟩]
theorem v88_8 : VS L88_8.eq_1 := rfl
def L88_9 : List AStep := [⟨.mov (.t 11), (some 5), none, []⟩]
theorem v88_9 : VS L88_9.eq_1 := rfl
def L88_10 : List AStep := ⟨.mov (.t 5), (some 10), none, []⟩ :: ⟨.bin .add (.t 10) (.c (.int .i64 1)), (some 11), none, []⟩ :: L88_9
theorem v88_10 : VS L88_10.eq_1 := rfl
def L88_11 : List AStep := [⟨.mov (.c (.int .i64 (-1))), (some 4), none, []⟩]
theorem v88_11 : VS L88_11.eq_1 := rfl
def C88_0 : ACode := .cond (.t 9) .skip (.exit 0)
theorem u88_0 : VC C88_0.eq_1 := rfl
def C88_1 : ACode := .seq (.reg L88_3) C88_0
theorem u88_1 : VC C88_1.eq_1 := rfl
def C88_2 : ACode := .seq (.reg L88_8) .ret
theorem u88_2 : VC C88_2.eq_1 := rfl
def C88_3 : ACode := .cond (.t 18) C88_2 .skip
theorem u88_3 : VC C88_3.eq_1 := rfl
def C88_4 : ACode := .seq (.reg L88_7) C88_3
theorem u88_4 : VC C88_4.eq_1 := rfl
def C88_5 : ACode := .block 1 C88_4
theorem u88_5 : VC C88_5.eq_1 := rfl
def C88_6 : ACode := .seq C88_5 (.reg L88_10)
theorem u88_6 : VC C88_6.eq_1 := rfl
def C88_7 : ACode := .seq C88_1 C88_6
theorem u88_7 : VC C88_7.eq_1 := rfl
def C88_8 : ACode := .block 0 (.loop C88_7)
theorem u88_8 : VC C88_8.eq_1 := rfl
def C88_9 : ACode := .seq (.reg L88_1) C88_8
theorem u88_9 : VC C88_9.eq_1 := rfl
def C88_10 : ACode := .seq (.reg L88_11) .ret
theorem u88_10 : VC C88_10.eq_1 := rfl
def C88_11 : ACode := .seq C88_9 C88_10
theorem u88_11 : VC C88_11.eq_1 := rfl
def C88_12 : ACode := .seq (.reg L88_0) C88_11
theorem u88_12 : VC C88_12.eq_1 := rfl
def F88 : AFunc := ⟨20, [.tmp 4], C88_12⟩
theorem cF88 : compB Try.prog 88 = some F88 := by kernel_rfl
attribute [local go_sem ↓] u88_0 u88_1 u88_2 u88_3 u88_4 u88_5 u88_6 u88_7 u88_8 u88_9 u88_10 u88_11 u88_12 v88_0 v88_1 v88_2 v88_3 v88_4 v88_5 v88_6 v88_7 v88_8 v88_9 v88_10 v88_11
theorem c_pairAt (l : List Pair) (v : AV) (s : ByteArray) (h : H) (hl : SlP h v l) (hn : smP l) : bm Try.prog 88 [v, .one (.str s)] h = some (ii (pairAt l s), h) := by
  refine bm_eq cF88 ?_
  simp +contextual (maxSteps := 2000000) only [go_sem, Nat.reduceEqDiff, reduceCtorEq, Nat.reduceAdd, Nat.reduceLeDiff, F88]
  refine wpC_loop (fun i T L h' => h' = h ∧ T 0 = .v v ∧ T 1 = .v (.one (.str s)) ∧ T 5 = .v (.one (.int .i64 i)) ∧ Pre (fun p => decide (p.name = s)) false l i) l.length ?_ ?_ (Nat.zero_le _) ?_
  · rintro i T L h' hi ⟨rfl, h0, h1, h3, hp⟩
    simp +contextual (maxSteps := 2000000) only [go_sem, Nat.reduceEqDiff, reduceCtorEq, Nat.reduceAdd, Nat.reduceLeDiff, h0, h1, h3, hl.len, hl.iaddr hi, hl.fieldO hi, lt_true hi]
    (repeat' (first | refine And.intro ?_ ?_ | intro _)) <;> first | rfl | rw [wrap_next hi hn.len] | exact hp.next hi ‹_› | rw [pairAt, idx_hit hi hp ‹_›]
  · rintro T L h' ⟨rfl, h0, h1, h3, hp⟩
    simp +contextual (maxSteps := 2000000) only [go_sem, Nat.reduceEqDiff, reduceCtorEq, Nat.reduceAdd, Nat.reduceLeDiff, h0, h1, h3, hl.len, lt_false, pairAt, idx_none hp]
  · simp +contextual (maxSteps := 2000000) only [go_sem, Nat.reduceEqDiff, reduceCtorEq, Nat.reduceAdd, Nat.reduceLeDiff]
    (repeat' (first | refine And.intro ?_ ?_ | intro _)) <;> first | rfl | exact Pre.zero
/-! spec.validName -/
def L114_0 : List AStep := [⟨.mov (.c (.bool false)), (some 2), none, []⟩]
theorem v114_0 : VS L114_0.eq_1 := rfl
def L114_1 : List AStep := [⟨.mov (.c (.int .i64 0)), (some 3), none, []⟩]
theorem v114_1 : VS L114_1.eq_1 := rfl
def L114_2 : List AStep := [⟨.lenStr (.t 5), (some 6), none, []⟩, ⟨.bin .lss (.t 4) (.t 6), (some 7), none, []⟩]
theorem v114_2 : VS L114_2.eq_1 := rfl
def L114_3 : List AStep := ⟨.mov (.t 3), (some 4), none, []⟩ :: ⟨.mov (.t 0), (some 5), none, []⟩ :: L114_2
theorem v114_3 : VS L114_3.eq_1 := rfl
def L114_4 : List AStep := [⟨.bin .gtr (.t 17) (.c (.int .u8 122)), (some 18), (some (14, false)), []⟩, ⟨.pick (.t 14) (.c (.bool true)) (.t 18), (some 19), none, []⟩]
theorem v114_4 : VS L114_4.eq_1 := rfl
def L114_5 : List AStep := ⟨.mov (.t 3), (some 16), (some (14, false)), []⟩ :: ⟨.idxStr (.t 15) (.t 16), (some 17), (some (14, false)), []⟩ :: L114_4
theorem v114_5 : VS L114_5.eq_1 := rfl
def L114_6 : List AStep := ⟨.mov (.t 13), (some 14), none, []⟩ :: ⟨.mov (.t 0), (some 15), (some (14, false)), []⟩ :: L114_5
theorem v114_6 : VS L114_6.eq_1 := rfl
def L114_7 : List AStep := ⟨.idxStr (.t 10) (.t 11), (some 12), none, []⟩ :: ⟨.bin .lss (.t 12) (.c (.int .u8 97)), (some 13), none, []⟩ :: L114_6
theorem v114_7 : VS L114_7.eq_1 := rfl
def L114_8 : List AStep := ⟨.mov (.t 0), (some 10), none, []⟩ :: ⟨.mov (.t 3), (some 11), none, []⟩ :: L114_7
theorem v114_8 : VS L114_8.eq_1 := rfl
def L114_9 : List AStep := [⟨.mov (.c (.bool false)), (some 2), none, []⟩]
theorem v114_9 : VS L114_9.eq_1 := rfl
def L114_10 : List AStep := [⟨.mov (.t 9), (some 3), none, []⟩]
theorem v114_10 : VS L114_10.eq_1 := rfl
def L114_11 : List AStep := ⟨.mov (.t 3), (some 8), none, []⟩ :: ⟨.bin .add (.t 8) (.c (.int .i64 1)), (some 9), none, []⟩ :: L114_10
theorem v114_11 : VS L114_11.eq_1 := rfl
def L114_12 : List AStep := [⟨.call 115 [(.t 21), (.c (.int .i64 1)), (.c (.int .i64 6))], (some 22), none, []⟩, ⟨.mov (.t 22), (some 2), none, []⟩]
theorem v114_12 : VS L114_12.eq_1 := rfl
def L114_13 : List AStep := ⟨.mov (.t 0), (some 20), none, []⟩ :: ⟨.lenStr (.t 20), (some 21), none, []⟩ :: L114_12
theorem v114_13 : VS L114_13.eq_1 := rfl
def C114_0 : ACode := .cond (.t 7) .skip (.exit 0)
theorem u114_0 : VC C114_0.eq_1 := rfl
def C114_1 : ACode := .seq (.reg L114_3) C114_0
theorem u114_1 : VC C114_1.eq_1 := rfl
def C114_2 : ACode := .seq (.reg L114_9) .ret
theorem u114_2 : VC C114_2.eq_1 := rfl
def C114_3 : ACode := .cond (.t 19) C114_2 .skip
theorem u114_3 : VC C114_3.eq_1 := rfl
def C114_4 : ACode := .seq (.reg L114_8) C114_3
theorem u114_4 : VC C114_4.eq_1 := rfl
def C114_5 : ACode := .block 1 C114_4
theorem u114_5 : VC C114_5.eq_1 := rfl
def C114_6 : ACode := .seq C114_5 (.reg L114_11)
theorem u114_6 : VC C114_6.eq_1 := rfl
def C114_7 : ACode := .seq C114_1 C114_6
theorem u114_7 : VC C114_7.eq_1 := rfl
def C114_8 : ACode := .block 0 (.loop C114_7)
theorem u114_8 : VC C114_8.eq_1 := rfl
def C114_9 : ACode := .seq (.reg L114_1) C114_8
theorem u114_9 : VC C114_9.eq_1 := rfl
def C114_10 : ACode := .seq (.reg L114_13) .ret
theorem u114_10 : VC C114_10.eq_1 := rfl
def C114_11 : ACode := .seq C114_9 C114_10
theorem u114_11 : VC C114_11.eq_1 := rfl
def C114_12 : ACode := .seq (.reg L114_0) C114_11
theorem u114_12 : VC C114_12.eq_1 := rfl
def F114 : AFunc := ⟨23, [.tmp 2], C114_12⟩
theorem cF114 : compB Try.prog 114 = some F114 := by kernel_rfl
attribute [local go_sem ↓] u114_0 u114_1 u114_2 u114_3 u114_4 u114_5 u114_6 u114_7 u114_8 u114_9 u114_10 u114_11 u114_12 v114_0 v114_1 v114_2 v114_3 v114_4 v114_5 v114_6 v114_7 v114_8 v114_9 v114_10 v114_11 v114_12 v114_13
theorem c_validName (s : ByteArray) (h : H) (hn : s.size < 2 ^ 62) : bm Try.prog 114 [.one (.str s)] h = some (ib (okName s), h) := by
  refine bm_eq cF114 ?_
  simp +contextual (maxSteps := 2000000) only [go_sem, Nat.reduceEqDiff, reduceCtorEq, Nat.reduceAdd, Nat.reduceLeDiff, F114]
  have hsz : s.data.toList.length = s.size := Array.length_toList
  refine wpC_loop (fun i T L h' => h' = h ∧ T 0 = .v (.one (.str s)) ∧ T 3 = .v (.one (.int .i64 i)) ∧ Pre isLow true s.data.toList i) s.size ?_ ?_ (Nat.zero_le _) ?_
  · rintro i T L h' hi ⟨rfl, h0, h3, hp⟩
    simp +contextual (maxSteps := 2000000) only [go_sem, Nat.reduceEqDiff, reduceCtorEq, Nat.reduceAdd, Nat.reduceLeDiff, h0, h3, idx_at hi, lt_true hi]
    have e : s.data.toList[i]'(by omega) = s.data[i]'hi := Array.getElem_toList _
    have bad : isLow (s.data[i]'hi) = false → okName s = false := fun hx => by
      unfold okName
      rw [all_stop (l := s.data.toList) (i := i) (by omega) (by rw [e]; exact hx)]
      rfl
    have low : isLow (s.data[i]'hi) = (!(decide ((↑(s.data[i]'hi).toNat : Int) < 97)) && !(decide ((↑(s.data[i]'hi).toNat : Int) > 122))) := by
      unfold isLow
      rw [Bool.eq_iff_iff]
      simp
      omega
    (repeat' (first | refine And.intro ?_ ?_ | intro _)) <;> first | rfl | rw [wrap_next hi hn] | exact hp.next (by omega) (by rw [e, low]; simp_all) | rw [bad (by rw [low]; simp_all)]
  · rintro T L h' ⟨rfl, h0, h3, hp⟩
    rw [← hsz] at hp
    simp +contextual (maxSteps := 2000000) only [go_sem, Nat.reduceEqDiff, reduceCtorEq, Nat.reduceAdd, Nat.reduceLeDiff, h0, h3, lt_false, c_inRange, okName, hp.all, Bool.true_and]
  · simp +contextual (maxSteps := 2000000) only [go_sem, Nat.reduceEqDiff, reduceCtorEq, Nat.reduceAdd, Nat.reduceLeDiff]
    (repeat' (first | refine And.intro ?_ ?_ | intro _)) <;> first | rfl | exact Pre.zero
/-! spec.validPairs -/
def L90_0 : List AStep := [⟨.mov (.c (.bool false)), (some 2), none, []⟩]
theorem v90_0 : VS L90_0.eq_1 := rfl
def L90_1 : List AStep := [⟨.mov (.c (.int .i64 0)), (some 3), none, []⟩]
theorem v90_1 : VS L90_1.eq_1 := rfl
def L90_2 : List AStep := [⟨.len (.t 5), (some 6), none, []⟩, ⟨.bin .lss (.t 4) (.t 6), (some 7), none, []⟩]
theorem v90_2 : VS L90_2.eq_1 := rfl
def L90_3 : List AStep := ⟨.mov (.t 3), (some 4), none, []⟩ :: ⟨.mov (.t 0), (some 5), none, []⟩ :: L90_2
theorem v90_3 : VS L90_3.eq_1 := rfl
def L90_4 : List AStep := [⟨.not (.t 23), (some 24), (some (17, false)), []⟩, ⟨.pick (.t 17) (.c (.bool true)) (.t 24), (some 25), none, []⟩]
theorem v90_4 : VS L90_4.eq_1 := rfl
def L90_5 : List AStep := ⟨.load 1 false (.t 21), (some 22), (some (17, false)), []⟩ :: ⟨.call 87 [(.t 22)], (some 23), (some (17, false)), []⟩ :: L90_4
theorem v90_5 : VS L90_5.eq_1 := rfl
def L90_6 : List AStep := ⟨.iaddr 2 (.t 18) (.t 19), (some 20), (some (17, false)), []⟩ :: ⟨.faddr 1 (.t 20), (some 21), (some (17, false)), []⟩ :: L90_5
theorem v90_6 : VS L90_6.eq_1 := rfl
def L90_7 : List AStep := ⟨.mov (.t 0), (some 18), (some (17, false)), []⟩ :: ⟨.mov (.t 3), (some 19), (some (17, false)), []⟩ :: L90_6
theorem v90_7 : VS L90_7.eq_1 := rfl
def L90_8 : List AStep := ⟨.not (.t 15), (some 16), none, []⟩ :: ⟨.mov (.t 16), (some 17), none, []⟩ :: L90_7
theorem v90_8 : VS L90_8.eq_1 := rfl
def L90_9 : List AStep := ⟨.load 1 false (.t 13), (some 14), none, []⟩ :: ⟨.call 114 [(.t 14)], (some 15), none, []⟩ :: L90_8
theorem v90_9 : VS L90_9.eq_1 := rfl
def L90_10 : List AStep := ⟨.iaddr 2 (.t 10) (.t 11), (some 12), none, []⟩ :: ⟨.faddr 0 (.t 12), (some 13), none, []⟩ :: L90_9
theorem v90_10 : VS L90_10.eq_1 := rfl
def L90_11 : List AStep := ⟨.mov (.t 0), (some 10), none, []⟩ :: ⟨.mov (.t 3), (some 11), none, []⟩ :: L90_10
theorem v90_11 : VS L90_11.eq_1 := rfl
def L90_12 : List AStep := [⟨.mov (.c (.bool false)), (some 2), none, []⟩]
theorem v90_12 : VS L90_12.eq_1 := rfl
def L90_13 : List AStep := [⟨.mov (.t 9), (some 3), none, []⟩]
theorem v90_13 : VS L90_13.eq_1 := rfl
def L90_14 : List AStep := ⟨.mov (.t 3), (some 8), none, []⟩ :: ⟨.bin .add (.t 8) (.c (.int .i64 1)), (some 9), none, []⟩ :: L90_13
theorem v90_14 : VS L90_14.eq_1 := rfl
def L90_15 : List AStep := [⟨.mov (.c (.bool true)), (some 2), none, []⟩]
theorem v90_15 : VS L90_15.eq_1 := rfl
def C90_0 : ACode := .cond (.t 7) .skip (.exit 0)
theorem u90_0 : VC C90_0.eq_1 := rfl
def C90_1 : ACode := .seq (.reg L90_3) C90_0
theorem u90_1 : VC C90_1.eq_1 := rfl
def C90_2 : ACode := .seq (.reg L90_12) .ret
theorem u90_2 : VC C90_2.eq_1 := rfl
def C90_3 : ACode := .cond (.t 25) C90_2 .skip
theorem u90_3 : VC C90_3.eq_1 := rfl
def C90_4 : ACode := .seq (.reg L90_11) C90_3
theorem u90_4 : VC C90_4.eq_1 := rfl
def C90_5 : ACode := .block 1 C90_4
theorem u90_5 : VC C90_5.eq_1 := rfl
def C90_6 : ACode := .seq C90_5 (.reg L90_14)
theorem u90_6 : VC C90_6.eq_1 := rfl
def C90_7 : ACode := .seq C90_1 C90_6
theorem u90_7 : VC C90_7.eq_1 := rfl
def C90_8 : ACode := .block 0 (.loop C90_7)
theorem u90_8 : VC C90_8.eq_1 := rfl
def C90_9 : ACode := .seq (.reg L90_1) C90_8
theorem u90_9 : VC C90_9.eq_1 := rfl
def C90_10 : ACode := .seq (.reg L90_15) .ret
theorem u90_10 : VC C90_10.eq_1 := rfl
def C90_11 : ACode := .seq C90_9 C90_10
theorem u90_11 : VC C90_11.eq_1 := rfl
def C90_12 : ACode := .seq (.reg L90_0) C90_11
theorem u90_12 : VC C90_12.eq_1 := rfl
def F90 : AFunc := ⟨26, [.tmp 2], C90_12⟩
theorem cF90 : compB Try.prog 90 = some F90 := by kernel_rfl
attribute [local go_sem ↓] u90_0 u90_1 u90_2 u90_3 u90_4 u90_5 u90_6 u90_7 u90_8 u90_9 u90_10 u90_11 u90_12 v90_0 v90_1 v90_2 v90_3 v90_4 v90_5 v90_6 v90_7 v90_8 v90_9 v90_10 v90_11 v90_12 v90_13 v90_14 v90_15
theorem c_validPairs (l : List Pair) (v : AV) (h : H) (hl : SlP h v l) (hn : smP l) : bm Try.prog 90 [v] h = some (ib (l.all okPair), h) := by
  refine bm_eq cF90 ?_
  simp +contextual (maxSteps := 2000000) only [go_sem, Nat.reduceEqDiff, reduceCtorEq, Nat.reduceAdd, Nat.reduceLeDiff, F90]
  refine wpC_loop (fun i T L h' => h' = h ∧ T 0 = .v v ∧ T 3 = .v (.one (.int .i64 i)) ∧ Pre okPair true l i) l.length ?_ ?_ (Nat.zero_le _) ?_
  · rintro i T L h' hi ⟨rfl, h0, h3, hp⟩
    simp +contextual (maxSteps := 2000000) only [go_sem, Nat.reduceEqDiff, reduceCtorEq, Nat.reduceAdd, Nat.reduceLeDiff, h0, h3, hl.len, hl.iaddr hi, hl.fieldO hi, c_validNumber, c_validName _ _ (hn.at hi), lt_true hi]
    (repeat' (first | refine And.intro ?_ ?_ | intro _)) <;> first | rfl | rw [wrap_next hi hn.len] | exact hp.next hi (by simp [okPair, *]) | rw [all_stop hi (by simp [okPair, *])]
  · rintro T L h' ⟨rfl, h0, h3, hp⟩
    simp +contextual (maxSteps := 2000000) only [go_sem, Nat.reduceEqDiff, reduceCtorEq, Nat.reduceAdd, Nat.reduceLeDiff, h0, h3, hl.len, lt_false, hp.all]
  · simp +contextual (maxSteps := 2000000) only [go_sem, Nat.reduceEqDiff, reduceCtorEq, Nat.reduceAdd, Nat.reduceLeDiff]
    (repeat' (first | refine And.intro ?_ ?_ | intro _)) <;> first | rfl | exact Pre.zero
/-! spec.validFlat -/
def L41_0 : List AStep := [⟨.box 33 (.t 0), (some 1), none, []⟩, ⟨.mov (.c (.bool false)), (some 2), none, []⟩]
theorem v41_0 : VS L41_0.eq_1 := rfl
def L41_1 : List AStep := [⟨.mov (.c (.int .i64 0)), (some 3), none, []⟩]
theorem v41_1 : VS L41_1.eq_1 := rfl
def L41_2 : List AStep := [⟨.bin .lss (.t 4) (.t 7), (some 8), none, []⟩]
theorem v41_2 : VS L41_2.eq_1 := rfl
def L41_3 : List AStep := ⟨.load 1 false (.t 5), (some 6), none, []⟩ :: ⟨.len (.t 6), (some 7), none, []⟩ :: L41_2
theorem v41_3 : VS L41_3.eq_1 := rfl
def L41_4 : List AStep := ⟨.mov (.t 3), (some 4), none, []⟩ :: ⟨.faddr 1 (.t 1), (some 5), none, []⟩ :: L41_3
theorem v41_4 : VS L41_4.eq_1 := rfl
def L41_5 : List AStep := [⟨.call 88 [(.t 14), (.t 20)], (some 21), none, []⟩, ⟨.bin .geq (.t 21) (.c (.int .i64 0)), (some 22), none, []⟩]
theorem v41_5 : VS L41_5.eq_1 := rfl
def L41_6 : List AStep := ⟨.faddr 0 (.t 18), (some 19), none, []⟩ :: ⟨.load 1 false (.t 19), (some 20), none, []⟩ :: L41_5
theorem v41_6 : VS L41_6.eq_1 := rfl
def L41_7 : List AStep := ⟨.mov (.t 3), (some 17), none, []⟩ :: ⟨.iaddr 2 (.t 16) (.t 17), (some 18), none, []⟩ :: L41_6
theorem v41_7 : VS L41_7.eq_1 := rfl
def L41_8 : List AStep := ⟨.faddr 1 (.t 1), (some 15), none, []⟩ :: ⟨.load 1 false (.t 15), (some 16), none, []⟩ :: L41_7
theorem v41_8 : VS L41_8.eq_1 := rfl
def L41_9 : List AStep := ⟨.mov (.t 3), (some 13), none, []⟩ :: ⟨.slice 106 2 (.t 12) none (some (.t 13)) none, (some 14), none, []⟩ :: L41_8
theorem v41_9 : VS L41_9.eq_1 := rfl
def L41_10 : List AStep := ⟨.faddr 1 (.t 1), (some 11), none, []⟩ :: ⟨.load 1 false (.t 11), (some 12), none, []⟩ :: L41_9
theorem v41_10 : VS L41_10.eq_1 := rfl
def L41_11 : List AStep := [⟨.mov (.c (.bool false)), (some 2), none, []⟩]
theorem v41_11 : VS L41_11.eq_1 := rfl
def L41_12 : List AStep := [⟨.mov (.t 10), (some 3), none, []⟩]
theorem v41_12 : VS L41_12.eq_1 := rfl
def L41_13 : List AStep := ⟨.mov (.t 3), (some 9), none, []⟩ :: ⟨.bin .add (.t 9) (.c (.int .i64 1)), (some 10), none, []⟩ :: L41_12
theorem v41_13 : VS L41_13.eq_1 := rfl
def L41_14 : List AStep := [⟨.mov (.t 42), (some 2), none, []⟩]
theorem v41_14 : VS L41_14.eq_1 := rfl
def L41_15 : List AStep := ⟨.bin .leq (.t 40) (.c (.int .i64 8)), (some 41), (some (37, true)), []⟩ :: ⟨.pick (.t 37) (.t 41) (.c (.bool false)), (some 42), none, []⟩ :: L41_14
theorem v41_15 : VS L41_15.eq_1 := rfl
def L41_16 : List AStep := ⟨.load 1 false (.t 38), (some 39), (some (37, true)), []⟩ :: ⟨.len (.t 39), (some 40), (some (37, true)), []⟩ :: L41_15
theorem v41_16 : VS L41_16.eq_1 := rfl
def L41_17 : List AStep := ⟨.mov (.t 36), (some 37), none, []⟩ :: ⟨.faddr 1 (.t 1), (some 38), (some (37, true)), []⟩ :: L41_16
theorem v41_17 : VS L41_17.eq_1 := rfl
def L41_18 : List AStep := ⟨.bin .leq (.t 34) (.c (.int .i64 8)), (some 35), (some (31, true)), []⟩ :: ⟨.pick (.t 31) (.t 35) (.c (.bool false)), (some 36), none, []⟩ :: L41_17
theorem v41_18 : VS L41_18.eq_1 := rfl
def L41_19 : List AStep := ⟨.load 1 false (.t 32), (some 33), (some (31, true)), []⟩ :: ⟨.len (.t 33), (some 34), (some (31, true)), []⟩ :: L41_18
theorem v41_19 : VS L41_19.eq_1 := rfl
def L41_20 : List AStep := ⟨.mov (.t 30), (some 31), none, []⟩ :: ⟨.faddr 0 (.t 1), (some 32), (some (31, true)), []⟩ :: L41_19
theorem v41_20 : VS L41_20.eq_1 := rfl
def L41_21 : List AStep := ⟨.call 90 [(.t 28)], (some 29), (some (26, true)), []⟩ :: ⟨.pick (.t 26) (.t 29) (.c (.bool false)), (some 30), none, []⟩ :: L41_20
theorem v41_21 : VS L41_21.eq_1 := rfl
def L41_22 : List AStep := ⟨.faddr 1 (.t 1), (some 27), (some (26, true)), []⟩ :: ⟨.load 1 false (.t 27), (some 28), (some (26, true)), []⟩ :: L41_21
theorem v41_22 : VS L41_22.eq_1 := rfl
def L41_23 : List AStep := ⟨.call 89 [(.t 24)], (some 25), none, []⟩ :: ⟨.mov (.t 25), (some 26), none, []⟩ :: L41_22
theorem v41_23 : VS L41_23.eq_1 := rfl
def L41_24 : List AStep := ⟨.faddr 0 (.t 1), (some 23), none, []⟩ :: ⟨.load 1 false (.t 23), (some 24), none, []⟩ :: L41_23
theorem v41_24 : VS L41_24.eq_1 := rfl
def C41_0 : ACode := .cond (.t 8) .skip (.exit 0)
theorem u41_0 : VC C41_0.eq_1 := rfl
def C41_1 : ACode := .seq (.reg L41_4) C41_0
theorem u41_1 : VC C41_1.eq_1 := rfl
def C41_2 : ACode := .seq (.reg L41_11) .ret
theorem u41_2 : VC C41_2.eq_1 := rfl
def C41_3 : ACode := .cond (.t 22) C41_2 .skip
theorem u41_3 : VC C41_3.eq_1 := rfl
def C41_4 : ACode := .seq (.reg L41_10) C41_3
theorem u41_4 : VC C41_4.eq_1 := rfl
def C41_5 : ACode := .block 1 C41_4
theorem u41_5 : VC C41_5.eq_1 := rfl
def C41_6 : ACode := .seq C41_5 (.reg L41_13)
theorem u41_6 : VC C41_6.eq_1 := rfl
def C41_7 : ACode := .seq C41_1 C41_6
theorem u41_7 : VC C41_7.eq_1 := rfl
def C41_8 : ACode := .block 0 (.loop C41_7)
theorem u41_8 : VC C41_8.eq_1 := rfl
def C41_9 : ACode := .seq (.reg L41_1) C41_8
theorem u41_9 : VC C41_9.eq_1 := rfl
def C41_10 : ACode := .seq (.reg L41_24) .ret
theorem u41_10 : VC C41_10.eq_1 := rfl
def C41_11 : ACode := .seq C41_9 C41_10
theorem u41_11 : VC C41_11.eq_1 := rfl
def C41_12 : ACode := .seq (.reg L41_0) C41_11
theorem u41_12 : VC C41_12.eq_1 := rfl
def F41 : AFunc := ⟨43, [.tmp 2], C41_12⟩
theorem cF41 : compB Try.prog 41 = some F41 := by kernel_rfl
attribute [local go_sem ↓] u41_0 u41_1 u41_2 u41_3 u41_4 u41_5 u41_6 u41_7 u41_8 u41_9 u41_10 u41_11 u41_12 v41_0 v41_1 v41_2 v41_3 v41_4 v41_5 v41_6 v41_7 v41_8 v41_9 v41_10 v41_11 v41_12 v41_13 v41_14 v41_15 v41_16 v41_17 v41_18 v41_19 v41_20 v41_21 v41_22 v41_23 v41_24
theorem c_validFlat (f : Flat) (pv nv : CV) (h : H) (hp : SlI h (.one pv) f.pl) (hq : SlP h (.one nv) f.nl) (hn : smF f) : bm Try.prog 41 [.agg [pv, nv]] h = some (ib (okFlat f), h) := by
  refine bm_eq cF41 ?_
  simp +contextual (maxSteps := 2000000) only [go_sem, Nat.reduceEqDiff, reduceCtorEq, Nat.reduceAdd, Nat.reduceLeDiff, F41]
  refine wpC_loop (fun i T L h' => h' = h ∧ T 1 = .lp 1 0 ∧ (L 1).2 = [pv, nv] ∧ T 3 = .v (.one (.int .i64 i)) ∧ Upto (newAt Pair.name f.nl) i) f.nl.length ?_ ?_ (Nat.zero_le _) ?_
  · rintro i T L h' hi ⟨rfl, t1, l1, t3, hu⟩
    obtain ⟨v', e1, s1⟩ := hq.takeO (i := i) (by omega) (kd := .i64)
    have e2 : decide (pairAt (f.nl.take i) f.nl[i].name ≥ 0) = !(newAt Pair.name f.nl i) := newAt_ge hi
    simp +contextual (maxSteps := 2000000) only [go_sem, Nat.reduceEqDiff, reduceCtorEq, Nat.reduceAdd, Nat.reduceLeDiff, e2, t1, l1, t3, hq.len, hq.iaddr hi, hq.fieldO hi, lt_true hi, e1, c_pairAt _ _ _ _ s1 (hn.nl.take i)]
    (repeat' (first | refine And.intro ?_ ?_ | intro _)) <;> first | rfl | rw [wrap_next hi hn.nl.len] | exact hu.next (by simp_all) | rw [okFlat, apart_not hi (by simp_all)]; rfl
  · rintro T L h' ⟨rfl, t1, l1, t3, hu⟩
    simp +contextual (maxSteps := 2000000) only [go_sem, Nat.reduceEqDiff, reduceCtorEq, Nat.reduceAdd, Nat.reduceLeDiff, t1, l1, t3, hq.len, hp.len, lt_false, c_validNumbers _ _ _ hp hn.pl, c_validPairs _ _ _ hq hn.nl, okFlat, apart_of hu]
    (repeat' (first | refine And.intro ?_ ?_ | intro _)) <;> first | rfl | simp_all
  · simp +contextual (maxSteps := 2000000) only [go_sem, Nat.reduceEqDiff, reduceCtorEq, Nat.reduceAdd, Nat.reduceLeDiff]
    (repeat' (first | refine And.intro ?_ ?_ | intro _)) <;> first | rfl | exact Upto.zero
end Go.Proofs.Ytdalgphpacikkac.Am
