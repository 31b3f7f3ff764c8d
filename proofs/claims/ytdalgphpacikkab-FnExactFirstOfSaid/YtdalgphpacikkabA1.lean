/- Contracts of the reference: numbers, names, pairs, flat calls and signatures that are valid. -/
import Derived.Test.YtdalgphpacikkabDat
namespace Go.Proofs.Ytdalgphpacikkab.Am
open Go
set_option maxRecDepth 100000
set_option maxHeartbeats 4000000
set_option linter.unusedSimpArgs false
set_option linter.unusedVariables false
attribute [local go_sem ↓] bv_t bv_c ev_t ev_c put_same put_ne put_none kill_at pro_at lb_same lb_ne start_zero start_succ wpC_seq wpC_reg wpC_cond wpC_block wpC_skip wpC_exit wpC_ret thenQ_normal thenQ_exit thenQ_ret inBlk_normal inBlk_exit inBlk_ret wpS_nil wpS_step wpS_again wpS_guard wpO_mov wpO_load wpO_faddr wpO_nilCheck wpO_pick wpO_build wpO_bin wpO_eqb wpO_eqst wpO_eqnil wpO_not wpO_conv wpO_bytesStr wpO_iaddr wpO_idxStr wpO_field wpO_extract wpO_len wpO_lenStr wpO_cap wpO_min wpO_slice wpO_sliceStr wpO_alloc wpO_box wpO_store wpO_call wpO_callv wpO_mkfn wpO_buildSlice wpO_mkslice wpO_append wpO_appz proA_nil proA_cons tmpX_nil tmpX_tmp tmpX_cell doneB_normal doneB_ret agK_cons agK_nil agK_guard agG_tt agG_ff agG_tf agG_ft agG_undef pureB_load results_one results_two results_nil resBs_cons resBs_nil resB_tmp resB_cell
attribute [local go_sem] kill_v kill_lp_ne kill_lp_same pro_v pro_lp_same pro_lp_ne av_v av_lp optB_some optX_some valX_eq ldX_lp ldX_v faX_lp faX_v ncX_lp ncX_ptr ncX_fn boxK_one boxK_agg stL_some stK_lp_one stK_lp_agg stK_v_one stK_v_agg proM_v proM_lp callG_mk callVG_mk callvK_fn fnG_mk ptrsA_nil ptrsA_cons callH_some whenA_true whenA_false guardH_tt guardH_ff guardH_tf guardH_ft guardH_undef agV_one agV_agg lenO_sl lenStrO_str notO_bool pickO_bool convO_int eqbO_bool eqnilO_sl extractO_tup capO_sl minO_int loadL_one loadL_all storeL_eq fillA_nil fillA_one fillA_agg nat_ge neg_ge nat_lt neg_lt buildO bin_add bin_sub bin_mul bin_eql bin_neq bin_lss bin_leq bin_gtr bin_geq str_eql str_neq str_lss str_leq str_gtr str_geq retK_some endK_mk gcK_same gcK_int gcK_bool tupO_one tupO_agg rdy_self ib ii Option.map_none Option.map_some Option.some.injEq exists_eq_left' exists_eq_left ne_eq not_false_eq_true if_true if_false List.map_cons List.map_nil List.getElem?_cons_zero List.getElem?_cons_succ List.length_cons List.length_nil List.take_succ_cons List.take_zero List.take_nil List.drop_succ_cons List.drop_zero List.drop_nil List.cons_append List.nil_append List.append_nil List.set_cons_zero List.set_cons_succ Nat.zero_add forall_const true_and and_true and_self Bool.false_eq_true false_implies true_implies implies_true Bool.not_true Bool.not_false Bool.not_eq_true' Bool.not_eq_false' beq_self_eq_true Bool.bne_true Bool.bne_false
attribute [local go_sem] lenI lenS lenP lenQ lenB lenL lenT encI_0 encS_0 encP_0 encP_1 encQ_0 encQ_1 encQ_2 encQ_3 encB_0 encB_1 encL_0 encL_1 encT_0 encT_1
attribute [local go_sem low] whenA_bool guardH_bool
/-! spec.inRange -/
def L138_0 : List AStep := [⟨.mov (.c (.bool false)), (some 6), none, []⟩]
theorem v138_0 : VS L138_0.eq_1 := rfl
def L138_1 : List AStep := [⟨.mov (.t 14), (some 6), none, []⟩]
theorem v138_1 : VS L138_1.eq_1 := rfl
def L138_2 : List AStep := ⟨.bin .leq (.t 11) (.t 12), (some 13), (some (10, true)), []⟩ :: ⟨.pick (.t 10) (.t 13) (.c (.bool false)), (some 14), none, []⟩ :: L138_1
theorem v138_2 : VS L138_2.eq_1 := rfl
def L138_3 : List AStep := ⟨.mov (.t 0), (some 11), (some (10, true)), []⟩ :: ⟨.mov (.t 2), (some 12), (some (10, true)), []⟩ :: L138_2
theorem v138_3 : VS L138_3.eq_1 := rfl
def L138_4 : List AStep := ⟨.bin .leq (.t 7) (.t 8), (some 9), none, []⟩ :: ⟨.mov (.t 9), (some 10), none, []⟩ :: L138_3
theorem v138_4 : VS L138_4.eq_1 := rfl
def L138_5 : List AStep := ⟨.mov (.t 1), (some 7), none, []⟩ :: ⟨.mov (.t 0), (some 8), none, []⟩ :: L138_4
theorem v138_5 : VS L138_5.eq_1 := rfl
def C138_0 : ACode := .seq (.reg L138_5) .ret
theorem u138_0 : VC C138_0.eq_1 := rfl
def C138_1 : ACode := .seq (.reg L138_0) C138_0
theorem u138_1 : VC C138_1.eq_1 := rfl
def F138 : AFunc := ⟨15, [.tmp 6], C138_1⟩
theorem cF138 : compB Try.prog 138 = some F138 := by kernel_rfl
attribute [local go_sem ↓] u138_0 u138_1 v138_0 v138_1 v138_2 v138_3 v138_4 v138_5
theorem c_inRange (n lo hi : Int) (h : H) : bm Try.prog 138 [.one (.int .i64 n), .one (.int .i64 lo), .one (.int .i64 hi)] h = some (ib (decide (lo ≤ n) && decide (n ≤ hi)), h) := by
  refine bm_eq cF138 ?_
  simp +contextual (maxSteps := 2000000) only [go_sem, Nat.reduceEqDiff, reduceCtorEq, Nat.reduceAdd, Nat.reduceLeDiff, F138]
  cases decide (lo ≤ n) <;> simp
/-! spec.validNumber -/
def L126_0 : List AStep := [⟨.mov (.c (.bool false)), (some 2), none, []⟩]
theorem v126_0 : VS L126_0.eq_1 := rfl
def L126_1 : List AStep := [⟨.mov (.t 4), (some 2), none, []⟩]
theorem v126_1 : VS L126_1.eq_1 := rfl
def L126_2 : List AStep := ⟨.mov (.t 0), (some 3), none, []⟩ :: ⟨.call 138 [(.t 3), (.c (.int .i64 (-99))), (.c (.int .i64 99))], (some 4), none, []⟩ :: L126_1
theorem v126_2 : VS L126_2.eq_1 := rfl
def C126_0 : ACode := .seq (.reg L126_2) .ret
theorem u126_0 : VC C126_0.eq_1 := rfl
def C126_1 : ACode := .seq (.reg L126_0) C126_0
theorem u126_1 : VC C126_1.eq_1 := rfl
def F126 : AFunc := ⟨5, [.tmp 2], C126_1⟩
theorem cF126 : compB Try.prog 126 = some F126 := by kernel_rfl
attribute [local go_sem ↓] u126_0 u126_1 v126_0 v126_1 v126_2
theorem c_validNumber (n : Int) (h : H) : bm Try.prog 126 [.one (.int .i64 n)] h = some (ib (okNum n), h) := by
  refine bm_eq cF126 ?_
  simp +contextual (maxSteps := 2000000) only [go_sem, Nat.reduceEqDiff, reduceCtorEq, Nat.reduceAdd, Nat.reduceLeDiff, F126, c_inRange, okNum]
/-! spec.validNumbers -/
def L103_0 : List AStep := [⟨.mov (.c (.bool false)), (some 2), none, []⟩]
theorem v103_0 : VS L103_0.eq_1 := rfl
def L103_1 : List AStep := [⟨.mov (.c (.int .i64 0)), (some 3), none, []⟩]
theorem v103_1 : VS L103_1.eq_1 := rfl
def L103_2 : List AStep := [⟨.len (.t 5), (some 6), none, []⟩, ⟨.bin .lss (.t 4) (.t 6), (some 7), none, []⟩]
theorem v103_2 : VS L103_2.eq_1 := rfl
def L103_3 : List AStep := ⟨.mov (.t 3), (some 4), none, []⟩ :: ⟨.mov (.t 0), (some 5), none, []⟩ :: L103_2
theorem v103_3 : VS L103_3.eq_1 := rfl
def L103_4 : List AStep := [⟨.call 126 [(.t 13)], (some 14), none, []⟩, ⟨.not (.t 14), (some 15), none, []⟩]
theorem v103_4 : VS L103_4.eq_1 := rfl
def L103_5 : List AStep := ⟨.iaddr 1 (.t 10) (.t 11), (some 12), none, []⟩ :: ⟨.load 1 false (.t 12), (some 13), none, []⟩ :: L103_4
theorem v103_5 : VS L103_5.eq_1 := rfl
def L103_6 : List AStep := ⟨.mov (.t 0), (some 10), none, []⟩ :: ⟨.mov (.t 3), (some 11), none, []⟩ :: L103_5
theorem v103_6 : VS L103_6.eq_1 := rfl
def L103_7 : List AStep := [⟨.mov (.c (.bool false)), (some 2), none, []⟩]
theorem v103_7 : VS L103_7.eq_1 := rfl
def L103_8 : List AStep := [⟨.mov (.t 9), (some 3), none, []⟩]
theorem v103_8 : VS L103_8.eq_1 := rfl
def L103_9 : List AStep := ⟨.mov (.t 3), (some 8), none, []⟩ :: ⟨.bin .add (.t 8) (.c (.int .i64 1)), (some 9), none, []⟩ :: L103_8
theorem v103_9 : VS L103_9.eq_1 := rfl
def L103_10 : List AStep := [⟨.mov (.c (.bool true)), (some 2), none, []⟩]
theorem v103_10 : VS L103_10.eq_1 := rfl
def C103_0 : ACode := .cond (.t 7) .skip (.exit 0)
theorem u103_0 : VC C103_0.eq_1 := rfl
def C103_1 : ACode := .seq (.reg L103_3) C103_0
theorem u103_1 : VC C103_1.eq_1 := rfl
def C103_2 : ACode := .seq (.reg L103_7) .ret
theorem u103_2 : VC C103_2.eq_1 := rfl
def C103_3 : ACode := .cond (.t 15) C103_2 .skip
theorem u103_3 : VC C103_3.eq_1 := rfl
def C103_4 : ACode := .seq (.reg L103_6) C103_3
theorem u103_4 : VC C103_4.eq_1 := rfl
def C103_5 : ACode := .block 1 C103_4
theorem u103_5 : VC C103_5.eq_1 := rfl
def C103_6 : ACode := .seq C103_5 (.reg L103_9)
theorem u103_6 : VC C103_6.eq_1 := rfl
def C103_7 : ACode := .seq C103_1 C103_6
theorem u103_7 : VC C103_7.eq_1 := rfl
def C103_8 : ACode := .block 0 (.loop C103_7)
theorem u103_8 : VC C103_8.eq_1 := rfl
def C103_9 : ACode := .seq (.reg L103_1) C103_8
theorem u103_9 : VC C103_9.eq_1 := rfl
def C103_10 : ACode := .seq (.reg L103_10) .ret
theorem u103_10 : VC C103_10.eq_1 := rfl
def C103_11 : ACode := .seq C103_9 C103_10
theorem u103_11 : VC C103_11.eq_1 := rfl
def C103_12 : ACode := .seq (.reg L103_0) C103_11
theorem u103_12 : VC C103_12.eq_1 := rfl
def F103 : AFunc := ⟨16, [.tmp 2], C103_12⟩
theorem cF103 : compB Try.prog 103 = some F103 := by kernel_rfl
attribute [local go_sem ↓] u103_0 u103_1 u103_2 u103_3 u103_4 u103_5 u103_6 u103_7 u103_8 u103_9 u103_10 u103_11 u103_12 v103_0 v103_1 v103_2 v103_3 v103_4 v103_5 v103_6 v103_7 v103_8 v103_9 v103_10
theorem c_validNumbers (l : List Int) (v : AV) (h : H) (hl : SlI h v l) (hn : l.length ≤ big) : bm Try.prog 103 [v] h = some (ib (l.all okNum), h) := by
  refine bm_eq cF103 ?_
  simp +contextual (maxSteps := 2000000) only [go_sem, Nat.reduceEqDiff, reduceCtorEq, Nat.reduceAdd, Nat.reduceLeDiff, F103]
  refine wpC_loop (fun i T L h' => h' = h ∧ T 0 = .v v ∧ T 3 = .v (.one (.int .i64 i)) ∧ Pre okNum true l i) l.length ?_ ?_ (Nat.zero_le _) ?_
  · rintro i T L h' hi ⟨rfl, h0, h3, hp⟩
    simp +contextual (maxSteps := 2000000) only [go_sem, Nat.reduceEqDiff, reduceCtorEq, Nat.reduceAdd, Nat.reduceLeDiff, h0, h3, hl.len, hl.iaddr hi, hl.oneO hi, c_validNumber, lt_true hi]
    (repeat' (first | refine And.intro ?_ ?_ | intro _)) <;> first | rfl | rw [wrap_next hi (big_lt hn)] | exact hp.next hi ‹_› | rw [all_stop hi ‹_›]
  · rintro T L h' ⟨rfl, h0, h3, hp⟩
    simp +contextual (maxSteps := 2000000) only [go_sem, Nat.reduceEqDiff, reduceCtorEq, Nat.reduceAdd, Nat.reduceLeDiff, h0, h3, hl.len, lt_false, hp.all]
  · simp +contextual (maxSteps := 2000000) only [go_sem, Nat.reduceEqDiff, reduceCtorEq, Nat.reduceAdd, Nat.reduceLeDiff]
    (repeat' (first | refine And.intro ?_ ?_ | intro _)) <;> first | rfl | exact Pre.zero
/-! spec.pairAt -/
def L102_0 : List AStep := [⟨.mov (.c (.int .i64 0)), (some 4), none, []⟩]
theorem v102_0 : VS L102_0.eq_1 := rfl
def L102_1 : List AStep := [⟨.mov (.c (.int .i64 0)), (some 5), none, []⟩]
theorem v102_1 : VS L102_1.eq_1 := rfl
def L102_2 : List AStep := [⟨.len (.t 7), (some 8), none, []⟩, ⟨.bin .lss (.t 6) (.t 8), (some 9), none, []⟩]
theorem v102_2 : VS L102_2.eq_1 := rfl
def L102_3 : List AStep := ⟨.mov (.t 5), (some 6), none, []⟩ :: ⟨.mov (.t 0), (some 7), none, []⟩ :: L102_2
theorem v102_3 : VS L102_3.eq_1 := rfl
def L102_4 : List AStep := [⟨.bin .eql (.t 16) (.t 17), (some 18), none, []⟩]
theorem v102_4 : VS L102_4.eq_1 := rfl
def L102_5 : List AStep := ⟨.load 1 false (.t 15), (some 16), none, []⟩ :: ⟨.mov (.t 1), (some 17), none, []⟩ :: L102_4
theorem v102_5 : VS L102_5.eq_1 := rfl
def L102_6 : List AStep := ⟨.iaddr 2 (.t 12) (.t 13), (some 14), none, []⟩ :: ⟨.faddr 0 (.t 14), (some 15), none, []⟩ :: L102_5
theorem v102_6 : VS L102_6.eq_1 := rfl
def L102_7 : List AStep := ⟨.mov (.t 0), (some 12), none, []⟩ :: ⟨.mov (.t 5), (some 13), none, []⟩ :: L102_6
theorem v102_7 : VS L102_7.eq_1 := rfl
def L102_8 : List AStep := [⟨.mov (.t 5), (some 19), none, []⟩, ⟨.mov (.t 19), (some 4), none, []⟩]
theorem v102_8 : VS L102_8.eq_1 := rfl
def L102_9 : List AStep := [⟨.mov (.t 11), (some 5), none, []⟩]
theorem v102_9 : VS L102_9.eq_1 := rfl
def L102_10 : List AStep := ⟨.mov (.t 5), (some 10), none, []⟩ :: ⟨.bin .add (.t 10) (.c (.int .i64 1)), (some 11), none, []⟩ :: L102_9
theorem v102_10 : VS L102_10.eq_1 := rfl
def L102_11 : List AStep := [⟨.mov (.c (.int .i64 (-1))), (some 4), none, []⟩]
theorem v102_11 : VS L102_11.eq_1 := rfl
def C102_0 : ACode := .cond (.t 9) .skip (.exit 0)
theorem u102_0 : VC C102_0.eq_1 := rfl
def C102_1 : ACode := .seq (.reg L102_3) C102_0
theorem u102_1 : VC C102_1.eq_1 := rfl
def C102_2 : ACode := .seq (.reg L102_8) .ret
theorem u102_2 : VC C102_2.eq_1 := rfl
def C102_3 : ACode := .cond (.t 18) C102_2 .skip
theorem u102_3 : VC C102_3.eq_1 := rfl
def C102_4 : ACode := .seq (.reg L102_7) C102_3
theorem u102_4 : VC C102_4.eq_1 := rfl
def C102_5 : ACode := .block 1 C102_4
theorem u102_5 : VC C102_5.eq_1 := rfl
def C102_6 : ACode := .seq C102_5 (.reg L102_10)
theorem u102_6 : VC C102_6.eq_1 := rfl
def C102_7 : ACode := .seq C102_1 C102_6
theorem u102_7 : VC C102_7.eq_1 := rfl
def C102_8 : ACode := .block 0 (.loop C102_7)
theorem u102_8 : VC C102_8.eq_1 := rfl
def C102_9 : ACode := .seq (.reg L102_1) C102_8
theorem u102_9 : VC C102_9.eq_1 := rfl
def C102_10 : ACode := .seq (.reg L102_11) .ret
theorem u102_10 : VC C102_10.eq_1 := rfl
def C102_11 : ACode := .seq C102_9 C102_10
theorem u102_11 : VC C102_11.eq_1 := rfl
def C102_12 : ACode := .seq (.reg L102_0) C102_11
theorem u102_12 : VC C102_12.eq_1 := rfl
def F102 : AFunc := ⟨20, [.tmp 4], C102_12⟩
theorem cF102 : compB Try.prog 102 = some F102 := by kernel_rfl
attribute [local go_sem ↓] u102_0 u102_1 u102_2 u102_3 u102_4 u102_5 u102_6 u102_7 u102_8 u102_9 u102_10 u102_11 u102_12 v102_0 v102_1 v102_2 v102_3 v102_4 v102_5 v102_6 v102_7 v102_8 v102_9 v102_10 v102_11
theorem c_pairAt (l : List Pair) (v : AV) (s : ByteArray) (h : H) (hl : SlP h v l) (hn : smP l) : bm Try.prog 102 [v, .one (.str s)] h = some (ii (pairAt l s), h) := by
  refine bm_eq cF102 ?_
  simp +contextual (maxSteps := 2000000) only [go_sem, Nat.reduceEqDiff, reduceCtorEq, Nat.reduceAdd, Nat.reduceLeDiff, F102]
  refine wpC_loop (fun i T L h' => h' = h ∧ T 0 = .v v ∧ T 1 = .v (.one (.str s)) ∧ T 5 = .v (.one (.int .i64 i)) ∧ Pre (fun p => decide (p.name = s)) false l i) l.length ?_ ?_ (Nat.zero_le _) ?_
  · rintro i T L h' hi ⟨rfl, h0, h1, h3, hp⟩
    simp +contextual (maxSteps := 2000000) only [go_sem, Nat.reduceEqDiff, reduceCtorEq, Nat.reduceAdd, Nat.reduceLeDiff, h0, h1, h3, hl.len, hl.iaddr hi, hl.fieldO hi, lt_true hi]
    (repeat' (first | refine And.intro ?_ ?_ | intro _)) <;> first | rfl | rw [wrap_next hi hn.len] | exact hp.next hi ‹_› | rw [pairAt, idx_hit hi hp ‹_›]
  · rintro T L h' ⟨rfl, h0, h1, h3, hp⟩
    simp +contextual (maxSteps := 2000000) only [go_sem, Nat.reduceEqDiff, reduceCtorEq, Nat.reduceAdd, Nat.reduceLeDiff, h0, h1, h3, hl.len, lt_false, pairAt, idx_none hp]
  · simp +contextual (maxSteps := 2000000) only [go_sem, Nat.reduceEqDiff, reduceCtorEq, Nat.reduceAdd, Nat.reduceLeDiff]
    (repeat' (first | refine And.intro ?_ ?_ | intro _)) <;> first | rfl | exact Pre.zero
/-! spec.validName -/
def L127_0 : List AStep := [⟨.mov (.c (.bool false)), (some 2), none, []⟩]
theorem v127_0 : VS L127_0.eq_1 := rfl
def L127_1 : List AStep := [⟨.mov (.c (.int .i64 0)), (some 3), none, []⟩]
theorem v127_1 : VS L127_1.eq_1 := rfl
def L127_2 : List AStep := [⟨.lenStr (.t 5), (some 6), none, []⟩, ⟨.bin .lss (.t 4) (.t 6), (some 7), none, []⟩]
theorem v127_2 : VS L127_2.eq_1 := rfl
def L127_3 : List AStep := ⟨.mov (.t 3), (some 4), none, []⟩ :: ⟨.mov (.t 0), (some 5), none, []⟩ :: L127_2
theorem v127_3 : VS L127_3.eq_1 := rfl
def L127_4 : List AStep := [⟨.bin .gtr (.t 17) (.c (.int .u8 122)), (some 18), (some (14, false)), []⟩, ⟨.pick (.t 14) (.c (.bool true)) (.t 18), (some 19), none, []⟩]
theorem v127_4 : VS L127_4.eq_1 := rfl
def L127_5 : List AStep := ⟨.mov (.t 3), (some 16), (some (14, false)), []⟩ :: ⟨.idxStr (.t 15) (.t 16), (some 17), (some (14, false)), []⟩ :: L127_4
theorem v127_5 : VS L127_5.eq_1 := rfl
def L127_6 : List AStep := ⟨.mov (.t 13), (some 14), none, []⟩ :: ⟨.mov (.t 0), (some 15), (some (14, false)), []⟩ :: L127_5
theorem v127_6 : VS L127_6.eq_1 := rfl
def L127_7 : List AStep := ⟨.idxStr (.t 10) (.t 11), (some 12), none, []⟩ :: ⟨.bin .lss (.t 12) (.c (.int .u8 97)), (some 13), none, []⟩ :: L127_6
theorem v127_7 : VS L127_7.eq_1 := rfl
def L127_8 : List AStep := ⟨.mov (.t 0), (some 10), none, []⟩ :: ⟨.mov (.t 3), (some 11), none, []⟩ :: L127_7
theorem v127_8 : VS L127_8.eq_1 := rfl
def L127_9 : List AStep := [⟨.mov (.c (.bool false)), (some 2), none, []⟩]
theorem v127_9 : VS L127_9.eq_1 := rfl
def L127_10 : List AStep := [⟨.mov (.t 9), (some 3), none, []⟩]
theorem v127_10 : VS L127_10.eq_1 := rfl
def L127_11 : List AStep := ⟨.mov (.t 3), (some 8), none, []⟩ :: ⟨.bin .add (.t 8) (.c (.int .i64 1)), (some 9), none, []⟩ :: L127_10
theorem v127_11 : VS L127_11.eq_1 := rfl
def L127_12 : List AStep := [⟨.call 138 [(.t 21), (.c (.int .i64 1)), (.c (.int .i64 6))], (some 22), none, []⟩, ⟨.mov (.t 22), (some 2), none, []⟩]
theorem v127_12 : VS L127_12.eq_1 := rfl
def L127_13 : List AStep := ⟨.mov (.t 0), (some 20), none, []⟩ :: ⟨.lenStr (.t 20), (some 21), none, []⟩ :: L127_12
theorem v127_13 : VS L127_13.eq_1 := rfl
def C127_0 : ACode := .cond (.t 7) .skip (.exit 0)
theorem u127_0 : VC C127_0.eq_1 := rfl
def C127_1 : ACode := .seq (.reg L127_3) C127_0
theorem u127_1 : VC C127_1.eq_1 := rfl
def C127_2 : ACode := .seq (.reg L127_9) .ret
theorem u127_2 : VC C127_2.eq_1 := rfl
def C127_3 : ACode := .cond (.t 19) C127_2 .skip
theorem u127_3 : VC C127_3.eq_1 := rfl
def C127_4 : ACode := .seq (.reg L127_8) C127_3
theorem u127_4 : VC C127_4.eq_1 := rfl
def C127_5 : ACode := .block 1 C127_4
theorem u127_5 : VC C127_5.eq_1 := rfl
def C127_6 : ACode := .seq C127_5 (.reg L127_11)
theorem u127_6 : VC C127_6.eq_1 := rfl
def C127_7 : ACode := .seq C127_1 C127_6
theorem u127_7 : VC C127_7.eq_1 := rfl
def C127_8 : ACode := .block 0 (.loop C127_7)
theorem u127_8 : VC C127_8.eq_1 := rfl
def C127_9 : ACode := .seq (.reg L127_1) C127_8
theorem u127_9 : VC C127_9.eq_1 := rfl
def C127_10 : ACode := .seq (.reg L127_13) .ret
theorem u127_10 : VC C127_10.eq_1 := rfl
def C127_11 : ACode := .seq C127_9 C127_10
theorem u127_11 : VC C127_11.eq_1 := rfl
def C127_12 : ACode := .seq (.reg L127_0) C127_11
theorem u127_12 : VC C127_12.eq_1 := rfl
def F127 : AFunc := ⟨23, [.tmp 2], C127_12⟩
theorem cF127 : compB Try.prog 127 = some F127 := by kernel_rfl
attribute [local go_sem ↓] u127_0 u127_1 u127_2 u127_3 u127_4 u127_5 u127_6 u127_7 u127_8 u127_9 u127_10 u127_11 u127_12 v127_0 v127_1 v127_2 v127_3 v127_4 v127_5 v127_6 v127_7 v127_8 v127_9 v127_10 v127_11 v127_12 v127_13
theorem c_validName (s : ByteArray) (h : H) (hn : s.size < 2 ^ 62) : bm Try.prog 127 [.one (.str s)] h = some (ib (okName s), h) := by
  refine bm_eq cF127 ?_
  simp +contextual (maxSteps := 2000000) only [go_sem, Nat.reduceEqDiff, reduceCtorEq, Nat.reduceAdd, Nat.reduceLeDiff, F127]
  have hsz : s.data.toList.length = s.size := Array.length_toList
  refine wpC_loop (fun i T L h' => h' = h ∧ T 0 = .v (.one (.str s)) ∧ T 3 = .v (.one (.int .i64 i)) ∧ Pre isLow true s.data.toList i) s.size ?_ ?_ (Nat.zero_le _) ?_
  · rintro i T L h' hi ⟨rfl, h0, h3, hp⟩
    simp +contextual (maxSteps := 2000000) only [go_sem, Nat.reduceEqDiff, reduceCtorEq, Nat.reduceAdd, Nat.reduceLeDiff, h0, h3, idx_at hi, lt_true hi]
    have e : s.data.toList[i]'(by omega) = s.data[i]'hi := Array.getElem_toList _
    have bad : isLow (s.data[i]'hi) = false → okName s = false := fun hx => by
      unfold okName
      rw [all_stop (l := s.data.toList) (i := i) (by omega) (by rw [e]; exact hx)]
      rfl
    have low : isLow (s.data[i]'hi) = (!(decide ((↑(s.data[i]'hi).toNat : Int) < 97)) && !(decide ((↑(s.data[i]'hi).toNat : Int) > 122))) := by
      unfold isLow
      rw [Bool.eq_iff_iff]
      simp
      omega
    (repeat' (first | refine And.intro ?_ ?_ | intro _)) <;> first | rfl | rw [wrap_next hi hn] | exact hp.next (by omega) (by rw [e, low]; simp_all) | rw [bad (by rw [low]; simp_all)]
  · rintro T L h' ⟨rfl, h0, h3, hp⟩
    rw [← hsz] at hp
    simp +contextual (maxSteps := 2000000) only [go_sem, Nat.reduceEqDiff, reduceCtorEq, Nat.reduceAdd, Nat.reduceLeDiff, h0, h3, lt_false, c_inRange, okName, hp.all, Bool.true_and]
  · simp +contextual (maxSteps := 2000000) only [go_sem, Nat.reduceEqDiff, reduceCtorEq, Nat.reduceAdd, Nat.reduceLeDiff]
    (repeat' (first | refine And.intro ?_ ?_ | intro _)) <;> first | rfl | exact Pre.zero
/-! spec.validPairs -/
def L104_0 : List AStep := [⟨.mov (.c (.bool false)), (some 2), none, []⟩]
theorem v104_0 : VS L104_0.eq_1 := rfl
def L104_1 : List AStep := [⟨.mov (.c (.int .i64 0)), (some 3), none, []⟩]
theorem v104_1 : VS L104_1.eq_1 := rfl
def L104_2 : List AStep := [⟨.len (.t 5), (some 6), none, []⟩, ⟨.bin .lss (.t 4) (.t 6), (some 7), none, []⟩]
theorem v104_2 : VS L104_2.eq_1 := rfl
def L104_3 : List AStep := ⟨.mov (.t 3), (some 4), none, []⟩ :: ⟨.mov (.t 0), (some 5), none, []⟩ :: L104_2
theorem v104_3 : VS L104_3.eq_1 := rfl
def L104_4 : List AStep := [⟨.not (.t 23), (some 24), (some (17, false)), []⟩, ⟨.pick (.t 17) (.c (.bool true)) (.t 24), (some 25), none, []⟩]
theorem v104_4 : VS L104_4.eq_1 := rfl
def L104_5 : List AStep := ⟨.load 1 false (.t 21), (some 22), (some (17, false)), []⟩ :: ⟨.call 126 [(.t 22)], (some 23), (some (17, false)), []⟩ :: L104_4
theorem v104_5 : VS L104_5.eq_1 := rfl
def L104_6 : List AStep := ⟨.iaddr 2 (.t 18) (.t 19), (some 20), (some (17, false)), []⟩ :: ⟨.faddr 1 (.t 20), (some 21), (some (17, false)), []⟩ :: L104_5
theorem v104_6 : VS L104_6.eq_1 := rfl
def L104_7 : List AStep := ⟨.mov (.t 0), (some 18), (some (17, false)), []⟩ :: ⟨.mov (.t 3), (some 19), (some (17, false)), []⟩ :: L104_6
theorem v104_7 : VS L104_7.eq_1 := rfl
def L104_8 : List AStep := ⟨.not (.t 15), (some 16), none, []⟩ :: ⟨.mov (.t 16), (some 17), none, []⟩ :: L104_7
theorem v104_8 : VS L104_8.eq_1 := rfl
def L104_9 : List AStep := ⟨.load 1 false (.t 13), (some 14), none, []⟩ :: ⟨.call 127 [(.t 14)], (some 15), none, []⟩ :: L104_8
theorem v104_9 : VS L104_9.eq_1 := rfl
def L104_10 : List AStep := ⟨.iaddr 2 (.t 10) (.t 11), (some 12), none, []⟩ :: ⟨.faddr 0 (.t 12), (some 13), none, []⟩ :: L104_9
theorem v104_10 : VS L104_10.eq_1 := rfl
def L104_11 : List AStep := ⟨.mov (.t 0), (some 10), none, []⟩ :: ⟨.mov (.t 3), (some 11), none, []⟩ :: L104_10
theorem v104_11 : VS L104_11.eq_1 := rfl
def L104_12 : List AStep := [⟨.mov (.c (.bool false)), (some 2), none, []⟩]
theorem v104_12 : VS L104_12.eq_1 := rfl
def L104_13 : List AStep := [⟨.mov (.t 9), (some 3), none, []⟩]
theorem v104_13 : VS L104_13.eq_1 := rfl
def L104_14 : List AStep := ⟨.mov (.t 3), (some 8), none, []⟩ :: ⟨.bin .add (.t 8) (.c (.int .i64 1)), (some 9), none, []⟩ :: L104_13
theorem v104_14 : VS L104_14.eq_1 := rfl
def L104_15 : List AStep := [⟨.mov (.c (.bool true)), (some 2), none, []⟩]
theorem v104_15 : VS L104_15.eq_1 := rfl
def C104_0 : ACode := .cond (.t 7) .skip (.exit 0)
theorem u104_0 : VC C104_0.eq_1 := rfl
def C104_1 : ACode := .seq (.reg L104_3) C104_0
theorem u104_1 : VC C104_1.eq_1 := rfl
def C104_2 : ACode := .seq (.reg L104_12) .ret
theorem u104_2 : VC C104_2.eq_1 := rfl
def C104_3 : ACode := .cond (.t 25) C104_2 .skip
theorem u104_3 : VC C104_3.eq_1 := rfl
def C104_4 : ACode := .seq (.reg L104_11) C104_3
theorem u104_4 : VC C104_4.eq_1 := rfl
def C104_5 : ACode := .block 1 C104_4
theorem u104_5 : VC C104_5.eq_1 := rfl
def C104_6 : ACode := .seq C104_5 (.reg L104_14)
theorem u104_6 : VC C104_6.eq_1 := rfl
def C104_7 : ACode := .seq C104_1 C104_6
theorem u104_7 : VC C104_7.eq_1 := rfl
def C104_8 : ACode := .block 0 (.loop C104_7)
theorem u104_8 : VC C104_8.eq_1 := rfl
def C104_9 : ACode := .seq (.reg L104_1) C104_8
theorem u104_9 : VC C104_9.eq_1 := rfl
def C104_10 : ACode := .seq (.reg L104_15) .ret
theorem u104_10 : VC C104_10.eq_1 := rfl
def C104_11 : ACode := .seq C104_9 C104_10
theorem u104_11 : VC C104_11.eq_1 := rfl
def C104_12 : ACode := .seq (.reg L104_0) C104_11
theorem u104_12 : VC C104_12.eq_1 := rfl
def F104 : AFunc := ⟨26, [.tmp 2], C104_12⟩
theorem cF104 : compB Try.prog 104 = some F104 := by kernel_rfl
attribute [local go_sem ↓] u104_0 u104_1 u104_2 u104_3 u104_4 u104_5 u104_6 u104_7 u104_8 u104_9 u104_10 u104_11 u104_12 v104_0 v104_1 v104_2 v104_3 v104_4 v104_5 v104_6 v104_7 v104_8 v104_9 v104_10 v104_11 v104_12 v104_13 v104_14 v104_15
theorem c_validPairs (l : List Pair) (v : AV) (h : H) (hl : SlP h v l) (hn : smP l) : bm Try.prog 104 [v] h = some (ib (l.all okPair), h) := by
  refine bm_eq cF104 ?_
  simp +contextual (maxSteps := 2000000) only [go_sem, Nat.reduceEqDiff, reduceCtorEq, Nat.reduceAdd, Nat.reduceLeDiff, F104]
  refine wpC_loop (fun i T L h' => h' = h ∧ T 0 = .v v ∧ T 3 = .v (.one (.int .i64 i)) ∧ Pre okPair true l i) l.length ?_ ?_ (Nat.zero_le _) ?_
  · rintro i T L h' hi ⟨rfl, h0, h3, hp⟩
    simp +contextual (maxSteps := 2000000) only [go_sem, Nat.reduceEqDiff, reduceCtorEq, Nat.reduceAdd, Nat.reduceLeDiff, h0, h3, hl.len, hl.iaddr hi, hl.fieldO hi, c_validNumber, c_validName _ _ (hn.at hi), lt_true hi]
    (repeat' (first | refine And.intro ?_ ?_ | intro _)) <;> first | rfl | rw [wrap_next hi hn.len] | exact hp.next hi (by simp [okPair, *]) | rw [all_stop hi (by simp [okPair, *])]
  · rintro T L h' ⟨rfl, h0, h3, hp⟩
    simp +contextual (maxSteps := 2000000) only [go_sem, Nat.reduceEqDiff, reduceCtorEq, Nat.reduceAdd, Nat.reduceLeDiff, h0, h3, hl.len, lt_false, hp.all]
  · simp +contextual (maxSteps := 2000000) only [go_sem, Nat.reduceEqDiff, reduceCtorEq, Nat.reduceAdd, Nat.reduceLeDiff]
    (repeat' (first | refine And.intro ?_ ?_ | intro _)) <;> first | rfl | exact Pre.zero
/-! spec.validFlat -/
def L73_0 : List AStep := [⟨.box 39 (.t 0), (some 1), none, []⟩, ⟨.mov (.c (.bool false)), (some 2), none, []⟩]
theorem v73_0 : VS L73_0.eq_1 := rfl
def L73_1 : List AStep := [⟨.mov (.c (.int .i64 0)), (some 3), none, []⟩]
theorem v73_1 : VS L73_1.eq_1 := rfl
def L73_2 : List AStep := [⟨.bin .lss (.t 4) (.t 7), (some 8), none, []⟩]
theorem v73_2 : VS L73_2.eq_1 := rfl
def L73_3 : List AStep := ⟨.load 1 false (.t 5), (some 6), none, []⟩ :: ⟨.len (.t 6), (some 7), none, []⟩ :: L73_2
theorem v73_3 : VS L73_3.eq_1 := rfl
def L73_4 : List AStep := ⟨.mov (.t 3), (some 4), none, []⟩ :: ⟨.faddr 1 (.t 1), (some 5), none, []⟩ :: L73_3
theorem v73_4 : VS L73_4.eq_1 := rfl
def L73_5 : List AStep := [⟨.call 102 [(.t 14), (.t 20)], (some 21), none, []⟩, ⟨.bin .geq (.t 21) (.c (.int .i64 0)), (some 22), none, []⟩]
theorem v73_5 : VS L73_5.eq_1 := rfl
def L73_6 : List AStep := ⟨.faddr 0 (.t 18), (some 19), none, []⟩ :: ⟨.load 1 false (.t 19), (some 20), none, []⟩ :: L73_5
theorem v73_6 : VS L73_6.eq_1 := rfl
def L73_7 : List AStep := ⟨.mov (.t 3), (some 17), none, []⟩ :: ⟨.iaddr 2 (.t 16) (.t 17), (some 18), none, []⟩ :: L73_6
theorem v73_7 : VS L73_7.eq_1 := rfl
def L73_8 : List AStep := ⟨.faddr 1 (.t 1), (some 15), none, []⟩ :: ⟨.load 1 false (.t 15), (some 16), none, []⟩ :: L73_7
theorem v73_8 : VS L73_8.eq_1 := rfl
def L73_9 : List AStep := ⟨.mov (.t 3), (some 13), none, []⟩ :: ⟨.slice 109 2 (.t 12) none (some (.t 13)) none, (some 14), none, []⟩ :: L73_8
theorem v73_9 : VS L73_9.eq_1 := rfl
def L73_10 : List AStep := ⟨.faddr 1 (.t 1), (some 11), none, []⟩ :: ⟨.load 1 false (.t 11), (some 12), none, []⟩ :: L73_9
theorem v73_10 : VS L73_10.eq_1 := rfl
def L73_11 : List AStep := [⟨.mov (.c (.bool false)), (some 2), none, []⟩]
theorem v73_11 : VS L73_11.eq_1 := rfl
def L73_12 : List AStep := [⟨.mov (.t 10), (some 3), none, []⟩]
theorem v73_12 : VS L73_12.eq_1 := rfl
def L73_13 : List AStep := ⟨.mov (.t 3), (some 9), none, []⟩ :: ⟨.bin .add (.t 9) (.c (.int .i64 1)), (some 10), none, []⟩ :: L73_12
theorem v73_13 : VS L73_13.eq_1 := rfl
def L73_14 : List AStep := [⟨.mov (.t 42), (some 2), none, []⟩]
theorem v73_14 : VS L73_14.eq_1 := rfl
def L73_15 : List AStep := ⟨.bin .leq (.t 40) (.c (.int .i64 8)), (some 41), (some (37, true)), []⟩ :: ⟨.pick (.t 37) (.t 41) (.c (.bool false)), (some 42), none, []⟩ :: L73_14
theorem v73_15 : VS L73_15.eq_1 := rfl
def L73_16 : List AStep := ⟨.load 1 false (.t 38), (some 39), (some (37, true)), []⟩ :: ⟨.len (.t 39), (some 40), (some (37, true)), []⟩ :: L73_15
theorem v73_16 : VS L73_16.eq_1 := rfl
def L73_17 : List AStep := ⟨.mov (.t 36), (some 37), none, []⟩ :: ⟨.faddr 1 (.t 1), (some 38), (some (37, true)), []⟩ :: L73_16
theorem v73_17 : VS L73_17.eq_1 := rfl
def L73_18 : List AStep := ⟨.bin .leq (.t 34) (.c (.int .i64 8)), (some 35), (some (31, true)), []⟩ :: ⟨.pick (.t 31) (.t 35) (.c (.bool false)), (some 36), none, []⟩ :: L73_17
theorem v73_18 : VS L73_18.eq_1 := rfl
def L73_19 : List AStep := ⟨.load 1 false (.t 32), (some 33), (some (31, true)), []⟩ :: ⟨.len (.t 33), (some 34), (some (31, true)), []⟩ :: L73_18
theorem v73_19 : VS L73_19.eq_1 := rfl
def L73_20 : List AStep := ⟨.mov (.t 30), (some 31), none, []⟩ :: ⟨.faddr 0 (.t 1), (some 32), (some (31, true)), []⟩ :: L73_19
theorem v73_20 : VS L73_20.eq_1 := rfl
def L73_21 : List AStep := ⟨.call 104 [(.t 28)], (some 29), (some (26, true)), []⟩ :: ⟨.pick (.t 26) (.t 29) (.c (.bool false)), (some 30), none, []⟩ :: L73_20
theorem v73_21 : VS L73_21.eq_1 := rfl
def L73_22 : List AStep := ⟨.faddr 1 (.t 1), (some 27), (some (26, true)), []⟩ :: ⟨.load 1 false (.t 27), (some 28), (some (26, true)), []⟩ :: L73_21
theorem v73_22 : VS L73_22.eq_1 := rfl
def L73_23 : List AStep := ⟨.call 103 [(.t 24)], (some 25), none, []⟩ :: ⟨.mov (.t 25), (some 26), none, []⟩ :: L73_22
theorem v73_23 : VS L73_23.eq_1 := rfl
def L73_24 : List AStep := ⟨.faddr 0 (.t 1), (some 23), none, []⟩ :: ⟨.load 1 false (.t 23), (some 24), none, []⟩ :: L73_23
theorem v73_24 : VS L73_24.eq_1 := rfl
def C73_0 : ACode := .cond (.t 8) .skip (.exit 0)
theorem u73_0 : VC C73_0.eq_1 := rfl
def C73_1 : ACode := .seq (.reg L73_4) C73_0
theorem u73_1 : VC C73_1.eq_1 := rfl
def C73_2 : ACode := .seq (.reg L73_11) .ret
theorem u73_2 : VC C73_2.eq_1 := rfl
def C73_3 : ACode := .cond (.t 22) C73_2 .skip
theorem u73_3 : VC C73_3.eq_1 := rfl
def C73_4 : ACode := .seq (.reg L73_10) C73_3
theorem u73_4 : VC C73_4.eq_1 := rfl
def C73_5 : ACode := .block 1 C73_4
theorem u73_5 : VC C73_5.eq_1 := rfl
def C73_6 : ACode := .seq C73_5 (.reg L73_13)
theorem u73_6 : VC C73_6.eq_1 := rfl
def C73_7 : ACode := .seq C73_1 C73_6
theorem u73_7 : VC C73_7.eq_1 := rfl
def C73_8 : ACode := .block 0 (.loop C73_7)
theorem u73_8 : VC C73_8.eq_1 := rfl
def C73_9 : ACode := .seq (.reg L73_1) C73_8
theorem u73_9 : VC C73_9.eq_1 := rfl
def C73_10 : ACode := .seq (.reg L73_24) .ret
theorem u73_10 : VC C73_10.eq_1 := rfl
def C73_11 : ACode := .seq C73_9 C73_10
theorem u73_11 : VC C73_11.eq_1 := rfl
def C73_12 : ACode := .seq (.reg L73_0) C73_11
theorem u73_12 : VC C73_12.eq_1 := rfl
def F73 : AFunc := ⟨43, [.tmp 2], C73_12⟩
theorem cF73 : compB Try.prog 73 = some F73 := by kernel_rfl
attribute [local go_sem ↓] u73_0 u73_1 u73_2 u73_3 u73_4 u73_5 u73_6 u73_7 u73_8 u73_9 u73_10 u73_11 u73_12 v73_0 v73_1 v73_2 v73_3 v73_4 v73_5 v73_6 v73_7 v73_8 v73_9 v73_10 v73_11 v73_12 v73_13 v73_14 v73_15 v73_16 v73_17 v73_18 v73_19 v73_20 v73_21 v73_22 v73_23 v73_24
theorem c_validFlat (f : Flat) (pv nv : CV) (h : H) (hp : SlI h (.one pv) f.pl) (hq : SlP h (.one nv) f.nl) (hn : smF f) : bm Try.prog 73 [.agg [pv, nv]] h = some (ib (okFlat f), h) := by
  refine bm_eq cF73 ?_
  simp +contextual (maxSteps := 2000000) only [go_sem, Nat.reduceEqDiff, reduceCtorEq, Nat.reduceAdd, Nat.reduceLeDiff, F73]
  refine wpC_loop (fun i T L h' => h' = h ∧ T 1 = .lp 1 0 ∧ (L 1).2 = [pv, nv] ∧ T 3 = .v (.one (.int .i64 i)) ∧ Upto (newAt Pair.name f.nl) i) f.nl.length ?_ ?_ (Nat.zero_le _) ?_
  · rintro i T L h' hi ⟨rfl, t1, l1, t3, hu⟩
    obtain ⟨v', e1, s1⟩ := hq.takeO (i := i) (by omega) (kd := .i64)
    have e2 : decide (pairAt (f.nl.take i) f.nl[i].name ≥ 0) = !(newAt Pair.name f.nl i) := newAt_ge hi
    simp +contextual (maxSteps := 2000000) only [go_sem, Nat.reduceEqDiff, reduceCtorEq, Nat.reduceAdd, Nat.reduceLeDiff, e2, t1, l1, t3, hq.len, hq.iaddr hi, hq.fieldO hi, lt_true hi, e1, c_pairAt _ _ _ _ s1 (hn.nl.take i)]
    (repeat' (first | refine And.intro ?_ ?_ | intro _)) <;> first | rfl | rw [wrap_next hi hn.nl.len] | exact hu.next (by simp_all) | rw [okFlat, apart_not hi (by simp_all)]; rfl
  · rintro T L h' ⟨rfl, t1, l1, t3, hu⟩
    simp +contextual (maxSteps := 2000000) only [go_sem, Nat.reduceEqDiff, reduceCtorEq, Nat.reduceAdd, Nat.reduceLeDiff, t1, l1, t3, hq.len, hp.len, lt_false, c_validNumbers _ _ _ hp hn.pl, c_validPairs _ _ _ hq hn.nl, okFlat, apart_of hu]
    (repeat' (first | refine And.intro ?_ ?_ | intro _)) <;> first | rfl | simp_all
  · simp +contextual (maxSteps := 2000000) only [go_sem, Nat.reduceEqDiff, reduceCtorEq, Nat.reduceAdd, Nat.reduceLeDiff]
    (repeat' (first | refine And.intro ?_ ?_ | intro _)) <;> first | rfl | exact Upto.zero
/-! spec.byPlace -/
def L83_0 : List AStep := [⟨.box 81 (.t 0), (some 1), none, []⟩, ⟨.mov (.c (.bool false)), (some 2), none, []⟩]
theorem v83_0 : VS L83_0.eq_1 := rfl
def L83_1 : List AStep := [⟨.mov (.t 10), (some 2), none, []⟩]
theorem v83_1 : VS L83_1.eq_1 := rfl
def L83_2 : List AStep := ⟨.bin .eql (.t 8) (.c (.int .i64 1)), (some 9), (some (6, false)), []⟩ :: ⟨.pick (.t 6) (.c (.bool true)) (.t 9), (some 10), none, []⟩ :: L83_1
theorem v83_2 : VS L83_2.eq_1 := rfl
def L83_3 : List AStep := ⟨.faddr 1 (.t 1), (some 7), (some (6, false)), []⟩ :: ⟨.load 1 false (.t 7), (some 8), (some (6, false)), []⟩ :: L83_2
theorem v83_3 : VS L83_3.eq_1 := rfl
def L83_4 : List AStep := ⟨.bin .eql (.t 4) (.c (.int .i64 0)), (some 5), none, []⟩ :: ⟨.mov (.t 5), (some 6), none, []⟩ :: L83_3
theorem v83_4 : VS L83_4.eq_1 := rfl
def L83_5 : List AStep := ⟨.faddr 1 (.t 1), (some 3), none, []⟩ :: ⟨.load 1 false (.t 3), (some 4), none, []⟩ :: L83_4
theorem v83_5 : VS L83_5.eq_1 := rfl
def C83_0 : ACode := .seq (.reg L83_5) .ret
theorem u83_0 : VC C83_0.eq_1 := rfl
def C83_1 : ACode := .seq (.reg L83_0) C83_0
theorem u83_1 : VC C83_1.eq_1 := rfl
def F83 : AFunc := ⟨11, [.tmp 2], C83_1⟩
theorem cF83 : compB Try.prog 83 = some F83 := by kernel_rfl
attribute [local go_sem ↓] u83_0 u83_1 v83_0 v83_1 v83_2 v83_3 v83_4 v83_5
theorem c_byPlace (p : Param) (h : H) : bm Try.prog 83 [.agg (encQ p)] h = some (ib (byPlace p), h) := by
  refine bm_eq cF83 ?_
  simp +contextual (maxSteps := 2000000) only [go_sem, Nat.reduceEqDiff, reduceCtorEq, Nat.reduceAdd, Nat.reduceLeDiff, F83, byPlace]
  cases decide (p.kind = 0) <;> simp
/-! spec.byName -/
def L84_0 : List AStep := [⟨.box 81 (.t 0), (some 1), none, []⟩, ⟨.mov (.c (.bool false)), (some 2), none, []⟩]
theorem v84_0 : VS L84_0.eq_1 := rfl
def L84_1 : List AStep := [⟨.mov (.t 10), (some 2), none, []⟩]
theorem v84_1 : VS L84_1.eq_1 := rfl
def L84_2 : List AStep := ⟨.bin .eql (.t 8) (.c (.int .i64 3)), (some 9), (some (6, false)), []⟩ :: ⟨.pick (.t 6) (.c (.bool true)) (.t 9), (some 10), none, []⟩ :: L84_1
theorem v84_2 : VS L84_2.eq_1 := rfl
def L84_3 : List AStep := ⟨.faddr 1 (.t 1), (some 7), (some (6, false)), []⟩ :: ⟨.load 1 false (.t 7), (some 8), (some (6, false)), []⟩ :: L84_2
theorem v84_3 : VS L84_3.eq_1 := rfl
def L84_4 : List AStep := ⟨.bin .eql (.t 4) (.c (.int .i64 1)), (some 5), none, []⟩ :: ⟨.mov (.t 5), (some 6), none, []⟩ :: L84_3
theorem v84_4 : VS L84_4.eq_1 := rfl
def L84_5 : List AStep := ⟨.faddr 1 (.t 1), (some 3), none, []⟩ :: ⟨.load 1 false (.t 3), (some 4), none, []⟩ :: L84_4
theorem v84_5 : VS L84_5.eq_1 := rfl
def C84_0 : ACode := .seq (.reg L84_5) .ret
theorem u84_0 : VC C84_0.eq_1 := rfl
def C84_1 : ACode := .seq (.reg L84_0) C84_0
theorem u84_1 : VC C84_1.eq_1 := rfl
def F84 : AFunc := ⟨11, [.tmp 2], C84_1⟩
theorem cF84 : compB Try.prog 84 = some F84 := by kernel_rfl
attribute [local go_sem ↓] u84_0 u84_1 v84_0 v84_1 v84_2 v84_3 v84_4 v84_5
theorem c_byName (p : Param) (h : H) : bm Try.prog 84 [.agg (encQ p)] h = some (ib (byName p), h) := by
  refine bm_eq cF84 ?_
  simp +contextual (maxSteps := 2000000) only [go_sem, Nat.reduceEqDiff, reduceCtorEq, Nat.reduceAdd, Nat.reduceLeDiff, F84, byName]
  cases decide (p.kind = 1) <;> simp
/-! spec.isSingle -/
def L46_0 : List AStep := [⟨.box 81 (.t 0), (some 1), none, []⟩, ⟨.mov (.c (.bool false)), (some 2), none, []⟩]
theorem v46_0 : VS L46_0.eq_1 := rfl
def L46_1 : List AStep := [⟨.mov (.t 8), (some 2), none, []⟩]
theorem v46_1 : VS L46_1.eq_1 := rfl
def L46_2 : List AStep := ⟨.call 84 [(.t 6)], (some 7), (some (5, false)), []⟩ :: ⟨.pick (.t 5) (.c (.bool true)) (.t 7), (some 8), none, []⟩ :: L46_1
theorem v46_2 : VS L46_2.eq_1 := rfl
def L46_3 : List AStep := ⟨.mov (.t 4), (some 5), none, []⟩ :: ⟨.load 4 true (.t 1), (some 6), (some (5, false)), []⟩ :: L46_2
theorem v46_3 : VS L46_3.eq_1 := rfl
def L46_4 : List AStep := ⟨.load 4 true (.t 1), (some 3), none, []⟩ :: ⟨.call 83 [(.t 3)], (some 4), none, []⟩ :: L46_3
theorem v46_4 : VS L46_4.eq_1 := rfl
def C46_0 : ACode := .seq (.reg L46_4) .ret
theorem u46_0 : VC C46_0.eq_1 := rfl
def C46_1 : ACode := .seq (.reg L46_0) C46_0
theorem u46_1 : VC C46_1.eq_1 := rfl
def F46 : AFunc := ⟨9, [.tmp 2], C46_1⟩
theorem cF46 : compB Try.prog 46 = some F46 := by kernel_rfl
attribute [local go_sem ↓] u46_0 u46_1 v46_0 v46_1 v46_2 v46_3 v46_4
theorem c_isSingle (p : Param) (h : H) : bm Try.prog 46 [.agg (encQ p)] h = some (ib (single p), h) := by
  refine bm_eq cF46 ?_
  simp +contextual (maxSteps := 2000000) only [go_sem, Nat.reduceEqDiff, reduceCtorEq, Nat.reduceAdd, Nat.reduceLeDiff, F46, c_byPlace, c_byName, single]
  cases byPlace p <;> simp
end Go.Proofs.Ytdalgphpacikkab.Am
