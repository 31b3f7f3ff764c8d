/- Contracts of the reference: numbers, names, pairs, flat calls and signatures that are valid. -/
import Derived.Test.YtdalgphpacikkaaDat
namespace Go.Proofs.Ytdalgphpacikkaa.Am
open Go
set_option maxRecDepth 100000
set_option maxHeartbeats 4000000
set_option linter.unusedSimpArgs false
set_option linter.unusedVariables false
attribute [local go_sem ↓] bv_t bv_c ev_t ev_c put_same put_ne put_none kill_at pro_at lb_same lb_ne start_zero start_succ wpC_seq wpC_reg wpC_cond wpC_block wpC_skip wpC_exit wpC_ret thenQ_normal thenQ_exit thenQ_ret inBlk_normal inBlk_exit inBlk_ret wpS_nil wpS_step wpS_again wpS_guard wpO_mov wpO_load wpO_faddr wpO_nilCheck wpO_pick wpO_build wpO_bin wpO_eqb wpO_eqst wpO_eqnil wpO_not wpO_conv wpO_bytesStr wpO_iaddr wpO_idxStr wpO_field wpO_extract wpO_len wpO_lenStr wpO_cap wpO_min wpO_slice wpO_sliceStr wpO_alloc wpO_box wpO_store wpO_call wpO_callv wpO_mkfn wpO_buildSlice wpO_mkslice wpO_append wpO_appz proA_nil proA_cons tmpX_nil tmpX_tmp tmpX_cell doneB_normal doneB_ret agK_cons agK_nil agK_guard agG_tt agG_ff agG_tf agG_ft agG_undef pureB_load results_one results_two results_nil resBs_cons resBs_nil resB_tmp resB_cell
attribute [local go_sem] kill_v kill_lp_ne kill_lp_same pro_v pro_lp_same pro_lp_ne av_v av_lp optB_some optX_some valX_eq ldX_lp ldX_v faX_lp faX_v ncX_lp ncX_ptr ncX_fn boxK_one boxK_agg stL_some stK_lp_one stK_lp_agg stK_v_one stK_v_agg proM_v proM_lp callG_mk callVG_mk callvK_fn fnG_mk ptrsA_nil ptrsA_cons callH_some whenA_true whenA_false guardH_tt guardH_ff guardH_tf guardH_ft guardH_undef agV_one agV_agg lenO_sl lenStrO_str notO_bool pickO_bool convO_int eqbO_bool eqnilO_sl extractO_tup capO_sl minO_int loadL_one loadL_all storeL_eq fillA_nil fillA_one fillA_agg nat_ge neg_ge nat_lt neg_lt buildO bin_add bin_sub bin_mul bin_eql bin_neq bin_lss bin_leq bin_gtr bin_geq str_eql str_neq str_lss str_leq str_gtr str_geq retK_some endK_mk gcK_same gcK_int gcK_bool tupO_one tupO_agg rdy_self ib ii Option.map_none Option.map_some Option.some.injEq exists_eq_left' exists_eq_left ne_eq not_false_eq_true if_true if_false List.map_cons List.map_nil List.getElem?_cons_zero List.getElem?_cons_succ List.length_cons List.length_nil List.take_succ_cons List.take_zero List.take_nil List.drop_succ_cons List.drop_zero List.drop_nil List.cons_append List.nil_append List.append_nil List.set_cons_zero List.set_cons_succ Nat.zero_add forall_const true_and and_true and_self Bool.false_eq_true false_implies true_implies implies_true Bool.not_true Bool.not_false Bool.not_eq_true' Bool.not_eq_false' beq_self_eq_true Bool.bne_true Bool.bne_false
attribute [local go_sem] lenI lenS lenP lenQ lenB lenL lenT encI_0 encS_0 encP_0 encP_1 encQ_0 encQ_1 encQ_2 encQ_3 encB_0 encB_1 encL_0 encL_1 encT_0 encT_1
attribute [local go_sem low] whenA_bool guardH_bool
/-! spec.inRange -/
def L114_0 : List AStep := [⟨.mov (.c (.bool false)), (some 6), none, []⟩]
theorem v114_0 : VS L114_0.eq_1 := rfl
def L114_1 : List AStep := [⟨.mov (.t 14), (some 6), none, []⟩]
theorem v114_1 : VS L114_1.eq_1 := rfl
def L114_2 : List AStep := ⟨.bin .leq (.t 11) (.t 12), (some 13), (some (10, true)), []⟩ :: ⟨.pick (.t 10) (.t 13) (.c (.bool false)), (some 14), none, []⟩ :: L114_1
theorem v114_2 : VS L114_2.eq_1 := rfl
def L114_3 : List AStep := ⟨.mov (.t 0), (some 11), (some (10, true)), []⟩ :: ⟨.mov (.t 2), (some 12), (some (10, true)), []⟩ :: L114_2
theorem v114_3 : VS L114_3.eq_1 := rfl
def L114_4 : List AStep := ⟨.bin .leq (.t 7) (.t 8), (some 9), none, []⟩ :: ⟨.mov (.t 9), (some 10), none, []⟩ :: L114_3
theorem v114_4 : VS L114_4.eq_1 := rfl
def L114_5 : List AStep := ⟨.mov (.t 1), (some 7), none, []⟩ :: ⟨.mov (.t 0), (some 8), none, []⟩ :: L114_4
theorem v114_5 : VS L114_5.eq_1 := rfl
def C114_0 : ACode := .seq (.reg L114_5) .ret
theorem u114_0 : VC C114_0.eq_1 := rfl
def C114_1 : ACode := .seq (.reg L114_0) C114_0
theorem u114_1 : VC C114_1.eq_1 := rfl
def F114 : AFunc := ⟨15, [.tmp 6], C114_1⟩
theorem cF114 : compB Try.prog 114 = some F114 := by kernel_rfl
attribute [local go_sem ↓] u114_0 u114_1 v114_0 v114_1 v114_2 v114_3 v114_4 v114_5
theorem c_inRange (n lo hi : Int) (h : H) : bm Try.prog 114 [.one (.int .i64 n), .one (.int .i64 lo), .one (.int .i64 hi)] h = some (ib (decide (lo ≤ n) && decide (n ≤ hi)), h) := by
  refine bm_eq cF114 ?_
  simp +contextual (maxSteps := 2000000) only [go_sem, Nat.reduceEqDiff, reduceCtorEq, Nat.reduceAdd, Nat.reduceLeDiff, F114]
  cases decide (lo ≤ n) <;> simp
/-! spec.validNumber -/
def L107_0 : List AStep := [⟨.mov (.c (.bool false)), (some 2), none, []⟩]
theorem v107_0 : VS L107_0.eq_1 := rfl
def L107_1 : List AStep := [⟨.mov (.t 4), (some 2), none, []⟩]
theorem v107_1 : VS L107_1.eq_1 := rfl
def L107_2 : List AStep := ⟨.mov (.t 0), (some 3), none, []⟩ :: ⟨.call 114 [(.t 3), (.c (.int .i64 (-99))), (.c (.int .i64 99))], (some 4), none, []⟩ :: L107_1
theorem v107_2 : VS L107_2.eq_1 := rfl
def C107_0 : ACode := .seq (.reg L107_2) .ret
theorem u107_0 : VC C107_0.eq_1 := rfl
def C107_1 : ACode := .seq (.reg L107_0) C107_0
theorem u107_1 : VC C107_1.eq_1 := rfl
def F107 : AFunc := ⟨5, [.tmp 2], C107_1⟩
theorem cF107 : compB Try.prog 107 = some F107 := by kernel_rfl
attribute [local go_sem ↓] u107_0 u107_1 v107_0 v107_1 v107_2
theorem c_validNumber (n : Int) (h : H) : bm Try.prog 107 [.one (.int .i64 n)] h = some (ib (okNum n), h) := by
  refine bm_eq cF107 ?_
  simp +contextual (maxSteps := 2000000) only [go_sem, Nat.reduceEqDiff, reduceCtorEq, Nat.reduceAdd, Nat.reduceLeDiff, F107, c_inRange, okNum]
/-! spec.validNumbers -/
def L88_0 : List AStep := [⟨.mov (.c (.bool false)), (some 2), none, []⟩]
theorem v88_0 : VS L88_0.eq_1 := rfl
def L88_1 : List AStep := [⟨.mov (.c (.int .i64 0)), (some 3), none, []⟩]
theorem v88_1 : VS L88_1.eq_1 := rfl
def L88_2 : List AStep := [⟨.len (.t 5), (some 6), none, []⟩, ⟨.bin .lss (.t 4) (.t 6), (some 7), none, []⟩]
theorem v88_2 : VS L88_2.eq_1 := rfl
def L88_3 : List AStep := ⟨.mov (.t 3), (some 4), none, []⟩ :: ⟨.mov (.t 0), (some 5), none, []⟩ :: L88_2
theorem v88_3 : VS L88_3.eq_1 := rfl
def L88_4 : List AStep := [⟨.call 107 [(.t 13)], (some 14), none, []⟩, ⟨.not (.t 14), (some 15), none, []⟩]
theorem v88_4 : VS L88_4.eq_1 := rfl
def L88_5 : List AStep := ⟨.iaddr 1 (.t 10) (.t 11), (some 12), none, []⟩ :: ⟨.load 1 false (.t 12), (some 13), none, []⟩ :: L88_4
theorem v88_5 : VS L88_5.eq_1 := rfl
def L88_6 : List AStep := ⟨.mov (.t 0), (some 10), none, []⟩ :: ⟨.mov (.t 3), (some 11), none, []⟩ :: L88_5
theorem v88_6 : VS L88_6.eq_1 := rfl
def L88_7 : List AStep := [⟨.mov (.c (.bool false)), (some 2), none, []⟩]
theorem v88_7 : VS L88_7.eq_1 := rfl
def L88_8 : List AStep := [⟨.mov (.t 9), (some 3), none, []⟩]
theorem v88_8 : VS L88_8.eq_1 := rfl
def L88_9 : List AStep := ⟨.mov (.t 3), (some 8), none, []⟩ :: ⟨.bin .add (.t 8) (.c (.int .i64 1)), (some 9), none, []⟩ :: L88_8
theorem v88_9 : VS L88_9.eq_1 := rfl
def L88_10 : List AStep := [⟨.mov (.c (.bool true)), (some 2), none, []⟩]
theorem v88_10 : VS L88_10.eq_1 := rfl
def C88_0 : ACode := .cond (.t 7) .skip (.exit 0)
theorem u88_0 : VC C88_0.eq_1 := rfl
def C88_1 : ACode := .seq (.reg L88_3) C88_0
theorem u88_1 : VC C88_1.eq_1 := rfl
def C88_2 : ACode := .seq (.reg L88_7) .ret
theorem u88_2 : VC C88_2.eq_1 := rfl
def C88_3 : ACode := .cond (.t 15) C88_2 .skip
theorem u88_3 : VC C88_3.eq_1 := rfl
def C88_4 : ACode := .seq (.reg L88_6) C88_3
theorem u88_4 : VC C88_4.eq_1 := rfl
def C88_5 : ACode := .block 1 C88_4
theorem u88_5 : VC C88_5.eq_1 := rfl
def C88_6 : ACode := .seq C88_5 (.reg L88_9)
theorem u88_6 : VC C88_6.eq_1 := rfl
def C88_7 : ACode := .seq C88_1 C88_6
theorem u88_7 : VC C88_7.eq_1 := rfl
def C88_8 : ACode := .block 0 (.loop C88_7)
theorem u88_8 : VC C88_8.eq_1 := rfl
def C88_9 : ACode := .seq (.reg L88_1) C88_8
theorem u88_9 : VC C88_9.eq_1 := rfl
def C88_10 : ACode := .seq (.reg L88_10) .ret
theorem u88_10 : VC C88_10.eq_1 := rfl
def C88_11 : ACode := .seq C88_9 C88_10
theorem u88_11 : VC C88_11.eq_1 := rfl
def C88_12 : ACode := .seq (.reg L88_0) C88_11
theorem u88_12 : VC C88_12.eq_1 := rfl
def F88 : AFunc := ⟨16, [.tmp 2], C88_12⟩
theorem cF88 : compB Try.prog 88 = some F88 := by kernel_rfl
attribute [local go_sem ↓] u88_0 u88_1 u88_2 u88_3 u88_4 u88_5 u88_6 u88_7 u88_8 u88_9 u88_10 u88_11 u88_12 v88_0 v88_1 v88_2 v88_3 v88_4 v88_5 v88_6 v88_7 v88_8 v88_9 v88_10
theorem c_validNumbers (l : List Int) (v : AV) (h : H) (hl : SlI h v l) (hn : l.length ≤ big) : bm Try.prog 88 [v] h = some (ib (l.all okNum), h) := by
  refine bm_eq cF88 ?_
  simp +contextual (maxSteps := 2000000) only [go_sem, Nat.reduceEqDiff, reduceCtorEq, Nat.reduceAdd, Nat.reduceLeDiff, F88]
  refine wpC_loop (fun i T L h' => h' = h ∧ T 0 = .v v ∧ T 3 = .v (.one (.int .i64 i)) ∧ Pre okNum true l i) l.length ?_ ?_ (Nat.zero_le _) ?_
  · rintro i T L h' hi ⟨rfl, h0, h3, hp⟩
    simp +contextual (maxSteps := 2000000) only [go_sem, Nat.reduceEqDiff, reduceCtorEq, Nat.reduceAdd, Nat.reduceLeDiff, h0, h3, hl.len, hl.iaddr hi, hl.oneO hi, c_validNumber, lt_true hi]
    (repeat' (first | refine And.intro ?_ ?_ | intro _)) <;> first | rfl | rw [wrap_next hi (big_lt hn)] | exact hp.next hi ‹_› | rw [all_stop hi ‹_›]
  · rintro T L h' ⟨rfl, h0, h3, hp⟩
    simp +contextual (maxSteps := 2000000) only [go_sem, Nat.reduceEqDiff, reduceCtorEq, Nat.reduceAdd, Nat.reduceLeDiff, h0, h3, hl.len, lt_false, hp.all]
  · simp +contextual (maxSteps := 2000000) only [go_sem, Nat.reduceEqDiff, reduceCtorEq, Nat.reduceAdd, Nat.reduceLeDiff]
    (repeat' (first | refine And.intro ?_ ?_ | intro _)) <;> first | rfl | exact Pre.zero
/-! spec.pairAt -/
def L87_0 : List AStep := [⟨.mov (.c (.int .i64 0)), (some 4), none, []⟩]
theorem v87_0 : VS L87_0.eq_1 := rfl
def L87_1 : List AStep := [⟨.mov (.c (.int .i64 0)), (some 5), none, []⟩]
theorem v87_1 : VS L87_1.eq_1 := rfl
def L87_2 : List AStep := [⟨.len (.t 7), (some 8), none, []⟩, ⟨.bin .lss (.t 6) (.t 8), (some 9), none, []⟩]
theorem v87_2 : VS L87_2.eq_1 := rfl
def L87_3 : List AStep := ⟨.mov (.t 5), (some 6), none, []⟩ :: ⟨.mov (.t 0), (some 7), none, []⟩ :: L87_2
theorem v87_3 : VS L87_3.eq_1 := rfl
def L87_4 : List AStep := [⟨.bin .eql (.t 16) (.t 17), (some 18), none, []⟩]
theorem v87_4 : VS L87_4.eq_1 := rfl
def L87_5 : List AStep := ⟨.load 1 false (.t 15), (some 16), none, []⟩ :: ⟨.mov (.t 1), (some 17), none, []⟩ :: L87_4
theorem v87_5 : VS L87_5.eq_1 := rfl
def L87_6 : List AStep := ⟨.iaddr 2 (.t 12) (.t 13), (some 14), none, []⟩ :: ⟨.faddr 0 (.t 14), (some 15), none, []⟩ :: L87_5
theorem v87_6 : VS L87_6.eq_1 := rfl
def L87_7 : List AStep := ⟨.mov (.t 0), (some 12), none, []⟩ :: ⟨.mov (.t 5), (some 13), none, []⟩ :: L87_6
theorem v87_7 : VS L87_7.eq_1 := rfl
def L87_8 : List AStep := [⟨.mov (.t 5), (some 19), none, []⟩, ⟨.mov (.t 19), (some 4), none, []⟩]
theorem v87_8 : VS L87_8.eq_1 := rfl
def L87_9 : List AStep := [⟨.mov (.t 11), (some 5), none, []⟩]
theorem v87_9 : VS L87_9.eq_1 := rfl
def L87_10 : List AStep := ⟨.mov (.t 5), (some 10), none, []⟩ :: ⟨.bin .add (.t 10) (.c (.int .i64 1)), (some 11), none, []⟩ :: L87_9
theorem v87_10 : VS L87_10.eq_1 := rfl
def L87_11 : List AStep := [⟨.mov (.c (.int .i64 (-1))), (some 4), none, []⟩]
theorem v87_11 : VS L87_11.eq_1 := rfl
def C87_0 : ACode := .cond (.t 9) .skip (.exit 0)
theorem u87_0 : VC C87_0.eq_1 := rfl
def C87_1 : ACode := .seq (.reg L87_3) C87_0
theorem u87_1 : VC C87_1.eq_1 := rfl
def C87_2 : ACode := .seq (.reg L87_8) .ret
theorem u87_2 : VC C87_2.eq_1 := rfl
def C87_3 : ACode := .cond (.t 18) C87_2 .skip
theorem u87_3 : VC C87_3.eq_1 := rfl
def C87_4 : ACode := .seq (.reg L87_7) C87_3
theorem u87_4 : VC C87_4.eq_1 := rfl
def C87_5 : ACode := .block 1 C87_4
theorem u87_5 : VC C87_5.eq_1 := rfl
def C87_6 : ACode := .seq C87_5 (.reg L87_10)
theorem u87_6 : VC C87_6.eq_1 := rfl
def C87_7 : ACode := .seq C87_1 C87_6
theorem u87_7 : VC C87_7.eq_1 := rfl
def C87_8 : ACode := .block 0 (.loop C87_7)
theorem u87_8 : VC C87_8.eq_1 := rfl
def C87_9 : ACode := .seq (.reg L87_1) C87_8
theorem u87_9 : VC C87_9.eq_1 := rfl
def C87_10 : ACode := .seq (.reg L87_11) .ret
theorem u87_10 : VC C87_10.eq_1 := rfl
def C87_11 : ACode := .seq C87_9 C87_10
theorem u87_11 : VC C87_11.eq_1 := rfl
def C87_12 : ACode := .seq (.reg L87_0) C87_11
theorem u87_12 : VC C87_12.eq_1 := rfl
def F87 : AFunc := ⟨20, [.tmp 4], C87_12⟩
theorem cF87 : compB Try.prog 87 = some F87 := by kernel_rfl
attribute [local go_sem ↓] u87_0 u87_1 u87_2 u87_3 u87_4 u87_5 u87_6 u87_7 u87_8 u87_9 u87_10 u87_11 u87_12 v87_0 v87_1 v87_2 v87_3 v87_4 v87_5 v87_6 v87_7 v87_8 v87_9 v87_10 v87_11
theorem c_pairAt (l : List Pair) (v : AV) (s : ByteArray) (h : H) (hl : SlP h v l) (hn : smP l) : bm Try.prog 87 [v, .one (.str s)] h = some (ii (pairAt l s), h) := by
  refine bm_eq cF87 ?_
  simp +contextual (maxSteps := 2000000) only [go_sem, Nat.reduceEqDiff, reduceCtorEq, Nat.reduceAdd, Nat.reduceLeDiff, F87]
  refine wpC_loop (fun i T L h' => h' = h ∧ T 0 = .v v ∧ T 1 = .v (.one (.str s)) ∧ T 5 = .v (.one (.int .i64 i)) ∧ Pre (fun p => decide (p.name = s)) false l i) l.length ?_ ?_ (Nat.zero_le _) ?_
  · rintro i T L h' hi ⟨rfl, h0, h1, h3, hp⟩
    simp +contextual (maxSteps := 2000000) only [go_sem, Nat.reduceEqDiff, reduceCtorEq, Nat.reduceAdd, Nat.reduceLeDiff, h0, h1, h3, hl.len, hl.iaddr hi, hl.fieldO hi, lt_true hi]
    (repeat' (first | refine And.intro ?_ ?_ | intro _)) <;> first | rfl | rw [wrap_next hi hn.len] | exact hp.next hi ‹_› | rw [pairAt, idx_hit hi hp ‹_›]
  · rintro T L h' ⟨rfl, h0, h1, h3, hp⟩
    simp +contextual (maxSteps := 2000000) only [go_sem, Nat.reduceEqDiff, reduceCtorEq, Nat.reduceAdd, Nat.reduceLeDiff, h0, h1, h3, hl.len, lt_false, pairAt, idx_none hp]
  · simp +contextual (maxSteps := 2000000) only [go_sem, Nat.reduceEqDiff, reduceCtorEq, Nat.reduceAdd, Nat.reduceLeDiff]
    (repeat' (first | refine And.intro ?_ ?_ | intro _)) <;> first | rfl | exact Pre.zero
/-! spec.validName -/
def L108_0 : List AStep := [⟨.mov (.c (.bool false)), (some 2), none, []⟩]
theorem v108_0 : VS L108_0.eq_1 := rfl
def L108_1 : List AStep := [⟨.mov (.c (.int .i64 0)), (some 3), none, []⟩]
theorem v108_1 : VS L108_1.eq_1 := rfl
def L108_2 : List AStep := [⟨.lenStr (.t 5), (some 6), none, []⟩, ⟨.bin .lss (.t 4) (.t 6), (some 7), none, []⟩]
theorem v108_2 : VS L108_2.eq_1 := rfl
def L108_3 : List AStep := ⟨.mov (.t 3), (some 4), none, []⟩ :: ⟨.mov (.t 0), (some 5), none, []⟩ :: L108_2
theorem v108_3 : VS L108_3.eq_1 := rfl
def L108_4 : List AStep := [⟨.bin .gtr (.t 17) (.c (.int .u8 122)), (some 18), (some (14, false)), []⟩, ⟨.pick (.t 14) (.c (.bool true)) (.t 18), (some 19), none, []⟩]
theorem v108_4 : VS L108_4.eq_1 := rfl
def L108_5 : List AStep := ⟨.mov (.t 3), (some 16), (some (14, false)), []⟩ :: ⟨.idxStr (.t 15) (.t 16), (some 17), (some (14, false)), []⟩ :: L108_4
theorem v108_5 : VS L108_5.eq_1 := rfl
def L108_6 : List AStep := ⟨.mov (.t 13), (some 14), none, []⟩ :: ⟨.mov (.t 0), (some 15), (some (14, false)), []⟩ :: L108_5
theorem v108_6 : VS L108_6.eq_1 := rfl
def L108_7 : List AStep := ⟨.idxStr (.t 10) (.t 11), (some 12), none, []⟩ :: ⟨.bin .lss (.t 12) (.c (.int .u8 97)), (some 13), none, []⟩ :: L108_6
theorem v108_7 : VS L108_7.eq_1 := rfl
def L108_8 : List AStep := ⟨.mov (.t 0), (some 10), none, []⟩ :: ⟨.mov (.t 3), (some 11), none, []⟩ :: L108_7
theorem v108_8 : VS L108_8.eq_1 := rfl
def L108_9 : List AStep := [⟨.mov (.c (.bool false)), (some 2), none, []⟩]
theorem v108_9 : VS L108_9.eq_1 := rfl
def L108_10 : List AStep := [⟨.mov (.t 9), (some 3), none, []⟩]
theorem v108_10 : VS L108_10.eq_1 := rfl
def L108_11 : List AStep := ⟨.mov (.t 3), (some 8), none, []⟩ :: ⟨.bin .add (.t 8) (.c (.int .i64 1)), (some 9), none, []⟩ :: L108_10
theorem v108_11 : VS L108_11.eq_1 := rfl
def L108_12 : List AStep := [⟨.call 114 [(.t 21), (.c (.int .i64 1)), (.c (.int .i64 6))], (some 22), none, []⟩, ⟨.mov (.t 22), (some 2), none, []⟩]
theorem v108_12 : VS L108_12.eq_1 := rfl
def L108_13 : List AStep := ⟨.mov (.t 0), (some 20), none, []⟩ :: ⟨.lenStr (.t 20), (some 21), none, []⟩ :: L108_12
theorem v108_13 : VS L108_13.eq_1 := rfl
def C108_0 : ACode := .cond (.t 7) .skip (.exit 0)
theorem u108_0 : VC C108_0.eq_1 := rfl
def C108_1 : ACode := .seq (.reg L108_3) C108_0
theorem u108_1 : VC C108_1.eq_1 := rfl
def C108_2 : ACode := .seq (.reg L108_9) .ret
theorem u108_2 : VC C108_2.eq_1 := rfl
def C108_3 : ACode := .cond (.t 19) C108_2 .skip
theorem u108_3 : VC C108_3.eq_1 := rfl
def C108_4 : ACode := .seq (.reg L108_8) C108_3
theorem u108_4 : VC C108_4.eq_1 := rfl
def C108_5 : ACode := .block 1 C108_4
theorem u108_5 : VC C108_5.eq_1 := rfl
def C108_6 : ACode := .seq C108_5 (.reg L108_11)
theorem u108_6 : VC C108_6.eq_1 := rfl
def C108_7 : ACode := .seq C108_1 C108_6
theorem u108_7 : VC C108_7.eq_1 := rfl
def C108_8 : ACode := .block 0 (.loop C108_7)
theorem u108_8 : VC C108_8.eq_1 := rfl
def C108_9 : ACode := .seq (.reg L108_1) C108_8
theorem u108_9 : VC C108_9.eq_1 := rfl
def C108_10 : ACode := .seq (.reg L108_13) .ret
theorem u108_10 : VC C108_10.eq_1 := rfl
def C108_11 : ACode := .seq C108_9 C108_10
theorem u108_11 : VC C108_11.eq_1 := rfl
def C108_12 : ACode := .seq (.reg L108_0) C108_11
theorem u108_12 : VC C108_12.eq_1 := rfl
def F108 : AFunc := ⟨23, [.tmp 2], C108_12⟩
theorem cF108 : compB Try.prog 108 = some F108 := by kernel_rfl
attribute [local go_sem ↓] u108_0 u108_1 u108_2 u108_3 u108_4 u108_5 u108_6 u108_7 u108_8 u108_9 u108_10 u108_11 u108_12 v108_0 v108_1 v108_2 v108_3 v108_4 v108_5 v108_6 v108_7 v108_8 v108_9 v108_10 v108_11 v108_12 v108_13
theorem c_validName (s : ByteArray) (h : H) (hn : s.size < 2 ^ 62) : bm Try.prog 108 [.one (.str s)] h = some (ib (okName s), h) := by
  refine bm_eq cF108 ?_
  simp +contextual (maxSteps := 2000000) only [go_sem, Nat.reduceEqDiff, reduceCtorEq, Nat.reduceAdd, Nat.reduceLeDiff, F108]
  have hsz : s.data.toList.length = s.size := Array.length_toList
  refine wpC_loop (fun i T L h' => h' = h ∧ T 0 = .v (.one (.str s)) ∧ T 3 = .v (.one (.int .i64 i)) ∧ Pre isLow true s.data.toList i) s.size ?_ ?_ (Nat.zero_le _) ?_
  · rintro i T L h' hi ⟨rfl, h0, h3, hp⟩
    simp +contextual (maxSteps := 2000000) only [go_sem, Nat.reduceEqDiff, reduceCtorEq, Nat.reduceAdd, Nat.reduceLeDiff, h0, h3, idx_at hi, lt_true hi]
    have e : s.data.toList[i]'(by omega) = s.data[i]'hi := Array.getElem_toList _
    have bad : isLow (s.data[i]'hi) = false → okName s = false := fun hx => by
      unfold okName
      rw [all_stop (l := s.data.toList) (i := i) (by omega) (by rw [e]; exact hx)]
      rfl
    have low : isLow (s.data[i]'hi) = (!(decide ((↑(s.data[i]'hi).toNat : Int) < 97)) && !(decide ((↑(s.data[i]'hi).toNat : Int) > 122))) := by
      unfold isLow
      rw [Bool.eq_iff_iff]
      simp
      omega
    (repeat' (first | refine And.intro ?_ ?_ | intro _)) <;> first | rfl | rw [wrap_next hi hn] | exact hp.next (by omega) (by rw [e, low]; simp_all) | rw [bad (by rw [low]; simp_all)]
  · rintro T L h' ⟨rfl, h0, h3, hp⟩
    rw [← hsz] at hp
    simp +contextual (maxSteps := 2000000) only [go_sem, Nat.reduceEqDiff, reduceCtorEq, Nat.reduceAdd, Nat.reduceLeDiff, h0, h3, lt_false, c_inRange, okName, hp.all, Bool.true_and]
  · simp +contextual (maxSteps := 2000000) only [go_sem, Nat.reduceEqDiff, reduceCtorEq, Nat.reduceAdd, Nat.reduceLeDiff]
    (repeat' (first | refine And.intro ?_ ?_ | intro _)) <;> first | rfl | exact Pre.zero
/-! spec.validPairs -/
def L89_0 : List AStep := [⟨.mov (.c (.bool false)), (some 2), none, []⟩]
theorem v89_0 : VS L89_0.eq_1 := rfl
def L89_1 : List AStep := [⟨.mov (.c (.int .i64 0)), (some 3), none, []⟩]
theorem v89_1 : VS L89_1.eq_1 := rfl
def L89_2 : List AStep := [⟨.len (.t 5), (some 6), none, []⟩, ⟨.bin .lss (.t 4) (.t 6), (some 7), none, []⟩]
theorem v89_2 : VS L89_2.eq_1 := rfl
def L89_3 : List AStep := ⟨.mov (.t 3), (some 4), none, []⟩ :: ⟨.mov (.t 0), (some 5), none, []⟩ :: L89_2
theorem v89_3 : VS L89_3.eq_1 := rfl
def L89_4 : List AStep := [⟨.not (.t 23), (some 24), (some (17, false)), []⟩, ⟨.pick (.t 17) (.c (.bool true)) (.t 24), (some 25), none, []⟩]
theorem v89_4 : VS L89_4.eq_1 := rfl
def L89_5 : List AStep := ⟨.load 1 false (.t 21), (some 22), (some (17, false)), []⟩ :: ⟨.call 107 [(.t 22)], (some 23), (some (17, false)), []⟩ :: L89_4
theorem v89_5 : VS L89_5.eq_1 := rfl
def L89_6 : List AStep := ⟨.iaddr 2 (.t 18) (.t 19), (some 20), (some (17, false)), []⟩ :: ⟨.faddr 1 (.t 20), (some 21), (some (17, false)), []⟩ :: L89_5
theorem v89_6 : VS L89_6.eq_1 := rfl
def L89_7 : List AStep := ⟨.mov (.t 0), (some 18), (some (17, false)), []⟩ :: ⟨.mov (.t 3), (some 19), (some (17, false)), []⟩ :: L89_6
theorem v89_7 : VS L89_7.eq_1 := rfl
def L89_8 : List AStep := ⟨.not (.t 15), (some 16), none, []⟩ :: ⟨.mov (.t 16), (some 17), none, []⟩ :: L89_7
theorem v89_8 : VS L89_8.eq_1 := rfl
def L89_9 : List AStep := ⟨.load 1 false (.t 13), (some 14), none, []⟩ :: ⟨.call 108 [(.t 14)], (some 15), none, []⟩ :: L89_8
theorem v89_9 : VS L89_9.eq_1 := rfl
def L89_10 : List AStep := ⟨.iaddr 2 (.t 10) (.t 11), (some 12), none, []⟩ :: ⟨.faddr 0 (.t 12), (some 13), none, []⟩ :: L89_9
theorem v89_10 : VS L89_10.eq_1 := rfl
def L89_11 : List AStep := ⟨.mov (.t 0), (some 10), none, []⟩ :: ⟨.mov (.t 3), (some 11), none, []⟩ :: L89_10
theorem v89_11 : VS L89_11.eq_1 := rfl
def L89_12 : List AStep := [⟨.mov (.c (.bool false)), (some 2), none, []⟩]
theorem v89_12 : VS L89_12.eq_1 := rfl
def L89_13 : List AStep := [⟨.mov (.t 9), (some 3), none, []⟩]
theorem v89_13 : VS L89_13.eq_1 := rfl
def L89_14 : List AStep := ⟨.mov (.t 3), (some 8), none, []⟩ :: ⟨.bin .add (.t 8) (.c (.int .i64 1)), (some 9), none, []⟩ :: L89_13
theorem v89_14 : VS L89_14.eq_1 := rfl
def L89_15 : List AStep := [⟨.mov (.c (.bool true)), (some 2), none, []⟩]
theorem v89_15 : VS L89_15.eq_1 := rfl
def C89_0 : ACode := .cond (.t 7) .skip (.exit 0)
theorem u89_0 : VC C89_0.eq_1 := rfl
def C89_1 : ACode := .seq (.reg L89_3) C89_0
theorem u89_1 : VC C89_1.eq_1 := rfl
def C89_2 : ACode := .seq (.reg L89_12) .ret
theorem u89_2 : VC C89_2.eq_1 := rfl
def C89_3 : ACode := .cond (.t 25) C89_2 .skip
theorem u89_3 : VC C89_3.eq_1 := rfl
def C89_4 : ACode := .seq (.reg L89_11) C89_3
theorem u89_4 : VC C89_4.eq_1 := rfl
def C89_5 : ACode := .block 1 C89_4
theorem u89_5 : VC C89_5.eq_1 := rfl
def C89_6 : ACode := .seq C89_5 (.reg L89_14)
theorem u89_6 : VC C89_6.eq_1 := rfl
def C89_7 : ACode := .seq C89_1 C89_6
theorem u89_7 : VC C89_7.eq_1 := rfl
def C89_8 : ACode := .block 0 (.loop C89_7)
theorem u89_8 : VC C89_8.eq_1 := rfl
def C89_9 : ACode := .seq (.reg L89_1) C89_8
theorem u89_9 : VC C89_9.eq_1 := rfl
def C89_10 : ACode := .seq (.reg L89_15) .ret
theorem u89_10 : VC C89_10.eq_1 := rfl
def C89_11 : ACode := .seq C89_9 C89_10
theorem u89_11 : VC C89_11.eq_1 := rfl
def C89_12 : ACode := .seq (.reg L89_0) C89_11
theorem u89_12 : VC C89_12.eq_1 := rfl
def F89 : AFunc := ⟨26, [.tmp 2], C89_12⟩
theorem cF89 : compB Try.prog 89 = some F89 := by kernel_rfl
attribute [local go_sem ↓] u89_0 u89_1 u89_2 u89_3 u89_4 u89_5 u89_6 u89_7 u89_8 u89_9 u89_10 u89_11 u89_12 v89_0 v89_1 v89_2 v89_3 v89_4 v89_5 v89_6 v89_7 v89_8 v89_9 v89_10 v89_11 v89_12 v89_13 v89_14 v89_15
theorem c_validPairs (l : List Pair) (v : AV) (h : H) (hl : SlP h v l) (hn : smP l) : bm Try.prog 89 [v] h = some (ib (l.all okPair), h) := by
  refine bm_eq cF89 ?_
  simp +contextual (maxSteps := 2000000) only [go_sem, Nat.reduceEqDiff, reduceCtorEq, Nat.reduceAdd, Nat.reduceLeDiff, F89]
  refine wpC_loop (fun i T L h' => h' = h ∧ T 0 = .v v ∧ T 3 = .v (.one (.int .i64 i)) ∧ Pre okPair true l i) l.length ?_ ?_ (Nat.zero_le _) ?_
  · rintro i T L h' hi ⟨rfl, h0, h3, hp⟩
    simp +contextual (maxSteps := 2000000) only [go_sem, Nat.reduceEqDiff, reduceCtorEq, Nat.reduceAdd, Nat.reduceLeDiff, h0, h3, hl.len, hl.iaddr hi, hl.fieldO hi, c_validNumber, c_validName _ _ (hn.at hi), lt_true hi]
    (repeat' (first | refine And.intro ?_ ?_ | intro _)) <;> first | rfl | rw [wrap_next hi hn.len] | exact hp.next hi (by simp [okPair, *]) | rw [all_stop hi (by simp [okPair, *])]
  · rintro T L h' ⟨rfl, h0, h3, hp⟩
    simp +contextual (maxSteps := 2000000) only [go_sem, Nat.reduceEqDiff, reduceCtorEq, Nat.reduceAdd, Nat.reduceLeDiff, h0, h3, hl.len, lt_false, hp.all]
  · simp +contextual (maxSteps := 2000000) only [go_sem, Nat.reduceEqDiff, reduceCtorEq, Nat.reduceAdd, Nat.reduceLeDiff]
    (repeat' (first | refine And.intro ?_ ?_ | intro _)) <;> first | rfl | exact Pre.zero
/-! spec.validFlat -/
def L64_0 : List AStep := [⟨.box 42 (.t 0), (some 1), none, []⟩, ⟨.mov (.c (.bool false)), (some 2), none, []⟩]
theorem v64_0 : VS L64_0.eq_1 := rfl
def L64_1 : List AStep := [⟨.mov (.c (.int .i64 0)), (some 3), none, []⟩]
theorem v64_1 : VS L64_1.eq_1 := rfl
def L64_2 : List AStep := [⟨.bin .lss (.t 4) (.t 7), (some 8), none, []⟩]
theorem v64_2 : VS L64_2.eq_1 := rfl
def L64_3 : List AStep := ⟨.load 1 false (.t 5), (some 6), none, []⟩ :: ⟨.len (.t 6), (some 7), none, []⟩ :: L64_2
theorem v64_3 : VS L64_3.eq_1 := rfl
def L64_4 : List AStep := ⟨.mov (.t 3), (some 4), none, []⟩ :: ⟨.faddr 1 (.t 1), (some 5), none, []⟩ :: L64_3
theorem v64_4 : VS L64_4.eq_1 := rfl
def L64_5 : List AStep := [⟨.call 87 [(.t 14), (.t 20)], (some 21), none, []⟩, ⟨.bin .geq (.t 21) (.c (.int .i64 0)), (some 22), none, []⟩]
theorem v64_5 : VS L64_5.eq_1 := rfl
def L64_6 : List AStep := ⟨.faddr 0 (.t 18), (some 19), none, []⟩ :: ⟨.load 1 false (.t 19), (some 20), none, []⟩ :: L64_5
theorem v64_6 : VS L64_6.eq_1 := rfl
def L64_7 : List AStep := ⟨.mov (.t 3), (some 17), none, []⟩ :: ⟨.iaddr 2 (.t 16) (.t 17), (some 18), none, []⟩ :: L64_6
theorem v64_7 : VS L64_7.eq_1 := rfl
def L64_8 : List AStep := ⟨.faddr 1 (.t 1), (some 15), none, []⟩ :: ⟨.load 1 false (.t 15), (some 16), none, []⟩ :: L64_7
theorem v64_8 : VS L64_8.eq_1 := rfl
def L64_9 : List AStep := ⟨.mov (.t 3), (some 13), none, []⟩ :: ⟨.slice 98 2 (.t 12) none (some (.t 13)) none, (some 14), none, []⟩ :: L64_8
theorem v64_9 : VS L64_9.eq_1 := rfl
def L64_10 : List AStep := ⟨.faddr 1 (.t 1), (some 11), none, []⟩ :: ⟨.load 1 false (.t 11), (some 12), none, []⟩ :: L64_9
theorem v64_10 : VS L64_10.eq_1 := rfl
def L64_11 : List AStep := [⟨.mov (.c (.bool false)), (some 2), none, []⟩]
theorem v64_11 : VS L64_11.eq_1 := rfl
def L64_12 : List AStep := [⟨.mov (.t 10), (some 3), none, []⟩]
theorem v64_12 : VS L64_12.eq_1 := rfl
def L64_13 : List AStep := ⟨.mov (.t 3), (some 9), none, []⟩ :: ⟨.bin .add (.t 9) (.c (.int .i64 1)), (some 10), none, []⟩ :: L64_12
theorem v64_13 : VS L64_13.eq_1 := rfl
def L64_14 : List AStep := [⟨.mov (.t 42), (some 2), none, []⟩]
theorem v64_14 : VS L64_14.eq_1 := rfl
def L64_15 : List AStep := ⟨.bin .leq (.t 40) (.c (.int .i64 8)), (some 41), (some (37, true)), []⟩ :: ⟨.pick (.t 37) (.t 41) (.c (.bool false)), (some 42), none, []⟩ :: L64_14
theorem v64_15 : VS L64_15.eq_1 := rfl
def L64_16 : List AStep := ⟨.load 1 false (.t 38), (some 39), (some (37, true)), []⟩ :: ⟨.len (.t 39), (some 40), (some (37, true)), []⟩ :: L64_15
theorem v64_16 : VS L64_16.eq_1 := rfl
def L64_17 : List AStep := ⟨.mov (.t 36), (some 37), none, []⟩ :: ⟨.faddr 1 (.t 1), (some 38), (some (37, true)), []⟩ :: L64_16
theorem v64_17 : VS L64_17.eq_1 := rfl
def L64_18 : List AStep := ⟨.bin .leq (.t 34) (.c (.int .i64 8)), (some 35), (some (31, true)), []⟩ :: ⟨.pick (.t 31) (.t 35) (.c (.bool false)), (some 36), none, []⟩ :: L64_17
theorem v64_18 : VS L64_18.eq_1 := rfl
def L64_19 : List AStep := ⟨.load 1 false (.t 32), (some 33), (some (31, true)), []⟩ :: ⟨.len (.t 33), (some 34), (some (31, true)), []⟩ :: L64_18
theorem v64_19 : VS L64_19.eq_1 := rfl
def L64_20 : List AStep := ⟨.mov (.t 30), (some 31), none, []⟩ :: ⟨.faddr 0 (.t 1), (some 32), (some (31, true)), []⟩ :: L64_19
theorem v64_20 : VS L64_20.eq_1 := rfl
def L64_21 : List AStep := ⟨.call 89 [(.t 28)], (some 29), (some (26, true)), []⟩ :: ⟨.pick (.t 26) (.t 29) (.c (.bool false)), (some 30), none, []⟩ :: L64_20
theorem v64_21 : VS L64_21.eq_1 := rfl
def L64_22 : List AStep := ⟨.faddr 1 (.t 1), (some 27), (some (26, true)), []⟩ :: ⟨.load 1 false (.t 27), (some 28), (some (26, true)), []⟩ :: L64_21
theorem v64_22 : VS L64_22.eq_1 := rfl
def L64_23 : List AStep := ⟨.call 88 [(.t 24)], (some 25), none, []⟩ :: ⟨.mov (.t 25), (some 26), none, []⟩ :: L64_22
theorem v64_23 : VS L64_23.eq_1 := rfl
def L64_24 : List AStep := ⟨.faddr 0 (.t 1), (some 23), none, []⟩ :: ⟨.load 1 false (.t 23), (some 24), none, []⟩ :: L64_23
theorem v64_24 : VS L64_24.eq_1 := rfl
def C64_0 : ACode := .cond (.t 8) .skip (.exit 0)
theorem u64_0 : VC C64_0.eq_1 := rfl
def C64_1 : ACode := .seq (.reg L64_4) C64_0
theorem u64_1 : VC C64_1.eq_1 := rfl
def C64_2 : ACode := .seq (.reg L64_11) .ret
theorem u64_2 : VC C64_2.eq_1 := rfl
def C64_3 : ACode := .cond (.t 22) C64_2 .skip
theorem u64_3 : VC C64_3.eq_1 := rfl
def C64_4 : ACode := .seq (.reg L64_10) C64_3
theorem u64_4 : VC C64_4.eq_1 := rfl
def C64_5 : ACode := .block 1 C64_4
theorem u64_5 : VC C64_5.eq_1 := rfl
def C64_6 : ACode := .seq C64_5 (.reg L64_13)
theorem u64_6 : VC C64_6.eq_1 := rfl
def C64_7 : ACode := .seq C64_1 C64_6
theorem u64_7 : VC C64_7.eq_1 := rfl
def C64_8 : ACode := .block 0 (.loop C64_7)
theorem u64_8 : VC C64_8.eq_1 := rfl
def C64_9 : ACode := .seq (.reg L64_1) C64_8
theorem u64_9 : VC C64_9.eq_1 := rfl
def C64_10 : ACode := .seq (.reg L64_24) .ret
theorem u64_10 : VC C64_10.eq_1 := rfl
def C64_11 : ACode := .seq C64_9 C64_10
theorem u64_11 : VC C64_11.eq_1 := rfl
def C64_12 : ACode := .seq (.reg L64_0) C64_11
theorem u64_12 : VC C64_12.eq_1 := rfl
def F64 : AFunc := ⟨43, [.tmp 2], C64_12⟩
theorem cF64 : compB Try.prog 64 = some F64 := by kernel_rfl
attribute [local go_sem ↓] u64_0 u64_1 u64_2 u64_3 u64_4 u64_5 u64_6 u64_7 u64_8 u64_9 u64_10 u64_11 u64_12 v64_0 v64_1 v64_2 v64_3 v64_4 v64_5 v64_6 v64_7 v64_8 v64_9 v64_10 v64_11 v64_12 v64_13 v64_14 v64_15 v64_16 v64_17 v64_18 v64_19 v64_20 v64_21 v64_22 v64_23 v64_24
theorem c_validFlat (f : Flat) (pv nv : CV) (h : H) (hp : SlI h (.one pv) f.pl) (hq : SlP h (.one nv) f.nl) (hn : smF f) : bm Try.prog 64 [.agg [pv, nv]] h = some (ib (okFlat f), h) := by
  refine bm_eq cF64 ?_
  simp +contextual (maxSteps := 2000000) only [go_sem, Nat.reduceEqDiff, reduceCtorEq, Nat.reduceAdd, Nat.reduceLeDiff, F64]
  refine wpC_loop (fun i T L h' => h' = h ∧ T 1 = .lp 1 0 ∧ (L 1).2 = [pv, nv] ∧ T 3 = .v (.one (.int .i64 i)) ∧ Upto (newAt Pair.name f.nl) i) f.nl.length ?_ ?_ (Nat.zero_le _) ?_
  · rintro i T L h' hi ⟨rfl, t1, l1, t3, hu⟩
    obtain ⟨v', e1, s1⟩ := hq.takeO (i := i) (by omega) (kd := .i64)
    have e2 : decide (pairAt (f.nl.take i) f.nl[i].name ≥ 0) = !(newAt Pair.name f.nl i) := newAt_ge hi
    simp +contextual (maxSteps := 2000000) only [go_sem, Nat.reduceEqDiff, reduceCtorEq, Nat.reduceAdd, Nat.reduceLeDiff, e2, t1, l1, t3, hq.len, hq.iaddr hi, hq.fieldO hi, lt_true hi, e1, c_pairAt _ _ _ _ s1 (hn.nl.take i)]
    (repeat' (first | refine And.intro ?_ ?_ | intro _)) <;> first | rfl | rw [wrap_next hi hn.nl.len] | exact hu.next (by simp_all) | rw [okFlat, apart_not hi (by simp_all)]; rfl
  · rintro T L h' ⟨rfl, t1, l1, t3, hu⟩
    simp +contextual (maxSteps := 2000000) only [go_sem, Nat.reduceEqDiff, reduceCtorEq, Nat.reduceAdd, Nat.reduceLeDiff, t1, l1, t3, hq.len, hp.len, lt_false, c_validNumbers _ _ _ hp hn.pl, c_validPairs _ _ _ hq hn.nl, okFlat, apart_of hu]
    (repeat' (first | refine And.intro ?_ ?_ | intro _)) <;> first | rfl | simp_all
  · simp +contextual (maxSteps := 2000000) only [go_sem, Nat.reduceEqDiff, reduceCtorEq, Nat.reduceAdd, Nat.reduceLeDiff]
    (repeat' (first | refine And.intro ?_ ?_ | intro _)) <;> first | rfl | exact Upto.zero
/-! spec.byPlace -/
def L90_0 : List AStep := [⟨.box 100 (.t 0), (some 1), none, []⟩, ⟨.mov (.c (.bool false)), (some 2), none, []⟩]
theorem v90_0 : VS L90_0.eq_1 := rfl
def L90_1 : List AStep := [⟨.mov (.t 10), (some 2), none, []⟩]
theorem v90_1 : VS L90_1.eq_1 := rfl
def L90_2 : List AStep := ⟨.bin .eql (.t 8) (.c (.int .i64 1)), (some 9), (some (6, false)), []⟩ :: ⟨.pick (.t 6) (.c (.bool true)) (.t 9), (some 10), none, []⟩ :: L90_1
theorem v90_2 : VS L90_2.eq_1 := rfl
def L90_3 : List AStep := ⟨.faddr 1 (.t 1), (some 7), (some (6, false)), []⟩ :: ⟨.load 1 false (.t 7), (some 8), (some (6, false)), []⟩ :: L90_2
theorem v90_3 : VS L90_3.eq_1 := rfl
def L90_4 : List AStep := ⟨.bin .eql (.t 4) (.c (.int .i64 0)), (some 5), none, []⟩ :: ⟨.mov (.t 5), (some 6), none, []⟩ :: L90_3
theorem v90_4 : VS L90_4.eq_1 := rfl
def L90_5 : List AStep := ⟨.faddr 1 (.t 1), (some 3), none, []⟩ :: ⟨.load 1 false (.t 3), (some 4), none, []⟩ :: L90_4
theorem v90_5 : VS L90_5.eq_1 := rfl
def C90_0 : ACode := .seq (.reg L90_5) .ret
theorem u90_0 : VC C90_0.eq_1 := rfl
def C90_1 : ACode := .seq (.reg L90_0) C90_0
theorem u90_1 : VC C90_1.eq_1 := rfl
def F90 : AFunc := ⟨11, [.tmp 2], C90_1⟩
theorem cF90 : compB Try.prog 90 = some F90 := by kernel_rfl
attribute [local go_sem ↓] u90_0 u90_1 v90_0 v90_1 v90_2 v90_3 v90_4 v90_5
theorem c_byPlace (p : Param) (h : H) : bm Try.prog 90 [.agg (encQ p)] h = some (ib (byPlace p), h) := by
  refine bm_eq cF90 ?_
  simp +contextual (maxSteps := 2000000) only [go_sem, Nat.reduceEqDiff, reduceCtorEq, Nat.reduceAdd, Nat.reduceLeDiff, F90, byPlace]
  cases decide (p.kind = 0) <;> simp
/-! spec.byName -/
def L92_0 : List AStep := [⟨.box 100 (.t 0), (some 1), none, []⟩, ⟨.mov (.c (.bool false)), (some 2), none, []⟩]
theorem v92_0 : VS L92_0.eq_1 := rfl
def L92_1 : List AStep := [⟨.mov (.t 10), (some 2), none, []⟩]
theorem v92_1 : VS L92_1.eq_1 := rfl
def L92_2 : List AStep := ⟨.bin .eql (.t 8) (.c (.int .i64 3)), (some 9), (some (6, false)), []⟩ :: ⟨.pick (.t 6) (.c (.bool true)) (.t 9), (some 10), none, []⟩ :: L92_1
theorem v92_2 : VS L92_2.eq_1 := rfl
def L92_3 : List AStep := ⟨.faddr 1 (.t 1), (some 7), (some (6, false)), []⟩ :: ⟨.load 1 false (.t 7), (some 8), (some (6, false)), []⟩ :: L92_2
theorem v92_3 : VS L92_3.eq_1 := rfl
def L92_4 : List AStep := ⟨.bin .eql (.t 4) (.c (.int .i64 1)), (some 5), none, []⟩ :: ⟨.mov (.t 5), (some 6), none, []⟩ :: L92_3
theorem v92_4 : VS L92_4.eq_1 := rfl
def L92_5 : List AStep := ⟨.faddr 1 (.t 1), (some 3), none, []⟩ :: ⟨.load 1 false (.t 3), (some 4), none, []⟩ :: L92_4
theorem v92_5 : VS L92_5.eq_1 := rfl
def C92_0 : ACode := .seq (.reg L92_5) .ret
theorem u92_0 : VC C92_0.eq_1 := rfl
def C92_1 : ACode := .seq (.reg L92_0) C92_0
theorem u92_1 : VC C92_1.eq_1 := rfl
def F92 : AFunc := ⟨11, [.tmp 2], C92_1⟩
theorem cF92 : compB Try.prog 92 = some F92 := by kernel_rfl
attribute [local go_sem ↓] u92_0 u92_1 v92_0 v92_1 v92_2 v92_3 v92_4 v92_5
theorem c_byName (p : Param) (h : H) : bm Try.prog 92 [.agg (encQ p)] h = some (ib (byName p), h) := by
  refine bm_eq cF92 ?_
  simp +contextual (maxSteps := 2000000) only [go_sem, Nat.reduceEqDiff, reduceCtorEq, Nat.reduceAdd, Nat.reduceLeDiff, F92, byName]
  cases decide (p.kind = 1) <;> simp
/-! spec.isSingle -/
def L105_0 : List AStep := [⟨.box 100 (.t 0), (some 1), none, []⟩, ⟨.mov (.c (.bool false)), (some 2), none, []⟩]
theorem v105_0 : VS L105_0.eq_1 := rfl
def L105_1 : List AStep := [⟨.mov (.t 8), (some 2), none, []⟩]
theorem v105_1 : VS L105_1.eq_1 := rfl
def L105_2 : List AStep := ⟨.call 92 [(.t 6)], (some 7), (some (5, false)), []⟩ :: ⟨.pick (.t 5) (.c (.bool true)) (.t 7), (some 8), none, []⟩ :: L105_1
theorem v105_2 : VS L105_2.eq_1 := rfl
def L105_3 : List AStep := ⟨.mov (.t 4), (some 5), none, []⟩ :: ⟨.load 4 true (.t 1), (some 6), (some (5, false)), []⟩ :: L105_2
theorem v105_3 : VS L105_3.eq_1 := rfl
def L105_4 : List AStep := ⟨.load 4 true (.t 1), (some 3), none, []⟩ :: ⟨.call 90 [(.t 3)], (some 4), none, []⟩ :: L105_3
theorem v105_4 : VS L105_4.eq_1 := rfl
def C105_0 : ACode := .seq (.reg L105_4) .ret
theorem u105_0 : VC C105_0.eq_1 := rfl
def C105_1 : ACode := .seq (.reg L105_0) C105_0
theorem u105_1 : VC C105_1.eq_1 := rfl
def F105 : AFunc := ⟨9, [.tmp 2], C105_1⟩
theorem cF105 : compB Try.prog 105 = some F105 := by kernel_rfl
attribute [local go_sem ↓] u105_0 u105_1 v105_0 v105_1 v105_2 v105_3 v105_4
theorem c_isSingle (p : Param) (h : H) : bm Try.prog 105 [.agg (encQ p)] h = some (ib (single p), h) := by
  refine bm_eq cF105 ?_
  simp +contextual (maxSteps := 2000000) only [go_sem, Nat.reduceEqDiff, reduceCtorEq, Nat.reduceAdd, Nat.reduceLeDiff, F105, c_byPlace, c_byName, single]
  cases byPlace p <;> simp
end Go.Proofs.Ytdalgphpacikkaa.Am
