/- Contracts of the reference: numbers, names, pairs, flat calls and signatures that are valid. -/
import Derived.Test.YtekkimfdcbgcoabDat
namespace Go.Proofs.Ytekkimfdcbgcoab.Am
open Go
set_option maxRecDepth 100000
set_option maxHeartbeats 4000000
set_option linter.unusedSimpArgs false
set_option linter.unusedVariables false
attribute [local go_sem ↓] bv_t bv_c ev_t ev_c put_same put_ne put_none kill_at pro_at lb_same lb_ne start_zero start_succ wpC_seq wpC_reg wpC_cond wpC_block wpC_skip wpC_exit wpC_ret thenQ_normal thenQ_exit thenQ_ret inBlk_normal inBlk_exit inBlk_ret wpS_nil wpS_step wpS_again wpS_guard wpO_mov wpO_load wpO_faddr wpO_nilCheck wpO_pick wpO_build wpO_bin wpO_eqb wpO_eqst wpO_eqnil wpO_not wpO_conv wpO_bytesStr wpO_iaddr wpO_idxStr wpO_field wpO_extract wpO_len wpO_lenStr wpO_cap wpO_min wpO_slice wpO_sliceStr wpO_alloc wpO_box wpO_store wpO_call wpO_callv wpO_mkfn wpO_buildSlice wpO_mkslice wpO_append wpO_appz proA_nil proA_cons tmpX_nil tmpX_tmp tmpX_cell doneB_normal doneB_ret agK_cons agK_nil agK_guard agG_tt agG_ff agG_tf agG_ft agG_undef pureB_load results_one results_two results_nil resBs_cons resBs_nil resB_tmp resB_cell
attribute [local go_sem] kill_v kill_lp_ne kill_lp_same pro_v pro_lp_same pro_lp_ne av_v av_lp optB_some optX_some valX_eq ldX_lp ldX_v faX_lp faX_v ncX_lp ncX_ptr ncX_fn boxK_one boxK_agg stL_some stK_lp_one stK_lp_agg stK_v_one stK_v_agg proM_v proM_lp callG_mk callVG_mk callvK_fn fnG_mk ptrsA_nil ptrsA_cons callH_some whenA_true whenA_false guardH_tt guardH_ff guardH_tf guardH_ft guardH_undef agV_one agV_agg lenO_sl lenStrO_str notO_bool pickO_bool convO_int eqbO_bool eqnilO_sl extractO_tup capO_sl minO_int loadL_one loadL_all storeL_eq fillA_nil fillA_one fillA_agg nat_ge neg_ge nat_lt neg_lt buildO bin_add bin_sub bin_mul bin_eql bin_neq bin_lss bin_leq bin_gtr bin_geq str_eql str_neq str_lss str_leq str_gtr str_geq retK_some endK_mk gcK_same gcK_int gcK_bool tupO_one tupO_agg rdy_self ib ii Option.map_none Option.map_some Option.some.injEq exists_eq_left' exists_eq_left ne_eq not_false_eq_true if_true if_false List.map_cons List.map_nil List.getElem?_cons_zero List.getElem?_cons_succ List.length_cons List.length_nil List.take_succ_cons List.take_zero List.take_nil List.drop_succ_cons List.drop_zero List.drop_nil List.cons_append List.nil_append List.append_nil List.set_cons_zero List.set_cons_succ Nat.zero_add forall_const true_and and_true and_self Bool.false_eq_true false_implies true_implies implies_true Bool.not_true Bool.not_false Bool.not_eq_true' Bool.not_eq_false' beq_self_eq_true Bool.bne_true Bool.bne_false
attribute [local go_sem] lenI lenS lenP lenQ lenB lenL lenT encI_0 encS_0 encP_0 encP_1 encQ_0 encQ_1 encQ_2 encQ_3 encB_0 encB_1 encL_0 encL_1 encT_0 encT_1
attribute [local go_sem low] whenA_bool guardH_bool
/-! spec.inRange -/
def L144_0 : List AStep := [⟨.mov (.c (.bool false)), (some 6), none, []⟩]
theorem v144_0 : VS L144_0.eq_1 := rfl
def L144_1 : List AStep := [⟨.mov (.t 14), (some 6), none, []⟩]
theorem v144_1 : VS L144_1.eq_1 := rfl
def L144_2 : List AStep := ⟨.bin .leq (.t 11) (.t 12), (some 13), (some (10, true)), []⟩ :: ⟨.pick (.t 10) (.t 13) (.c (.bool false)), (some 14), none, []⟩ :: L144_1
theorem v144_2 : VS L144_2.eq_1 := rfl
def L144_3 : List AStep := ⟨.mov (.t 0), (some 11), (some (10, true)), []⟩ :: ⟨.mov (.t 2), (some 12), (some (10, true)), []⟩ :: L144_2
theorem v144_3 : VS L144_3.eq_1 := rfl
def L144_4 : List AStep := ⟨.bin .leq (.t 7) (.t 8), (some 9), none, []⟩ :: ⟨.mov (.t 9), (some 10), none, []⟩ :: L144_3
theorem v144_4 : VS L144_4.eq_1 := rfl
def L144_5 : List AStep := ⟨.mov (.t 1), (some 7), none, []⟩ :: ⟨.mov (.t 0), (some 8), none, []⟩ :: L144_4
theorem v144_5 : VS L144_5.eq_1 := rfl
def C144_0 : ACode := .seq (.reg L144_5) .ret
theorem u144_0 : VC C144_0.eq_1 := rfl
def C144_1 : ACode := .seq (.reg L144_0) C144_0
theorem u144_1 : VC C144_1.eq_1 := rfl
def F144 : AFunc := ⟨15, [.tmp 6], C144_1⟩
theorem cF144 : compB Try.prog 144 = some F144 := by kernel_rfl
attribute [local go_sem ↓] u144_0 u144_1 v144_0 v144_1 v144_2 v144_3 v144_4 v144_5
theorem c_inRange (n lo hi : Int) (h : H) : bm Try.prog 144 [.one (.int .i64 n), .one (.int .i64 lo), .one (.int .i64 hi)] h = some (ib (decide (lo ≤ n) && decide (n ≤ hi)), h) := by
  refine bm_eq cF144 ?_
  simp +contextual (maxSteps := 2000000) only [go_sem, Nat.reduceEqDiff, reduceCtorEq, Nat.reduceAdd, Nat.reduceLeDiff, F144]
  cases decide (lo ≤ n) <;> simp
/-! spec.validNumber -/
def L145_0 : List AStep := [⟨.mov (.c (.bool false)), (some 2), none, []⟩]
theorem v145_0 : VS L145_0.eq_1 := rfl
def L145_1 : List AStep := [⟨.mov (.t 4), (some 2), none, []⟩]
theorem v145_1 : VS L145_1.eq_1 := rfl
def L145_2 : List AStep := ⟨.mov (.t 0), (some 3), none, []⟩ :: ⟨.call 144 [(.t 3), (.c (.int .i64 (-99))), (.c (.int .i64 99))], (some 4), none, []⟩ :: L145_1
theorem v145_2 : VS L145_2.eq_1 := rfl
def C145_0 : ACode := .seq (.reg L145_2) .ret
theorem u145_0 : VC C145_0.eq_1 := rfl
def C145_1 : ACode := .seq (.reg L145_0) C145_0
theorem u145_1 : VC C145_1.eq_1 := rfl
def F145 : AFunc := ⟨5, [.tmp 2], C145_1⟩
theorem cF145 : compB Try.prog 145 = some F145 := by kernel_rfl
attribute [local go_sem ↓] u145_0 u145_1 v145_0 v145_1 v145_2
theorem c_validNumber (n : Int) (h : H) : bm Try.prog 145 [.one (.int .i64 n)] h = some (ib (okNum n), h) := by
  refine bm_eq cF145 ?_
  simp +contextual (maxSteps := 2000000) only [go_sem, Nat.reduceEqDiff, reduceCtorEq, Nat.reduceAdd, Nat.reduceLeDiff, F145, c_inRange, okNum]
/-! spec.validNumbers -/
def L139_0 : List AStep := [⟨.mov (.c (.bool false)), (some 2), none, []⟩]
theorem v139_0 : VS L139_0.eq_1 := rfl
def L139_1 : List AStep := [⟨.mov (.c (.int .i64 0)), (some 3), none, []⟩]
theorem v139_1 : VS L139_1.eq_1 := rfl
def L139_2 : List AStep := [⟨.len (.t 5), (some 6), none, []⟩, ⟨.bin .lss (.t 4) (.t 6), (some 7), none, []⟩]
theorem v139_2 : VS L139_2.eq_1 := rfl
def L139_3 : List AStep := ⟨.mov (.t 3), (some 4), none, []⟩ :: ⟨.mov (.t 0), (some 5), none, []⟩ :: L139_2
theorem v139_3 : VS L139_3.eq_1 := rfl
def L139_4 : List AStep := [⟨.call 145 [(.t 13)], (some 14), none, []⟩, ⟨.not (.t 14), (some 15), none, []⟩]
theorem v139_4 : VS L139_4.eq_1 := rfl
def L139_5 : List AStep := ⟨.iaddr 1 (.t 10) (.t 11), (some 12), none, []⟩ :: ⟨.load 1 false (.t 12), (some 13), none, []⟩ :: L139_4
theorem v139_5 : VS L139_5.eq_1 := rfl
def L139_6 : List AStep := ⟨.mov (.t 0), (some 10), none, []⟩ :: ⟨.mov (.t 3), (some 11), none, []⟩ :: L139_5
theorem v139_6 : VS L139_6.eq_1 := rfl
def L139_7 : List AStep := [⟨.mov (.c (.bool false)), (some 2), none, []⟩]
theorem v139_7 : VS L139_7.eq_1 := rfl
def L139_8 : List AStep := [⟨.mov (.t 9), (some 3), none, []⟩]
theorem v139_8 : VS L139_8.eq_1 := rfl
def L139_9 : List AStep := ⟨.mov (.t 3), (some 8), none, []⟩ :: ⟨.bin .add (.t 8) (.c (.int .i64 1)), (some 9), none, []⟩ :: L139_8
theorem v139_9 : VS L139_9.eq_1 := rfl
def L139_10 : List AStep := [⟨.mov (.c (.bool true)), (some 2), none, []⟩]
theorem v139_10 : VS L139_10.eq_1 := rfl
def C139_0 : ACode := .cond (.t 7) .skip (.exit 0)
theorem u139_0 : VC C139_0.eq_1 := rfl
def C139_1 : ACode := .seq (.reg L139_3) C139_0
theorem u139_1 : VC C139_1.eq_1 := rfl
def C139_2 : ACode := .seq (.reg L139_7) .ret
theorem u139_2 : VC C139_2.eq_1 := rfl
def C139_3 : ACode := .cond (.t 15) C139_2 .skip
theorem u139_3 : VC C139_3.eq_1 := rfl
def C139_4 : ACode := .seq (.reg L139_6) C139_3
theorem u139_4 : VC C139_4.eq_1 := rfl
def C139_5 : ACode := .block 1 C139_4
theorem u139_5 : VC C139_5.eq_1 := rfl
def C139_6 : ACode := .seq C139_5 (.reg L139_9)
theorem u139_6 : VC C139_6.eq_1 := rfl
def C139_7 : ACode := .seq C139_1 C139_6
theorem u139_7 : VC C139_7.eq_1 := rfl
def C139_8 : ACode := .block 0 (.loop C139_7)
theorem u139_8 : VC C139_8.eq_1 := rfl
def C139_9 : ACode := .seq (.reg L139_1) C139_8
theorem u139_9 : VC C139_9.eq_1 := rfl
def C139_10 : ACode := .seq (.reg L139_10) .ret
theorem u139_10 : VC C139_10.eq_1 := rfl
def C139_11 : ACode := .seq C139_9 C139_10
theorem u139_11 : VC C139_11.eq_1 := rfl
def C139_12 : ACode := .seq (.reg L139_0) C139_11
theorem u139_12 : VC C139_12.eq_1 := rfl
def F139 : AFunc := ⟨16, [.tmp 2], C139_12⟩
theorem cF139 : compB Try.prog 139 = some F139 := by kernel_rfl
attribute [local go_sem ↓] u139_0 u139_1 u139_2 u139_3 u139_4 u139_5 u139_6 u139_7 u139_8 u139_9 u139_10 u139_11 u139_12 v139_0 v139_1 v139_2 v139_3 v139_4 v139_5 v139_6 v139_7 v139_8 v139_9 v139_10
theorem c_validNumbers (l : List Int) (v : AV) (h : H) (hl : SlI h v l) (hn : l.length ≤ big) : bm Try.prog 139 [v] h = some (ib (l.all okNum), h) := by
  refine bm_eq cF139 ?_
  simp +contextual (maxSteps := 2000000) only [go_sem, Nat.reduceEqDiff, reduceCtorEq, Nat.reduceAdd, Nat.reduceLeDiff, F139]
  refine wpC_loop (fun i T L h' => h' = h ∧ T 0 = .v v ∧ T 3 = .v (.one (.int .i64 i)) ∧ Pre okNum true l i) l.length ?_ ?_ (Nat.zero_le _) ?_
  · rintro i T L h' hi ⟨rfl, h0, h3, hp⟩
    simp +contextual (maxSteps := 2000000) only [go_sem, Nat.reduceEqDiff, reduceCtorEq, Nat.reduceAdd, Nat.reduceLeDiff, h0, h3, hl.len, hl.iaddr hi, hl.oneO hi, c_validNumber, lt_true hi]
    (repeat' (first | refine And.intro ?_ ?_ | intro _)) <;> first | rfl | rw [wrap_next hi (big_lt hn)] | exact hp.next hi ‹_› | rw [all_stop hi ‹_›]
  · rintro T L h' ⟨rfl, h0, h3, hp⟩
    simp +contextual (maxSteps := 2000000) only [go_sem, Nat.reduceEqDiff, reduceCtorEq, Nat.reduceAdd, Nat.reduceLeDiff, h0, h3, hl.len, lt_false, hp.all]
  · simp +contextual (maxSteps := 2000000) only [go_sem, Nat.reduceEqDiff, reduceCtorEq, Nat.reduceAdd, Nat.reduceLeDiff]
    (repeat' (first | refine And.intro ?_ ?_ | intro _)) <;> first | rfl | exact Pre.zero
/-! spec.pairAt -/
def L131_0 : List AStep := [⟨.mov (.c (.int .i64 0)), (some 4), none, []⟩]
theorem v131_0 : VS L131_0.eq_1 := rfl
def L131_1 : List AStep := [⟨.mov (.c (.int .i64 0)), (some 5), none, []⟩]
theorem v131_1 : VS L131_1.eq_1 := rfl
def L131_2 : List AStep := [⟨.len (.t 7), (some 8), none, []⟩, ⟨.bin .lss (.t 6) (.t 8), (some 9), none, []⟩]
theorem v131_2 : VS L131_2.eq_1 := rfl
def L131_3 : List AStep := ⟨.mov (.t 5), (some 6), none, []⟩ :: ⟨.mov (.t 0), (some 7), none, []⟩ :: L131_2
theorem v131_3 : VS L131_3.eq_1 := rfl
def L131_4 : List AStep := [⟨.bin .eql (.t 16) (.t 17), (some 18), none, []⟩]
theorem v131_4 : VS L131_4.eq_1 := rfl
def L131_5 : List AStep := ⟨.load 1 false (.t 15), (some 16), none, []⟩ :: ⟨.mov (.t 1), (some 17), none, []⟩ :: L131_4
theorem v131_5 : VS L131_5.eq_1 := rfl
def L131_6 : List AStep := ⟨.iaddr 2 (.t 12) (.t 13), (some 14), none, []⟩ :: ⟨.faddr 0 (.t 14), (some 15), none, []⟩ :: L131_5
theorem v131_6 : VS L131_6.eq_1 := rfl
def L131_7 : List AStep := ⟨.mov (.t 0), (some 12), none, []⟩ :: ⟨.mov (.t 5), (some 13), none, []⟩ :: L131_6
theorem v131_7 : VS L131_7.eq_1 := rfl
def L131_8 : List AStep := [⟨.mov (.t 5), (some 19), none, []⟩, ⟨.mov (.t 19), (some 4), none, []⟩]
theorem v131_8 : VS L131_8.eq_1 := rfl
def L131_9 : List AStep := [⟨.mov (.t 11), (some 5), none, []⟩]
theorem v131_9 : VS L131_9.eq_1 := rfl
def L131_10 : List AStep := ⟨.mov (.t 5), (some 10), none, []⟩ :: ⟨.bin .add (.t 10) (.c (.int .i64 1)), (some 11), none, []⟩ :: L131_9
theorem v131_10 : VS L131_10.eq_1 := rfl
def L131_11 : List AStep := [⟨.mov (.c (.int .i64 (-1))), (some 4), none, []⟩]
theorem v131_11 : VS L131_11.eq_1 := rfl
def C131_0 : ACode := .cond (.t 9) .skip (.exit 0)
theorem u131_0 : VC C131_0.eq_1 := rfl
def C131_1 : ACode := .seq (.reg L131_3) C131_0
theorem u131_1 : VC C131_1.eq_1 := rfl
def C131_2 : ACode := .seq (.reg L131_8) .ret
theorem u131_2 : VC C131_2.eq_1 := rfl
def C131_3 : ACode := .cond (.t 18) C131_2 .skip
theorem u131_3 : VC C131_3.eq_1 := rfl
def C131_4 : ACode := .seq (.reg L131_7) C131_3
theorem u131_4 : VC C131_4.eq_1 := rfl
def C131_5 : ACode := .block 1 C131_4
theorem u131_5 : VC C131_5.eq_1 := rfl
def C131_6 : ACode := .seq C131_5 (.reg L131_10)
theorem u131_6 : VC C131_6.eq_1 := rfl
def C131_7 : ACode := .seq C131_1 C131_6
theorem u131_7 : VC C131_7.eq_1 := rfl
def C131_8 : ACode := .block 0 (.loop C131_7)
theorem u131_8 : VC C131_8.eq_1 := rfl
def C131_9 : ACode := .seq (.reg L131_1) C131_8
theorem u131_9 : VC C131_9.eq_1 := rfl
def C131_10 : ACode := .seq (.reg L131_11) .ret
theorem u131_10 : VC C131_10.eq_1 := rfl
def C131_11 : ACode := .seq C131_9 C131_10
theorem u131_11 : VC C131_11.eq_1 := rfl
def C131_12 : ACode := .seq (.reg L131_0) C131_11
theorem u131_12 : VC C131_12.eq_1 := rfl
def F131 : AFunc := ⟨20, [.tmp 4], C131_12⟩
theorem cF131 : compB Try.prog 131 = some F131 := by kernel_rfl
attribute [local go_sem ↓] u131_0 u131_1 u131_2 u131_3 u131_4 u131_5 u131_6 u131_7 u131_8 u131_9 u131_10 u131_11 u131_12 v131_0 v131_1 v131_2 v131_3 v131_4 v131_5 v131_6 v131_7 v131_8 v131_9 v131_10 v131_11
theorem c_pairAt (l : List Pair) (v : AV) (s : ByteArray) (h : H) (hl : SlP h v l) (hn : smP l) : bm Try.prog 131 [v, .one (.str s)] h = some (ii (pairAt l s), h) := by
  refine bm_eq cF131 ?_
  simp +contextual (maxSteps := 2000000) only [go_sem, Nat.reduceEqDiff, reduceCtorEq, Nat.reduceAdd, Nat.reduceLeDiff, F131]
  refine wpC_loop (fun i T L h' => h' = h ∧ T 0 = .v v ∧ T 1 = .v (.one (.str s)) ∧ T 5 = .v (.one (.int .i64 i)) ∧ Pre (fun p => decide (p.name = s)) false l i) l.length ?_ ?_ (Nat.zero_le _) ?_
  · rintro i T L h' hi ⟨rfl, h0, h1, h3, hp⟩
    simp +contextual (maxSteps := 2000000) only [go_sem, Nat.reduceEqDiff, reduceCtorEq, Nat.reduceAdd, Nat.reduceLeDiff, h0, h1, h3, hl.len, hl.iaddr hi, hl.fieldO hi, lt_true hi]
    (repeat' (first | refine And.intro ?_ ?_ | intro _)) <;> first | rfl | rw [wrap_next hi hn.len] | exact hp.next hi ‹_› | rw [pairAt, idx_hit hi hp ‹_›]
  · rintro T L h' ⟨rfl, h0, h1, h3, hp⟩
    simp +contextual (maxSteps := 2000000) only [go_sem, Nat.reduceEqDiff, reduceCtorEq, Nat.reduceAdd, Nat.reduceLeDiff, h0, h1, h3, hl.len, lt_false, pairAt, idx_none hp]
  · simp +contextual (maxSteps := 2000000) only [go_sem, Nat.reduceEqDiff, reduceCtorEq, Nat.reduceAdd, Nat.reduceLeDiff]
    (repeat' (first | refine And.intro ?_ ?_ | intro _)) <;> first | rfl | exact Pre.zero
/-! spec.validName -/
def L143_0 : List AStep := [⟨.mov (.c (.bool false)), (some 2), none, []⟩]
theorem v143_0 : VS L143_0.eq_1 := rfl
def L143_1 : List AStep := [⟨.mov (.c (.int .i64 0)), (some 3), none, []⟩]
theorem v143_1 : VS L143_1.eq_1 := rfl
def L143_2 : List AStep := [⟨.lenStr (.t 5), (some 6), none, []⟩, ⟨.bin .lss (.t 4) (.t 6), (some 7), none, []⟩]
theorem v143_2 : VS L143_2.eq_1 := rfl
def L143_3 : List AStep := ⟨.mov (.t 3), (some 4), none, []⟩ :: ⟨.mov (.t 0), (some 5), none, []⟩ :: L143_2
theorem v143_3 : VS L143_3.eq_1 := rfl
def L143_4 : List AStep := [⟨.bin .gtr (.t 17) (.c (.int .u8 122)), (some 18), (some (14, false)), []⟩, ⟨.pick (.t 14) (.c (.bool true)) (.t 18), (some 19), none, []⟩]
theorem v143_4 : VS L143_4.eq_1 := rfl
def L143_5 : List AStep := ⟨.mov (.t 3), (some 16), (some (14, false)), []⟩ :: ⟨.idxStr (.t 15) (.t 16), (some 17), (some (14, false)), []⟩ :: L143_4
theorem v143_5 : VS L143_5.eq_1 := rfl
def L143_6 : List AStep := ⟨.mov (.t 13), (some 14), none, []⟩ :: ⟨.mov (.t 0), (some 15), (some (14, false)), []⟩ :: L143_5
theorem v143_6 : VS L143_6.eq_1 := rfl
def L143_7 : List AStep := ⟨.idxStr (.t 10) (.t 11), (some 12), none, []⟩ :: ⟨.bin .lss (.t 12) (.c (.int .u8 97)), (some 13), none, []⟩ :: L143_6
theorem v143_7 : VS L143_7.eq_1 := rfl
def L143_8 : List AStep := ⟨.mov (.t 0), (some 10), none, []⟩ :: ⟨.mov (.t 3), (some 11), none, []⟩ :: L143_7
theorem v143_8 : VS L143_8.eq_1 := rfl
def L143_9 : List AStep := [⟨.mov (.c (.bool false)), (some 2), none, []⟩]
theorem v143_9 : VS L143_9.eq_1 := rfl
def L143_10 : List AStep := [⟨.mov (.t 9), (some 3), none, []⟩]
theorem v143_10 : VS L143_10.eq_1 := rfl
def L143_11 : List AStep := ⟨.mov (.t 3), (some 8), none, []⟩ :: ⟨.bin .add (.t 8) (.c (.int .i64 1)), (some 9), none, []⟩ :: L143_10
theorem v143_11 : VS L143_11.eq_1 := rfl
def L143_12 : List AStep := [⟨.call 144 [(.t 21), (.c (.int .i64 1)), (.c (.int .i64 6))], (some 22), none, []⟩, ⟨.mov (.t 22), (some 2), none, []⟩]
theorem v143_12 : VS L143_12.eq_1 := rfl
def L143_13 : List AStep := ⟨.mov (.t 0), (some 20), none, []⟩ :: ⟨.lenStr (.t 20), (some 21), none, []⟩ :: L143_12
theorem v143_13 : VS L143_13.eq_1 := rfl
def C143_0 : ACode := .cond (.t 7) .skip (.exit 0)
theorem u143_0 : VC C143_0.eq_1 := rfl
def C143_1 : ACode := .seq (.reg L143_3) C143_0
theorem u143_1 : VC C143_1.eq_1 := rfl
def C143_2 : ACode := .seq (.reg L143_9) .ret
theorem u143_2 : VC C143_2.eq_1 := rfl
def C143_3 : ACode := .cond (.t 19) C143_2 .skip
theorem u143_3 : VC C143_3.eq_1 := rfl
def C143_4 : ACode := .seq (.reg L143_8) C143_3
theorem u143_4 : VC C143_4.eq_1 := rfl
def C143_5 : ACode := .block 1 C143_4
theorem u143_5 : VC C143_5.eq_1 := rfl
def C143_6 : ACode := .seq C143_5 (.reg L143_11)
theorem u143_6 : VC C143_6.eq_1 := rfl
def C143_7 : ACode := .seq C143_1 C143_6
theorem u143_7 : VC C143_7.eq_1 := rfl
def C143_8 : ACode := .block 0 (.loop C143_7)
theorem u143_8 : VC C143_8.eq_1 := rfl
def C143_9 : ACode := .seq (.reg L143_1) C143_8
theorem u143_9 : VC C143_9.eq_1 := rfl
def C143_10 : ACode := .seq (.reg L143_13) .ret
theorem u143_10 : VC C143_10.eq_1 := rfl
def C143_11 : ACode := .seq C143_9 C143_10
theorem u143_11 : VC C143_11.eq_1 := rfl
def C143_12 : ACode := .seq (.reg L143_0) C143_11
theorem u143_12 : VC C143_12.eq_1 := rfl
def F143 : AFunc := ⟨23, [.tmp 2], C143_12⟩
theorem cF143 : compB Try.prog 143 = some F143 := by kernel_rfl
attribute [local go_sem ↓] u143_0 u143_1 u143_2 u143_3 u143_4 u143_5 u143_6 u143_7 u143_8 u143_9 u143_10 u143_11 u143_12 v143_0 v143_1 v143_2 v143_3 v143_4 v143_5 v143_6 v143_7 v143_8 v143_9 v143_10 v143_11 v143_12 v143_13
theorem c_validName (s : ByteArray) (h : H) (hn : s.size < 2 ^ 62) : bm Try.prog 143 [.one (.str s)] h = some (ib (okName s), h) := by
  refine bm_eq cF143 ?_
  simp +contextual (maxSteps := 2000000) only [go_sem, Nat.reduceEqDiff, reduceCtorEq, Nat.reduceAdd, Nat.reduceLeDiff, F143]
  have hsz : s.data.toList.length = s.size := Array.length_toList
  refine wpC_loop (fun i T L h' => h' = h ∧ T 0 = .v (.one (.str s)) ∧ T 3 = .v (.one (.int .i64 i)) ∧ Pre isLow true s.data.toList i) s.size ?_ ?_ (Nat.zero_le _) ?_
  · rintro i T L h' hi ⟨rfl, h0, h3, hp⟩
    simp +contextual (maxSteps := 2000000) only [go_sem, Nat.reduceEqDiff, reduceCtorEq, Nat.reduceAdd, Nat.reduceLeDiff, h0, h3, idx_at hi, lt_true hi]
    have e : s.data.toList[i]'(by omega) = s.data[i]'hi := Array.getElem_toList _
    have bad : isLow (s.data[i]'hi) = false → okName s = false := fun hx => by
      unfold okName
      rw [all_stop (l := s.data.toList) (i := i) (by omega) (by rw [e]; exact hx)]
      rfl
    have low : isLow (s.data[i]'hi) = (!(decide ((↑(s.data[i]'hi).toNat : Int) < 97)) && !(decide ((↑(s.data[i]'hi).toNat : Int) > 122))) := by
      unfold isLow
      rw [Bool.eq_iff_iff]
      simp
      omega
    (repeat' (first | refine And.intro ?_ ?_ | intro _)) <;> first | rfl | rw [wrap_next hi hn] | exact hp.next (by omega) (by rw [e, low]; simp_all) | rw [bad (by rw [low]; simp_all)]
  · rintro T L h' ⟨rfl, h0, h3, hp⟩
    rw [← hsz] at hp
    simp +contextual (maxSteps := 2000000) only [go_sem, Nat.reduceEqDiff, reduceCtorEq, Nat.reduceAdd, Nat.reduceLeDiff, h0, h3, lt_false, c_inRange, okName, hp.all, Bool.true_and]
  · simp +contextual (maxSteps := 2000000) only [go_sem, Nat.reduceEqDiff, reduceCtorEq, Nat.reduceAdd, Nat.reduceLeDiff]
    (repeat' (first | refine And.intro ?_ ?_ | intro _)) <;> first | rfl | exact Pre.zero
/-! spec.validPairs -/
def L140_0 : List AStep := [⟨.mov (.c (.bool false)), (some 2), none, []⟩]
theorem v140_0 : VS L140_0.eq_1 := rfl
def L140_1 : List AStep := [⟨.mov (.c (.int .i64 0)), (some 3), none, []⟩]
theorem v140_1 : VS L140_1.eq_1 := rfl
def L140_2 : List AStep := [⟨.len (.t 5), (some 6), none, []⟩, ⟨.bin .lss (.t 4) (.t 6), (some 7), none, []⟩]
theorem v140_2 : VS L140_2.eq_1 := rfl
def L140_3 : List AStep := ⟨.mov (.t 3), (some 4), none, []⟩ :: ⟨.mov (.t 0), (some 5), none, []⟩ :: L140_2
theorem v140_3 : VS L140_3.eq_1 := rfl
def L140_4 : List AStep := [⟨.not (.t 23), (some 24), (some (17, false)), []⟩, ⟨.pick (.t 17) (.c (.bool true)) (.t 24), (some 25), none, []⟩]
theorem v140_4 : VS L140_4.eq_1 := rfl
def L140_5 : List AStep := ⟨.load 1 false (.t 21), (some 22), (some (17, false)), []⟩ :: ⟨.call 145 [(.t 22)], (some 23), (some (17, false)), []⟩ :: L140_4
theorem v140_5 : VS L140_5.eq_1 := rfl
def L140_6 : List AStep := ⟨.iaddr 2 (.t 18) (.t 19), (some 20), (some (17, false)), []⟩ :: ⟨.faddr 1 (.t 20), (some 21), (some (17, false)), []⟩ :: L140_5
theorem v140_6 : VS L140_6.eq_1 := rfl
def L140_7 : List AStep := ⟨.mov (.t 0), (some 18), (some (17, false)), []⟩ :: ⟨.mov (.t 3), (some 19), (some (17, false)), []⟩ :: L140_6
theorem v140_7 : VS L140_7.eq_1 := rfl
def L140_8 : List AStep := ⟨.not (.t 15), (some 16), none, []⟩ :: ⟨.mov (.t 16), (some 17), none, []⟩ :: L140_7
theorem v140_8 : VS L140_8.eq_1 := rfl
def L140_9 : List AStep := ⟨.load 1 false (.t 13), (some 14), none, []⟩ :: ⟨.call 143 [(.t 14)], (some 15), none, []⟩ :: L140_8
theorem v140_9 : VS L140_9.eq_1 := rfl
def L140_10 : List AStep := ⟨.iaddr 2 (.t 10) (.t 11), (some 12), none, []⟩ :: ⟨.faddr 0 (.t 12), (some 13), none, []⟩ :: L140_9
theorem v140_10 : VS L140_10.eq_1 := rfl
def L140_11 : List AStep := ⟨.mov (.t 0), (some 10), none, []⟩ :: ⟨.mov (.t 3), (some 11), none, []⟩ :: L140_10
theorem v140_11 : VS L140_11.eq_1 := rfl
def L140_12 : List AStep := [⟨.mov (.c (.bool false)), (some 2), none, []⟩]
theorem v140_12 : VS L140_12.eq_1 := rfl
def L140_13 : List AStep := [⟨.mov (.t 9), (some 3), none, []⟩]
theorem v140_13 : VS L140_13.eq_1 := rfl
def L140_14 : List AStep := ⟨.mov (.t 3), (some 8), none, []⟩ :: ⟨.bin .add (.t 8) (.c (.int .i64 1)), (some 9), none, []⟩ :: L140_13
theorem v140_14 : VS L140_14.eq_1 := rfl
def L140_15 : List AStep := [⟨.mov (.c (.bool true)), (some 2), none, []⟩]
theorem v140_15 : VS L140_15.eq_1 := rfl
def C140_0 : ACode := .cond (.t 7) .skip (.exit 0)
theorem u140_0 : VC C140_0.eq_1 := rfl
def C140_1 : ACode := .seq (.reg L140_3) C140_0
theorem u140_1 : VC C140_1.eq_1 := rfl
def C140_2 : ACode := .seq (.reg L140_12) .ret
theorem u140_2 : VC C140_2.eq_1 := rfl
def C140_3 : ACode := .cond (.t 25) C140_2 .skip
theorem u140_3 : VC C140_3.eq_1 := rfl
def C140_4 : ACode := .seq (.reg L140_11) C140_3
theorem u140_4 : VC C140_4.eq_1 := rfl
def C140_5 : ACode := .block 1 C140_4
theorem u140_5 : VC C140_5.eq_1 := rfl
def C140_6 : ACode := .seq C140_5 (.reg L140_14)
theorem u140_6 : VC C140_6.eq_1 := rfl
def C140_7 : ACode := .seq C140_1 C140_6
theorem u140_7 : VC C140_7.eq_1 := rfl
def C140_8 : ACode := .block 0 (.loop C140_7)
theorem u140_8 : VC C140_8.eq_1 := rfl
def C140_9 : ACode := .seq (.reg L140_1) C140_8
theorem u140_9 : VC C140_9.eq_1 := rfl
def C140_10 : ACode := .seq (.reg L140_15) .ret
theorem u140_10 : VC C140_10.eq_1 := rfl
def C140_11 : ACode := .seq C140_9 C140_10
theorem u140_11 : VC C140_11.eq_1 := rfl
def C140_12 : ACode := .seq (.reg L140_0) C140_11
theorem u140_12 : VC C140_12.eq_1 := rfl
def F140 : AFunc := ⟨26, [.tmp 2], C140_12⟩
theorem cF140 : compB Try.prog 140 = some F140 := by kernel_rfl
attribute [local go_sem ↓] u140_0 u140_1 u140_2 u140_3 u140_4 u140_5 u140_6 u140_7 u140_8 u140_9 u140_10 u140_11 u140_12 v140_0 v140_1 v140_2 v140_3 v140_4 v140_5 v140_6 v140_7 v140_8 v140_9 v140_10 v140_11 v140_12 v140_13 v140_14 v140_15
theorem c_validPairs (l : List Pair) (v : AV) (h : H) (hl : SlP h v l) (hn : smP l) : bm Try.prog 140 [v] h = some (ib (l.all okPair), h) := by
  refine bm_eq cF140 ?_
  simp +contextual (maxSteps := 2000000) only [go_sem, Nat.reduceEqDiff, reduceCtorEq, Nat.reduceAdd, Nat.reduceLeDiff, F140]
  refine wpC_loop (fun i T L h' => h' = h ∧ T 0 = .v v ∧ T 3 = .v (.one (.int .i64 i)) ∧ Pre okPair true l i) l.length ?_ ?_ (Nat.zero_le _) ?_
  · rintro i T L h' hi ⟨rfl, h0, h3, hp⟩
    simp +contextual (maxSteps := 2000000) only [go_sem, Nat.reduceEqDiff, reduceCtorEq, Nat.reduceAdd, Nat.reduceLeDiff, h0, h3, hl.len, hl.iaddr hi, hl.fieldO hi, c_validNumber, c_validName _ _ (hn.at hi), lt_true hi]
    (repeat' (first | refine And.intro ?_ ?_ | intro _)) <;> first | rfl | rw [wrap_next hi hn.len] | exact hp.next hi (by simp [okPair, *]) | rw [all_stop hi (by simp [okPair, *])]
  · rintro T L h' ⟨rfl, h0, h3, hp⟩
    simp +contextual (maxSteps := 2000000) only [go_sem, Nat.reduceEqDiff, reduceCtorEq, Nat.reduceAdd, Nat.reduceLeDiff, h0, h3, hl.len, lt_false, hp.all]
  · simp +contextual (maxSteps := 2000000) only [go_sem, Nat.reduceEqDiff, reduceCtorEq, Nat.reduceAdd, Nat.reduceLeDiff]
    (repeat' (first | refine And.intro ?_ ?_ | intro _)) <;> first | rfl | exact Pre.zero
/-! spec.validFlat -/
def L115_0 : List AStep := [⟨.box 29 (.t 0), (some 1), none, []⟩, ⟨.mov (.c (.bool false)), (some 2), none, []⟩]
theorem v115_0 : VS L115_0.eq_1 := rfl
def L115_1 : List AStep := [⟨.mov (.c (.int .i64 0)), (some 3), none, []⟩]
theorem v115_1 : VS L115_1.eq_1 := rfl
def L115_2 : List AStep := [⟨.bin .lss (.t 4) (.t 7), (some 8), none, []⟩]
theorem v115_2 : VS L115_2.eq_1 := rfl
def L115_3 : List AStep := ⟨.load 1 false (.t 5), (some 6), none, []⟩ :: ⟨.len (.t 6), (some 7), none, []⟩ :: L115_2
theorem v115_3 : VS L115_3.eq_1 := rfl
def L115_4 : List AStep := ⟨.mov (.t 3), (some 4), none, []⟩ :: ⟨.faddr 1 (.t 1), (some 5), none, []⟩ :: L115_3
theorem v115_4 : VS L115_4.eq_1 := rfl
def L115_5 : List AStep := [⟨.call 131 [(.t 14), (.t 20)], (some 21), none, []⟩, ⟨.bin .geq (.t 21) (.c (.int .i64 0)), (some 22), none, []⟩]
theorem v115_5 : VS L115_5.eq_1 := rfl
def L115_6 : List AStep := ⟨.faddr 0 (.t 18), (some 19), none, []⟩ :: ⟨.load 1 false (.t 19), (some 20), none, []⟩ :: L115_5
theorem v115_6 : VS L115_6.eq_1 := rfl
def L115_7 : List AStep := ⟨.mov (.t 3), (some 17), none, []⟩ :: ⟨.iaddr 2 (.t 16) (.t 17), (some 18), none, []⟩ :: L115_6
theorem v115_7 : VS L115_7.eq_1 := rfl
def L115_8 : List AStep := ⟨.faddr 1 (.t 1), (some 15), none, []⟩ :: ⟨.load 1 false (.t 15), (some 16), none, []⟩ :: L115_7
theorem v115_8 : VS L115_8.eq_1 := rfl
def L115_9 : List AStep := ⟨.mov (.t 3), (some 13), none, []⟩ :: ⟨.slice 64 2 (.t 12) none (some (.t 13)) none, (some 14), none, []⟩ :: L115_8
theorem v115_9 : VS L115_9.eq_1 := rfl
def L115_10 : List AStep := ⟨.faddr 1 (.t 1), (some 11), none, []⟩ :: ⟨.load 1 false (.t 11), (some 12), none, []⟩ :: L115_9
theorem v115_10 : VS L115_10.eq_1 := rfl
def L115_11 : List AStep := [⟨.mov (.c (.bool false)), (some 2), none, []⟩]
theorem v115_11 : VS L115_11.eq_1 := rfl
def L115_12 : List AStep := [⟨.mov (.t 10), (some 3), none, []⟩]
theorem v115_12 : VS L115_12.eq_1 := rfl
def L115_13 : List AStep := ⟨.mov (.t 3), (some 9), none, []⟩ :: ⟨.bin .add (.t 9) (.c (.int .i64 1)), (some 10), none, []⟩ :: L115_12
theorem v115_13 : VS L115_13.eq_1 := rfl
def L115_14 : List AStep := [⟨.mov (.t 42), (some 2), none, []⟩]
theorem v115_14 : VS L115_14.eq_1 := rfl
def L115_15 : List AStep := ⟨.bin .leq (.t 40) (.c (.int .i64 8)), (some 41), (some (37, true)), []⟩ :: ⟨.pick (.t 37) (.t 41) (.c (.bool false)), (some 42), none, []⟩ :: L115_14
theorem v115_15 : VS L115_15.eq_1 := rfl
def L115_16 : List AStep := ⟨.load 1 false (.t 38), (some 39), (some (37, true)), []⟩ :: ⟨.len (.t 39), (some 40), (some (37, true)), []⟩ :: L115_15
theorem v115_16 : VS L115_16.eq_1 := rfl
def L115_17 : List AStep := ⟨.mov (.t 36), (some 37), none, []⟩ :: ⟨.faddr 1 (.t 1), (some 38), (some (37, true)), []⟩ :: L115_16
theorem v115_17 : VS L115_17.eq_1 := rfl
def L115_18 : List AStep := ⟨.bin .leq (.t 34) (.c (.int .i64 8)), (some 35), (some (31, true)), []⟩ :: ⟨.pick (.t 31) (.t 35) (.c (.bool false)), (some 36), none, []⟩ :: L115_17
theorem v115_18 : VS L115_18.eq_1 := rfl
def L115_19 : List AStep := ⟨.load 1 false (.t 32), (some 33), (some (31, true)), []⟩ :: ⟨.len (.t 33), (some 34), (some (31, true)), []⟩ :: L115_18
theorem v115_19 : VS L115_19.eq_1 := rfl
def L115_20 : List AStep := ⟨.mov (.t 30), (some 31), none, []⟩ :: ⟨.faddr 0 (.t 1), (some 32), (some (31, true)), []⟩ :: L115_19
theorem v115_20 : VS L115_20.eq_1 := rfl
def L115_21 : List AStep := ⟨.call 140 [(.t 28)], (some 29), (some (26, true)), []⟩ :: ⟨.pick (.t 26) (.t 29) (.c (.bool false)), (some 30), none, []⟩ :: L115_20
theorem v115_21 : VS L115_21.eq_1 := rfl
def L115_22 : List AStep := ⟨.faddr 1 (.t 1), (some 27), (some (26, true)), []⟩ :: ⟨.load 1 false (.t 27), (some 28), (some (26, true)), []⟩ :: L115_21
theorem v115_22 : VS L115_22.eq_1 := rfl
def L115_23 : List AStep := ⟨.call 139 [(.t 24)], (some 25), none, []⟩ :: ⟨.mov (.t 25), (some 26), none, []⟩ :: L115_22
theorem v115_23 : VS L115_23.eq_1 := rfl
def L115_24 : List AStep := ⟨.faddr 0 (.t 1), (some 23), none, []⟩ :: ⟨.load 1 false (.t 23), (some 24), none, []⟩ :: L115_23
theorem v115_24 : VS L115_24.eq_1 := rfl
def C115_0 : ACode := .cond (.t 8) .skip (.exit 0)
theorem u115_0 : VC C115_0.eq_1 := rfl
def C115_1 : ACode := .seq (.reg L115_4) C115_0
theorem u115_1 : VC C115_1.eq_1 := rfl
def C115_2 : ACode := .seq (.reg L115_11) .ret
theorem u115_2 : VC C115_2.eq_1 := rfl
def C115_3 : ACode := .cond (.t 22) C115_2 .skip
theorem u115_3 : VC C115_3.eq_1 := rfl
def C115_4 : ACode := .seq (.reg L115_10) C115_3
theorem u115_4 : VC C115_4.eq_1 := rfl
def C115_5 : ACode := .block 1 C115_4
theorem u115_5 : VC C115_5.eq_1 := rfl
def C115_6 : ACode := .seq C115_5 (.reg L115_13)
theorem u115_6 : VC C115_6.eq_1 := rfl
def C115_7 : ACode := .seq C115_1 C115_6
theorem u115_7 : VC C115_7.eq_1 := rfl
def C115_8 : ACode := .block 0 (.loop C115_7)
theorem u115_8 : VC C115_8.eq_1 := rfl
def C115_9 : ACode := .seq (.reg L115_1) C115_8
theorem u115_9 : VC C115_9.eq_1 := rfl
def C115_10 : ACode := .seq (.reg L115_24) .ret
theorem u115_10 : VC C115_10.eq_1 := rfl
def C115_11 : ACode := .seq C115_9 C115_10
theorem u115_11 : VC C115_11.eq_1 := rfl
def C115_12 : ACode := .seq (.reg L115_0) C115_11
theorem u115_12 : VC C115_12.eq_1 := rfl
def F115 : AFunc := ⟨43, [.tmp 2], C115_12⟩
theorem cF115 : compB Try.prog 115 = some F115 := by kernel_rfl
attribute [local go_sem ↓] u115_0 u115_1 u115_2 u115_3 u115_4 u115_5 u115_6 u115_7 u115_8 u115_9 u115_10 u115_11 u115_12 v115_0 v115_1 v115_2 v115_3 v115_4 v115_5 v115_6 v115_7 v115_8 v115_9 v115_10 v115_11 v115_12 v115_13 v115_14 v115_15 v115_16 v115_17 v115_18 v115_19 v115_20 v115_21 v115_22 v115_23 v115_24
theorem c_validFlat (f : Flat) (pv nv : CV) (h : H) (hp : SlI h (.one pv) f.pl) (hq : SlP h (.one nv) f.nl) (hn : smF f) : bm Try.prog 115 [.agg [pv, nv]] h = some (ib (okFlat f), h) := by
  refine bm_eq cF115 ?_
  simp +contextual (maxSteps := 2000000) only [go_sem, Nat.reduceEqDiff, reduceCtorEq, Nat.reduceAdd, Nat.reduceLeDiff, F115]
  refine wpC_loop (fun i T L h' => h' = h ∧ T 1 = .lp 1 0 ∧ (L 1).2 = [pv, nv] ∧ T 3 = .v (.one (.int .i64 i)) ∧ Upto (newAt Pair.name f.nl) i) f.nl.length ?_ ?_ (Nat.zero_le _) ?_
  · rintro i T L h' hi ⟨rfl, t1, l1, t3, hu⟩
    obtain ⟨v', e1, s1⟩ := hq.takeO (i := i) (by omega) (kd := .i64)
    have e2 : decide (pairAt (f.nl.take i) f.nl[i].name ≥ 0) = !(newAt Pair.name f.nl i) := newAt_ge hi
    simp +contextual (maxSteps := 2000000) only [go_sem, Nat.reduceEqDiff, reduceCtorEq, Nat.reduceAdd, Nat.reduceLeDiff, e2, t1, l1, t3, hq.len, hq.iaddr hi, hq.fieldO hi, lt_true hi, e1, c_pairAt _ _ _ _ s1 (hn.nl.take i)]
    (repeat' (first | refine And.intro ?_ ?_ | intro _)) <;> first | rfl | rw [wrap_next hi hn.nl.len] | exact hu.next (by simp_all) | rw [okFlat, apart_not hi (by simp_all)]; rfl
  · rintro T L h' ⟨rfl, t1, l1, t3, hu⟩
    simp +contextual (maxSteps := 2000000) only [go_sem, Nat.reduceEqDiff, reduceCtorEq, Nat.reduceAdd, Nat.reduceLeDiff, t1, l1, t3, hq.len, hp.len, lt_false, c_validNumbers _ _ _ hp hn.pl, c_validPairs _ _ _ hq hn.nl, okFlat, apart_of hu]
    (repeat' (first | refine And.intro ?_ ?_ | intro _)) <;> first | rfl | simp_all
  · simp +contextual (maxSteps := 2000000) only [go_sem, Nat.reduceEqDiff, reduceCtorEq, Nat.reduceAdd, Nat.reduceLeDiff]
    (repeat' (first | refine And.intro ?_ ?_ | intro _)) <;> first | rfl | exact Upto.zero
/-! spec.byPlace -/
def L104_0 : List AStep := [⟨.box 39 (.t 0), (some 1), none, []⟩, ⟨.mov (.c (.bool false)), (some 2), none, []⟩]
theorem v104_0 : VS L104_0.eq_1 := rfl
def L104_1 : List AStep := [⟨.mov (.t 10), (some 2), none, []⟩]
theorem v104_1 : VS L104_1.eq_1 := rfl
def L104_2 : List AStep := ⟨.bin .eql (.t 8) (.c (.int .i64 1)), (some 9), (some (6, false)), []⟩ :: ⟨.pick (.t 6) (.c (.bool true)) (.t 9), (some 10), none, []⟩ :: L104_1
theorem v104_2 : VS L104_2.eq_1 := rfl
def L104_3 : List AStep := ⟨.faddr 1 (.t 1), (some 7), (some (6, false)), []⟩ :: ⟨.load 1 false (.t 7), (some 8), (some (6, false)), []⟩ :: L104_2
theorem v104_3 : VS L104_3.eq_1 := rfl
def L104_4 : List AStep := ⟨.bin .eql (.t 4) (.c (.int .i64 0)), (some 5), none, []⟩ :: ⟨.mov (.t 5), (some 6), none, []⟩ :: L104_3
theorem v104_4 : VS L104_4.eq_1 := rfl
def L104_5 : List AStep := ⟨.faddr 1 (.t 1), (some 3), none, []⟩ :: ⟨.load 1 false (.t 3), (some 4), none, []⟩ :: L104_4
theorem v104_5 : VS L104_5.eq_1 := rfl
def C104_0 : ACode := .seq (.reg L104_5) .ret
theorem u104_0 : VC C104_0.eq_1 := rfl
def C104_1 : ACode := .seq (.reg L104_0) C104_0
theorem u104_1 : VC C104_1.eq_1 := rfl
def F104 : AFunc := ⟨11, [.tmp 2], C104_1⟩
theorem cF104 : compB Try.prog 104 = some F104 := by kernel_rfl
attribute [local go_sem ↓] u104_0 u104_1 v104_0 v104_1 v104_2 v104_3 v104_4 v104_5
theorem c_byPlace (p : Param) (h : H) : bm Try.prog 104 [.agg (encQ p)] h = some (ib (byPlace p), h) := by
  refine bm_eq cF104 ?_
  simp +contextual (maxSteps := 2000000) only [go_sem, Nat.reduceEqDiff, reduceCtorEq, Nat.reduceAdd, Nat.reduceLeDiff, F104, byPlace]
  cases decide (p.kind = 0) <;> simp
/-! spec.byName -/
def L130_0 : List AStep := [⟨.box 39 (.t 0), (some 1), none, []⟩, ⟨.mov (.c (.bool false)), (some 2), none, []⟩]
theorem v130_0 : VS L130_0.eq_1 := rfl
def L130_1 : List AStep := [⟨.mov (.t 10), (some 2), none, []⟩]
theorem v130_1 : VS L130_1.eq_1 := rfl
def L130_2 : List AStep := ⟨.bin .eql (.t 8) (.c (.int .i64 3)), (some 9), (some (6, false)), []⟩ :: ⟨.pick (.t 6) (.c (.bool true)) (.t 9), (some 10), none, []⟩ :: L130_1
theorem v130_2 : VS L130_2.eq_1 := rfl
def L130_3 : List AStep := ⟨.faddr 1 (.t 1), (some 7), (some (6, false)), []⟩ :: ⟨.load 1 false (.t 7), (some 8), (some (6, false)), []⟩ :: L130_2
theorem v130_3 : VS L130_3.eq_1 := rfl
def L130_4 : List AStep := ⟨.bin .eql (.t 4) (.c (.int .i64 1)), (some 5), none, []⟩ :: ⟨.mov (.t 5), (some 6), none, []⟩ :: L130_3
theorem v130_4 : VS L130_4.eq_1 := rfl
def L130_5 : List AStep := ⟨.faddr 1 (.t 1), (some 3), none, []⟩ :: ⟨.load 1 false (.t 3), (some 4), none, []⟩ :: L130_4
theorem v130_5 : VS L130_5.eq_1 := rfl
def C130_0 : ACode := .seq (.reg L130_5) .ret
theorem u130_0 : VC C130_0.eq_1 := rfl
def C130_1 : ACode := .seq (.reg L130_0) C130_0
theorem u130_1 : VC C130_1.eq_1 := rfl
def F130 : AFunc := ⟨11, [.tmp 2], C130_1⟩
theorem cF130 : compB Try.prog 130 = some F130 := by kernel_rfl
attribute [local go_sem ↓] u130_0 u130_1 v130_0 v130_1 v130_2 v130_3 v130_4 v130_5
theorem c_byName (p : Param) (h : H) : bm Try.prog 130 [.agg (encQ p)] h = some (ib (byName p), h) := by
  refine bm_eq cF130 ?_
  simp +contextual (maxSteps := 2000000) only [go_sem, Nat.reduceEqDiff, reduceCtorEq, Nat.reduceAdd, Nat.reduceLeDiff, F130, byName]
  cases decide (p.kind = 1) <;> simp
/-! spec.isSingle -/
def L135_0 : List AStep := [⟨.box 39 (.t 0), (some 1), none, []⟩, ⟨.mov (.c (.bool false)), (some 2), none, []⟩]
theorem v135_0 : VS L135_0.eq_1 := rfl
def L135_1 : List AStep := [⟨.mov (.t 8), (some 2), none, []⟩]
theorem v135_1 : VS L135_1.eq_1 := rfl
def L135_2 : List AStep := ⟨.call 130 [(.t 6)], (some 7), (some (5, false)), []⟩ :: ⟨.pick (.t 5) (.c (.bool true)) (.t 7), (some 8), none, []⟩ :: L135_1
theorem v135_2 : VS L135_2.eq_1 := rfl
def L135_3 : List AStep := ⟨.mov (.t 4), (some 5), none, []⟩ :: ⟨.load 4 true (.t 1), (some 6), (some (5, false)), []⟩ :: L135_2
theorem v135_3 : VS L135_3.eq_1 := rfl
def L135_4 : List AStep := ⟨.load 4 true (.t 1), (some 3), none, []⟩ :: ⟨.call 104 [(.t 3)], (some 4), none, []⟩ :: L135_3
theorem v135_4 : VS L135_4.eq_1 := rfl
def C135_0 : ACode := .seq (.reg L135_4) .ret
theorem u135_0 : VC C135_0.eq_1 := rfl
def C135_1 : ACode := .seq (.reg L135_0) C135_0
theorem u135_1 : VC C135_1.eq_1 := rfl
def F135 : AFunc := ⟨9, [.tmp 2], C135_1⟩
theorem cF135 : compB Try.prog 135 = some F135 := by kernel_rfl
attribute [local go_sem ↓] u135_0 u135_1 v135_0 v135_1 v135_2 v135_3 v135_4
theorem c_isSingle (p : Param) (h : H) : bm Try.prog 135 [.agg (encQ p)] h = some (ib (single p), h) := by
  refine bm_eq cF135 ?_
  simp +contextual (maxSteps := 2000000) only [go_sem, Nat.reduceEqDiff, reduceCtorEq, Nat.reduceAdd, Nat.reduceLeDiff, F135, c_byPlace, c_byName, single]
  cases byPlace p <;> simp
end Go.Proofs.Ytekkimfdcbgcoab.Am
