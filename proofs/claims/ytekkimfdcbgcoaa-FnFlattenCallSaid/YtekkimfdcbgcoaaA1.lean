/- Contracts of the reference: numbers, names, pairs, flat calls and signatures that are valid. -/
import Derived.Test.YtekkimfdcbgcoaaDat
namespace Go.Proofs.Ytekkimfdcbgcoaa.Am
open Go
set_option maxRecDepth 100000
set_option maxHeartbeats 4000000
set_option linter.unusedSimpArgs false
set_option linter.unusedVariables false
attribute [local go_sem ↓] bv_t bv_c ev_t ev_c put_same put_ne put_none kill_at pro_at lb_same lb_ne start_zero start_succ wpC_seq wpC_reg wpC_cond wpC_block wpC_skip wpC_exit wpC_ret thenQ_normal thenQ_exit thenQ_ret inBlk_normal inBlk_exit inBlk_ret wpS_nil wpS_step wpS_again wpS_guard wpO_mov wpO_load wpO_faddr wpO_nilCheck wpO_pick wpO_build wpO_bin wpO_eqb wpO_eqst wpO_eqnil wpO_not wpO_conv wpO_bytesStr wpO_iaddr wpO_idxStr wpO_field wpO_extract wpO_len wpO_lenStr wpO_cap wpO_min wpO_slice wpO_sliceStr wpO_alloc wpO_box wpO_store wpO_call wpO_callv wpO_mkfn wpO_buildSlice wpO_mkslice wpO_append wpO_appz proA_nil proA_cons tmpX_nil tmpX_tmp tmpX_cell doneB_normal doneB_ret agK_cons agK_nil agK_guard agG_tt agG_ff agG_tf agG_ft agG_undef pureB_load results_one results_two results_nil resBs_cons resBs_nil resB_tmp resB_cell
attribute [local go_sem] kill_v kill_lp_ne kill_lp_same pro_v pro_lp_same pro_lp_ne av_v av_lp optB_some optX_some valX_eq ldX_lp ldX_v faX_lp faX_v ncX_lp ncX_ptr ncX_fn boxK_one boxK_agg stL_some stK_lp_one stK_lp_agg stK_v_one stK_v_agg proM_v proM_lp callG_mk callVG_mk callvK_fn fnG_mk ptrsA_nil ptrsA_cons callH_some whenA_true whenA_false guardH_tt guardH_ff guardH_tf guardH_ft guardH_undef agV_one agV_agg lenO_sl lenStrO_str notO_bool pickO_bool convO_int eqbO_bool eqnilO_sl extractO_tup capO_sl minO_int loadL_one loadL_all storeL_eq fillA_nil fillA_one fillA_agg nat_ge neg_ge nat_lt neg_lt buildO bin_add bin_sub bin_mul bin_eql bin_neq bin_lss bin_leq bin_gtr bin_geq str_eql str_neq str_lss str_leq str_gtr str_geq retK_some endK_mk gcK_same gcK_int gcK_bool tupO_one tupO_agg rdy_self ib ii Option.map_none Option.map_some Option.some.injEq exists_eq_left' exists_eq_left ne_eq not_false_eq_true if_true if_false List.map_cons List.map_nil List.getElem?_cons_zero List.getElem?_cons_succ List.length_cons List.length_nil List.take_succ_cons List.take_zero List.take_nil List.drop_succ_cons List.drop_zero List.drop_nil List.cons_append List.nil_append List.append_nil List.set_cons_zero List.set_cons_succ Nat.zero_add forall_const true_and and_true and_self Bool.false_eq_true false_implies true_implies implies_true Bool.not_true Bool.not_false Bool.not_eq_true' Bool.not_eq_false' beq_self_eq_true Bool.bne_true Bool.bne_false
attribute [local go_sem] lenI lenS lenP lenQ lenB lenL lenT encI_0 encS_0 encP_0 encP_1 encQ_0 encQ_1 encQ_2 encQ_3 encB_0 encB_1 encL_0 encL_1 encT_0 encT_1
attribute [local go_sem low] whenA_bool guardH_bool
/-! spec.inRange -/
def L134_0 : List AStep := [⟨.mov (.c (.bool false)), (some 6), none, []⟩]
theorem v134_0 : VS L134_0.eq_1 := rfl
def L134_1 : List AStep := [⟨.mov (.t 14), (some 6), none, []⟩]
theorem v134_1 : VS L134_1.eq_1 := rfl
def L134_2 : List AStep := ⟨.bin .leq (.t 11) (.t 12), (some 13), (some (10, true)), []⟩ :: ⟨.pick (.t 10) (.t 13) (.c (.bool false)), (some 14), none, []⟩ :: L134_1
theorem v134_2 : VS L134_2.eq_1 := rfl
def L134_3 : List AStep := ⟨.mov (.t 0), (some 11), (some (10, true)), []⟩ :: ⟨.mov (.t 2), (some 12), (some (10, true)), []⟩ :: L134_2
theorem v134_3 : VS L134_3.eq_1 := rfl
def L134_4 : List AStep := ⟨.bin .leq (.t 7) (.t 8), (some 9), none, []⟩ :: ⟨.mov (.t 9), (some 10), none, []⟩ :: L134_3
theorem v134_4 : VS L134_4.eq_1 := rfl
def L134_5 : List AStep := ⟨.mov (.t 1), (some 7), none, []⟩ :: ⟨.mov (.t 0), (some 8), none, []⟩ :: L134_4
theorem v134_5 : VS L134_5.eq_1 := rfl
def C134_0 : ACode := .seq (.reg L134_5) .ret
theorem u134_0 : VC C134_0.eq_1 := rfl
def C134_1 : ACode := .seq (.reg L134_0) C134_0
theorem u134_1 : VC C134_1.eq_1 := rfl
def F134 : AFunc := ⟨15, [.tmp 6], C134_1⟩
theorem cF134 : compB Try.prog 134 = some F134 := by kernel_rfl
attribute [local go_sem ↓] u134_0 u134_1 v134_0 v134_1 v134_2 v134_3 v134_4 v134_5
theorem c_inRange (n lo hi : Int) (h : H) : bm Try.prog 134 [.one (.int .i64 n), .one (.int .i64 lo), .one (.int .i64 hi)] h = some (ib (decide (lo ≤ n) && decide (n ≤ hi)), h) := by
  refine bm_eq cF134 ?_
  simp +contextual (maxSteps := 2000000) only [go_sem, Nat.reduceEqDiff, reduceCtorEq, Nat.reduceAdd, Nat.reduceLeDiff, F134]
  cases decide (lo ≤ n) <;> simp
/-! spec.validNumber -/
def L148_0 : List AStep := [⟨.mov (.c (.bool false)), (some 2), none, []⟩]
theorem v148_0 : VS L148_0.eq_1 := rfl
def L148_1 : List AStep := [⟨.mov (.t 4), (some 2), none, []⟩]
theorem v148_1 : VS L148_1.eq_1 := rfl
def L148_2 : List AStep := ⟨.mov (.t 0), (some 3), none, []⟩ :: ⟨.call 134 [(.t 3), (.c (.int .i64 (-99))), (.c (.int .i64 99))], (some 4), none, []⟩ :: L148_1
theorem v148_2 : VS L148_2.eq_1 := rfl
def C148_0 : ACode := .seq (.reg L148_2) .ret
theorem u148_0 : VC C148_0.eq_1 := rfl
def C148_1 : ACode := .seq (.reg L148_0) C148_0
theorem u148_1 : VC C148_1.eq_1 := rfl
def F148 : AFunc := ⟨5, [.tmp 2], C148_1⟩
theorem cF148 : compB Try.prog 148 = some F148 := by kernel_rfl
attribute [local go_sem ↓] u148_0 u148_1 v148_0 v148_1 v148_2
theorem c_validNumber (n : Int) (h : H) : bm Try.prog 148 [.one (.int .i64 n)] h = some (ib (okNum n), h) := by
  refine bm_eq cF148 ?_
  simp +contextual (maxSteps := 2000000) only [go_sem, Nat.reduceEqDiff, reduceCtorEq, Nat.reduceAdd, Nat.reduceLeDiff, F148, c_inRange, okNum]
/-! spec.validNumbers -/
def L115_0 : List AStep := [⟨.mov (.c (.bool false)), (some 2), none, []⟩]
theorem v115_0 : VS L115_0.eq_1 := rfl
def L115_1 : List AStep := [⟨.mov (.c (.int .i64 0)), (some 3), none, []⟩]
theorem v115_1 : VS L115_1.eq_1 := rfl
def L115_2 : List AStep := [⟨.len (.t 5), (some 6), none, []⟩, ⟨.bin .lss (.t 4) (.t 6), (some 7), none, []⟩]
theorem v115_2 : VS L115_2.eq_1 := rfl
def L115_3 : List AStep := ⟨.mov (.t 3), (some 4), none, []⟩ :: ⟨.mov (.t 0), (some 5), none, []⟩ :: L115_2
theorem v115_3 : VS L115_3.eq_1 := rfl
def L115_4 : List AStep := [⟨.call 148 [(.t 13)], (some 14), none, []⟩, ⟨.not (.t 14), (some 15), none, []⟩]
theorem v115_4 : VS L115_4.eq_1 := rfl
def L115_5 : List AStep := ⟨.iaddr 1 (.t 10) (.t 11), (some 12), none, []⟩ :: ⟨.load 1 false (.t 12), (some 13), none, []⟩ :: L115_4
theorem v115_5 : VS L115_5.eq_1 := rfl
def L115_6 : List AStep := ⟨.mov (.t 0), (some 10), none, []⟩ :: ⟨.mov (.t 3), (some 11), none, []⟩ :: L115_5
theorem v115_6 : VS L115_6.eq_1 := rfl
def L115_7 : List AStep := [⟨.mov (.c (.bool false)), (some 2), none, []⟩]
theorem v115_7 : VS L115_7.eq_1 := rfl
def L115_8 : List AStep := [⟨.mov (.t 9), (some 3), none, []⟩]
theorem v115_8 : VS L115_8.eq_1 := rfl
def L115_9 : List AStep := ⟨.mov (.t 3), (some 8), none, []⟩ :: ⟨.bin .add (.t 8) (.c (.int .i64 1)), (some 9), none, []⟩ :: L115_8
theorem v115_9 : VS L115_9.eq_1 := rfl
def L115_10 : List AStep := [⟨.mov (.c (.bool true)), (some 2), none, []⟩]
theorem v115_10 : VS L115_10.eq_1 := rfl
def C115_0 : ACode := .cond (.t 7) .skip (.exit 0)
theorem u115_0 : VC C115_0.eq_1 := rfl
def C115_1 : ACode := .seq (.reg L115_3) C115_0
theorem u115_1 : VC C115_1.eq_1 := rfl
def C115_2 : ACode := .seq (.reg L115_7) .ret
theorem u115_2 : VC C115_2.eq_1 := rfl
def C115_3 : ACode := .cond (.t 15) C115_2 .skip
theorem u115_3 : VC C115_3.eq_1 := rfl
def C115_4 : ACode := .seq (.reg L115_6) C115_3
theorem u115_4 : VC C115_4.eq_1 := rfl
def C115_5 : ACode := .block 1 C115_4
theorem u115_5 : VC C115_5.eq_1 := rfl
def C115_6 : ACode := .seq C115_5 (.reg L115_9)
theorem u115_6 : VC C115_6.eq_1 := rfl
def C115_7 : ACode := .seq C115_1 C115_6
theorem u115_7 : VC C115_7.eq_1 := rfl
def C115_8 : ACode := .block 0 (.loop C115_7)
theorem u115_8 : VC C115_8.eq_1 := rfl
def C115_9 : ACode := .seq (.reg L115_1) C115_8
theorem u115_9 : VC C115_9.eq_1 := rfl
def C115_10 : ACode := .seq (.reg L115_10) .ret
theorem u115_10 : VC C115_10.eq_1 := rfl
def C115_11 : ACode := .seq C115_9 C115_10
theorem u115_11 : VC C115_11.eq_1 := rfl
def C115_12 : ACode := .seq (.reg L115_0) C115_11
theorem u115_12 : VC C115_12.eq_1 := rfl
def F115 : AFunc := ⟨16, [.tmp 2], C115_12⟩
theorem cF115 : compB Try.prog 115 = some F115 := by kernel_rfl
attribute [local go_sem ↓] u115_0 u115_1 u115_2 u115_3 u115_4 u115_5 u115_6 u115_7 u115_8 u115_9 u115_10 u115_11 u115_12 v115_0 v115_1 v115_2 v115_3 v115_4 v115_5 v115_6 v115_7 v115_8 v115_9 v115_10
theorem c_validNumbers (l : List Int) (v : AV) (h : H) (hl : SlI h v l) (hn : l.length ≤ big) : bm Try.prog 115 [v] h = some (ib (l.all okNum), h) := by
  refine bm_eq cF115 ?_
  simp +contextual (maxSteps := 2000000) only [go_sem, Nat.reduceEqDiff, reduceCtorEq, Nat.reduceAdd, Nat.reduceLeDiff, F115]
  refine wpC_loop (fun i T L h' => h' = h ∧ T 0 = .v v ∧ T 3 = .v (.one (.int .i64 i)) ∧ Pre okNum true l i) l.length ?_ ?_ (Nat.zero_le _) ?_
  · rintro i T L h' hi ⟨rfl, h0, h3, hp⟩
    simp +contextual (maxSteps := 2000000) only [go_sem, Nat.reduceEqDiff, reduceCtorEq, Nat.reduceAdd, Nat.reduceLeDiff, h0, h3, hl.len, hl.iaddr hi, hl.oneO hi, c_validNumber, lt_true hi]
    (repeat' (first | refine And.intro ?_ ?_ | intro _)) <;> first | rfl | rw [wrap_next hi (big_lt hn)] | exact hp.next hi ‹_› | rw [all_stop hi ‹_›]
  · rintro T L h' ⟨rfl, h0, h3, hp⟩
    simp +contextual (maxSteps := 2000000) only [go_sem, Nat.reduceEqDiff, reduceCtorEq, Nat.reduceAdd, Nat.reduceLeDiff, h0, h3, hl.len, lt_false, hp.all]
  · simp +contextual (maxSteps := 2000000) only [go_sem, Nat.reduceEqDiff, reduceCtorEq, Nat.reduceAdd, Nat.reduceLeDiff]
    (repeat' (first | refine And.intro ?_ ?_ | intro _)) <;> first | rfl | exact Pre.zero
/-! spec.pairAt -/
def L114_0 : List AStep := [⟨.mov (.c (.int .i64 0)), (some 4), none, []⟩]
theorem v114_0 : VS L114_0.eq_1 := rfl
def L114_1 : List AStep := [⟨.mov (.c (.int .i64 0)), (some 5), none, []⟩]
theorem v114_1 : VS L114_1.eq_1 := rfl
def L114_2 : List AStep := [⟨.len (.t 7), (some 8), none, []⟩, ⟨.bin .lss (.t 6) (.t 8), (some 9), none, []⟩]
theorem v114_2 : VS L114_2.eq_1 := rfl
def L114_3 : List AStep := ⟨.mov (.t 5), (some 6), none, []⟩ :: ⟨.mov (.t 0), (some 7), none, []⟩ :: L114_2
theorem v114_3 : VS L114_3.eq_1 := rfl
def L114_4 : List AStep := [⟨.bin .eql (.t 16) (.t 17), (some 18), none, []⟩]
theorem v114_4 : VS L114_4.eq_1 := rfl
def L114_5 : List AStep := ⟨.load 1 false (.t 15), (some 16), none, []⟩ :: ⟨.mov (.t 1), (some 17), none, []⟩ :: L114_4
theorem v114_5 : VS L114_5.eq_1 := rfl
def L114_6 : List AStep := ⟨.iaddr 2 (.t 12) (.t 13), (some 14), none, []⟩ :: ⟨.faddr 0 (.t 14), (some 15), none, []⟩ :: L114_5
theorem v114_6 : VS L114_6.eq_1 := rfl
def L114_7 : List AStep := ⟨.mov (.t 0), (some 12), none, []⟩ :: ⟨.mov (.t 5), (some 13), none, []⟩ :: L114_6
theorem v114_7 : VS L114_7.eq_1 := rfl
def L114_8 : List AStep := [⟨.mov (.t 5), (some 19), none, []⟩, ⟨.mov (.t 19), (some 4), none, []⟩]
theorem v114_8 : VS L114_8.eq_1 := rfl
def L114_9 : List AStep := [⟨.mov (.t 11), (some 5), none, []⟩]
theorem v114_9 : VS L114_9.eq_1 := rfl
def L114_10 : List AStep := ⟨.mov (.t 5), (some 10), none, []⟩ :: ⟨.bin .add (.t 10) (.c (.int .i64 1)), (some 11), none, []⟩ :: L114_9
theorem v114_10 : VS L114_10.eq_1 := rfl
def L114_11 : List AStep := [⟨.mov (.c (.int .i64 (-1))), (some 4), none, []⟩]
theorem v114_11 : VS L114_11.eq_1 := rfl
def C114_0 : ACode := .cond (.t 9) .skip (.exit 0)
theorem u114_0 : VC C114_0.eq_1 := rfl
def C114_1 : ACode := .seq (.reg L114_3) C114_0
theorem u114_1 : VC C114_1.eq_1 := rfl
def C114_2 : ACode := .seq (.reg L114_8) .ret
theorem u114_2 : VC C114_2.eq_1 := rfl
def C114_3 : ACode := .cond (.t 18) C114_2 .skip
theorem u114_3 : VC C114_3.eq_1 := rfl
def C114_4 : ACode := .seq (.reg L114_7) C114_3
theorem u114_4 : VC C114_4.eq_1 := rfl
def C114_5 : ACode := .block 1 C114_4
theorem u114_5 : VC C114_5.eq_1 := rfl
def C114_6 : ACode := .seq C114_5 (.reg L114_10)
theorem u114_6 : VC C114_6.eq_1 := rfl
def C114_7 : ACode := .seq C114_1 C114_6
theorem u114_7 : VC C114_7.eq_1 := rfl
def C114_8 : ACode := .block 0 (.loop C114_7)
theorem u114_8 : VC C114_8.eq_1 := rfl
def C114_9 : ACode := .seq (.reg L114_1) C114_8
theorem u114_9 : VC C114_9.eq_1 := rfl
def C114_10 : ACode := .seq (.reg L114_11) .ret
theorem u114_10 : VC C114_10.eq_1 := rfl
def C114_11 : ACode := .seq C114_9 C114_10
theorem u114_11 : VC C114_11.eq_1 := rfl
def C114_12 : ACode := .seq (.reg L114_0) C114_11
theorem u114_12 : VC C114_12.eq_1 := rfl
def F114 : AFunc := ⟨20, [.tmp 4], C114_12⟩
theorem cF114 : compB Try.prog 114 = some F114 := by kernel_rfl
attribute [local go_sem ↓] u114_0 u114_1 u114_2 u114_3 u114_4 u114_5 u114_6 u114_7 u114_8 u114_9 u114_10 u114_11 u114_12 v114_0 v114_1 v114_2 v114_3 v114_4 v114_5 v114_6 v114_7 v114_8 v114_9 v114_10 v114_11
theorem c_pairAt (l : List Pair) (v : AV) (s : ByteArray) (h : H) (hl : SlP h v l) (hn : smP l) : bm Try.prog 114 [v, .one (.str s)] h = some (ii (pairAt l s), h) := by
  refine bm_eq cF114 ?_
  simp +contextual (maxSteps := 2000000) only [go_sem, Nat.reduceEqDiff, reduceCtorEq, Nat.reduceAdd, Nat.reduceLeDiff, F114]
  refine wpC_loop (fun i T L h' => h' = h ∧ T 0 = .v v ∧ T 1 = .v (.one (.str s)) ∧ T 5 = .v (.one (.int .i64 i)) ∧ Pre (fun p => decide (p.name = s)) false l i) l.length ?_ ?_ (Nat.zero_le _) ?_
  · rintro i T L h' hi ⟨rfl, h0, h1, h3, hp⟩
    simp +contextual (maxSteps := 2000000) only [go_sem, Nat.reduceEqDiff, reduceCtorEq, Nat.reduceAdd, Nat.reduceLeDiff, h0, h1, h3, hl.len, hl.iaddr hi, hl.fieldO hi, lt_true hi]
    (repeat' (first | refine And.intro ?_ ?_ | intro _)) <;> first | rfl | rw [wrap_next hi hn.len] | exact hp.next hi ‹_› | rw [pairAt, idx_hit hi hp ‹_›]
  · rintro T L h' ⟨rfl, h0, h1, h3, hp⟩
    simp +contextual (maxSteps := 2000000) only [go_sem, Nat.reduceEqDiff, reduceCtorEq, Nat.reduceAdd, Nat.reduceLeDiff, h0, h1, h3, hl.len, lt_false, pairAt, idx_none hp]
  · simp +contextual (maxSteps := 2000000) only [go_sem, Nat.reduceEqDiff, reduceCtorEq, Nat.reduceAdd, Nat.reduceLeDiff]
    (repeat' (first | refine And.intro ?_ ?_ | intro _)) <;> first | rfl | exact Pre.zero
/-! spec.validName -/
def L112_0 : List AStep := [⟨.mov (.c (.bool false)), (some 2), none, []⟩]
theorem v112_0 : VS L112_0.eq_1 := rfl
def L112_1 : List AStep := [⟨.mov (.c (.int .i64 0)), (some 3), none, []⟩]
theorem v112_1 : VS L112_1.eq_1 := rfl
def L112_2 : List AStep := [⟨.lenStr (.t 5), (some 6), none, []⟩, ⟨.bin .lss (.t 4) (.t 6), (some 7), none, []⟩]
theorem v112_2 : VS L112_2.eq_1 := rfl
def L112_3 : List AStep := ⟨.mov (.t 3), (some 4), none, []⟩ :: ⟨.mov (.t 0), (some 5), none, []⟩ :: L112_2
theorem v112_3 : VS L112_3.eq_1 := rfl
def L112_4 : List AStep := [⟨.bin .gtr (.t 17) (.c (.int .u8 122)), (some 18), (some (14, false)), []⟩, ⟨.pick (.t 14) (.c (.bool true)) (.t 18), (some 19), none, []⟩]
theorem v112_4 : VS L112_4.eq_1 := rfl
def L112_5 : List AStep := ⟨.mov (.t 3), (some 16), (some (14, false)), []⟩ :: ⟨.idxStr (.t 15) (.t 16), (some 17), (some (14, false)), []⟩ :: L112_4
theorem v112_5 : VS L112_5.eq_1 := rfl
def L112_6 : List AStep := ⟨.mov (.t 13), (some 14), none, []⟩ :: ⟨.mov (.t 0), (some 15), (some (14, false)), []⟩ :: L112_5
theorem v112_6 : VS L112_6.eq_1 := rfl
def L112_7 : List AStep := ⟨.idxStr (.t 10) (.t 11), (some 12), none, []⟩ :: ⟨.bin .lss (.t 12) (.c (.int .u8 97)), (some 13), none, []⟩ :: L112_6
theorem v112_7 : VS L112_7.eq_1 := rfl
def L112_8 : List AStep := ⟨.mov (.t 0), (some 10), none, []⟩ :: ⟨.mov (.t 3), (some 11), none, []⟩ :: L112_7
theorem v112_8 : VS L112_8.eq_1 := rfl
def L112_9 : List AStep := [⟨.mov (.c (.bool false)), (some 2), none, []⟩]
theorem v112_9 : VS L112_9.eq_1 := rfl
def L112_10 : List AStep := [⟨.mov (.t 9), (some 3), none, []⟩]
theorem v112_10 : VS L112_10.eq_1 := rfl
def L112_11 : List AStep := ⟨.mov (.t 3), (some 8), none, []⟩ :: ⟨.bin .add (.t 8) (.c (.int .i64 1)), (some 9), none, []⟩ :: L112_10
theorem v112_11 : VS L112_11.eq_1 := rfl
def L112_12 : List AStep := [⟨.call 134 [(.t 21), (.c (.int .i64 1)), (.c (.int .i64 6))], (some 22), none, []⟩, ⟨.mov (.t 22), (some 2), none, []⟩]
theorem v112_12 : VS L112_12.eq_1 := rfl
def L112_13 : List AStep := ⟨.mov (.t 0), (some 20), none, []⟩ :: ⟨.lenStr (.t 20), (some 21), none, []⟩ :: L112_12
theorem v112_13 : VS L112_13.eq_1 := rfl
def C112_0 : ACode := .cond (.t 7) .skip (.exit 0)
theorem u112_0 : VC C112_0.eq_1 := rfl
def C112_1 : ACode := .seq (.reg L112_3) C112_0
theorem u112_1 : VC C112_1.eq_1 := rfl
def C112_2 : ACode := .seq (.reg L112_9) .ret
theorem u112_2 : VC C112_2.eq_1 := rfl
def C112_3 : ACode := .cond (.t 19) C112_2 .skip
theorem u112_3 : VC C112_3.eq_1 := rfl
def C112_4 : ACode := .seq (.reg L112_8) C112_3
theorem u112_4 : VC C112_4.eq_1 := rfl
def C112_5 : ACode := .block 1 C112_4
theorem u112_5 : VC C112_5.eq_1 := rfl
def C112_6 : ACode := .seq C112_5 (.reg L112_11)
theorem u112_6 : VC C112_6.eq_1 := rfl
def C112_7 : ACode := .seq C112_1 C112_6
theorem u112_7 : VC C112_7.eq_1 := rfl
def C112_8 : ACode := .block 0 (.loop C112_7)
theorem u112_8 : VC C112_8.eq_1 := rfl
def C112_9 : ACode := .seq (.reg L112_1) C112_8
theorem u112_9 : VC C112_9.eq_1 := rfl
def C112_10 : ACode := .seq (.reg L112_13) .ret
theorem u112_10 : VC C112_10.eq_1 := rfl
def C112_11 : ACode := .seq C112_9 C112_10
theorem u112_11 : VC C112_11.eq_1 := rfl
def C112_12 : ACode := .seq (.reg L112_0) C112_11
theorem u112_12 : VC C112_12.eq_1 := rfl
def F112 : AFunc := ⟨23, [.tmp 2], C112_12⟩
theorem cF112 : compB Try.prog 112 = some F112 := by kernel_rfl
attribute [local go_sem ↓] u112_0 u112_1 u112_2 u112_3 u112_4 u112_5 u112_6 u112_7 u112_8 u112_9 u112_10 u112_11 u112_12 v112_0 v112_1 v112_2 v112_3 v112_4 v112_5 v112_6 v112_7 v112_8 v112_9 v112_10 v112_11 v112_12 v112_13
theorem c_validName (s : ByteArray) (h : H) (hn : s.size < 2 ^ 62) : bm Try.prog 112 [.one (.str s)] h = some (ib (okName s), h) := by
  refine bm_eq cF112 ?_
  simp +contextual (maxSteps := 2000000) only [go_sem, Nat.reduceEqDiff, reduceCtorEq, Nat.reduceAdd, Nat.reduceLeDiff, F112]
  have hsz : s.data.toList.length = s.size := Array.length_toList
  refine wpC_loop (fun i T L h' => h' = h ∧ T 0 = .v (.one (.str s)) ∧ T 3 = .v (.one (.int .i64 i)) ∧ Pre isLow true s.data.toList i) s.size ?_ ?_ (Nat.zero_le _) ?_
  · rintro i T L h' hi ⟨rfl, h0, h3, hp⟩
    simp +contextual (maxSteps := 2000000) only [go_sem, Nat.reduceEqDiff, reduceCtorEq, Nat.reduceAdd, Nat.reduceLeDiff, h0, h3, idx_at hi, lt_true hi]
    have e : s.data.toList[i]'(by omega) = s.data[i]'hi := Array.getElem_toList _
    have bad : isLow (s.data[i]'hi) = false → okName s = false := fun hx => by
      unfold okName
      rw [all_stop (l := s.data.toList) (i := i) (by omega) (by rw [e]; exact hx)]
      rfl
    have low : isLow (s.data[i]'hi) = (!(decide ((↑(s.data[i]'hi).toNat : Int) < 97)) && !(decide ((↑(s.data[i]'hi).toNat : Int) > 122))) := by
      unfold isLow
      rw [Bool.eq_iff_iff]
      simp
      omega
    (repeat' (first | refine And.intro ?_ ?_ | intro _)) <;> first | rfl | rw [wrap_next hi hn] | exact hp.next (by omega) (by rw [e, low]; simp_all) | rw [bad (by rw [low]; simp_all)]
  · rintro T L h' ⟨rfl, h0, h3, hp⟩
    rw [← hsz] at hp
    simp +contextual (maxSteps := 2000000) only [go_sem, Nat.reduceEqDiff, reduceCtorEq, Nat.reduceAdd, Nat.reduceLeDiff, h0, h3, lt_false, c_inRange, okName, hp.all, Bool.true_and]
  · simp +contextual (maxSteps := 2000000) only [go_sem, Nat.reduceEqDiff, reduceCtorEq, Nat.reduceAdd, Nat.reduceLeDiff]
    (repeat' (first | refine And.intro ?_ ?_ | intro _)) <;> first | rfl | exact Pre.zero
/-! spec.validPairs -/
def L116_0 : List AStep := [⟨.mov (.c (.bool false)), (some 2), none, []⟩]
theorem v116_0 : VS L116_0.eq_1 := rfl
def L116_1 : List AStep := [⟨.mov (.c (.int .i64 0)), (some 3), none, []⟩]
theorem v116_1 : VS L116_1.eq_1 := rfl
def L116_2 : List AStep := [⟨.len (.t 5), (some 6), none, []⟩, ⟨.bin .lss (.t 4) (.t 6), (some 7), none, []⟩]
theorem v116_2 : VS L116_2.eq_1 := rfl
def L116_3 : List AStep := ⟨.mov (.t 3), (some 4), none, []⟩ :: ⟨.mov (.t 0), (some 5), none, []⟩ :: L116_2
theorem v116_3 : VS L116_3.eq_1 := rfl
def L116_4 : List AStep := [⟨.not (.t 23), (some 24), (some (17, false)), []⟩, ⟨.pick (.t 17) (.c (.bool true)) (.t 24), (some 25), none, []⟩]
theorem v116_4 : VS L116_4.eq_1 := rfl
def L116_5 : List AStep := ⟨.load 1 false (.t 21), (some 22), (some (17, false)), []⟩ :: ⟨.call 148 [(.t 22)], (some 23), (some (17, false)), []⟩ :: L116_4
theorem v116_5 : VS L116_5.eq_1 := rfl
def L116_6 : List AStep := ⟨.iaddr 2 (.t 18) (.t 19), (some 20), (some (17, false)), []⟩ :: ⟨.faddr 1 (.t 20), (some 21), (some (17, false)), []⟩ :: L116_5
theorem v116_6 : VS L116_6.eq_1 := rfl
def L116_7 : List AStep := ⟨.mov (.t 0), (some 18), (some (17, false)), []⟩ :: ⟨.mov (.t 3), (some 19), (some (17, false)), []⟩ :: L116_6
theorem v116_7 : VS L116_7.eq_1 := rfl
def L116_8 : List AStep := ⟨.not (.t 15), (some 16), none, []⟩ :: ⟨.mov (.t 16), (some 17), none, []⟩ :: L116_7
theorem v116_8 : VS L116_8.eq_1 := rfl
def L116_9 : List AStep := ⟨.load 1 false (.t 13), (some 14), none, []⟩ :: ⟨.call 112 [(.t 14)], (some 15), none, []⟩ :: L116_8
theorem v116_9 : VS L116_9.eq_1 := rfl
def L116_10 : List AStep := ⟨.iaddr 2 (.t 10) (.t 11), (some 12), none, []⟩ :: ⟨.faddr 0 (.t 12), (some 13), none, []⟩ :: L116_9
theorem v116_10 : VS L116_10.eq_1 := rfl
def L116_11 : List AStep := ⟨.mov (.t 0), (some 10), none, []⟩ :: ⟨.mov (.t 3), (some 11), none, []⟩ :: L116_10
theorem v116_11 : VS L116_11.eq_1 := rfl
def L116_12 : List AStep := [⟨.mov (.c (.bool false)), (some 2), none, []⟩]
theorem v116_12 : VS L116_12.eq_1 := rfl
def L116_13 : List AStep := [⟨.mov (.t 9), (some 3), none, []⟩]
theorem v116_13 : VS L116_13.eq_1 := rfl
def L116_14 : List AStep := ⟨.mov (.t 3), (some 8), none, []⟩ :: ⟨.bin .add (.t 8) (.c (.int .i64 1)), (some 9), none, []⟩ :: L116_13
theorem v116_14 : VS L116_14.eq_1 := rfl
def L116_15 : List AStep := [⟨.mov (.c (.bool true)), (some 2), none, []⟩]
theorem v116_15 : VS L116_15.eq_1 := rfl
def C116_0 : ACode := .cond (.t 7) .skip (.exit 0)
theorem u116_0 : VC C116_0.eq_1 := rfl
def C116_1 : ACode := .seq (.reg L116_3) C116_0
theorem u116_1 : VC C116_1.eq_1 := rfl
def C116_2 : ACode := .seq (.reg L116_12) .ret
theorem u116_2 : VC C116_2.eq_1 := rfl
def C116_3 : ACode := .cond (.t 25) C116_2 .skip
theorem u116_3 : VC C116_3.eq_1 := rfl
def C116_4 : ACode := .seq (.reg L116_11) C116_3
theorem u116_4 : VC C116_4.eq_1 := rfl
def C116_5 : ACode := .block 1 C116_4
theorem u116_5 : VC C116_5.eq_1 := rfl
def C116_6 : ACode := .seq C116_5 (.reg L116_14)
theorem u116_6 : VC C116_6.eq_1 := rfl
def C116_7 : ACode := .seq C116_1 C116_6
theorem u116_7 : VC C116_7.eq_1 := rfl
def C116_8 : ACode := .block 0 (.loop C116_7)
theorem u116_8 : VC C116_8.eq_1 := rfl
def C116_9 : ACode := .seq (.reg L116_1) C116_8
theorem u116_9 : VC C116_9.eq_1 := rfl
def C116_10 : ACode := .seq (.reg L116_15) .ret
theorem u116_10 : VC C116_10.eq_1 := rfl
def C116_11 : ACode := .seq C116_9 C116_10
theorem u116_11 : VC C116_11.eq_1 := rfl
def C116_12 : ACode := .seq (.reg L116_0) C116_11
theorem u116_12 : VC C116_12.eq_1 := rfl
def F116 : AFunc := ⟨26, [.tmp 2], C116_12⟩
theorem cF116 : compB Try.prog 116 = some F116 := by kernel_rfl
attribute [local go_sem ↓] u116_0 u116_1 u116_2 u116_3 u116_4 u116_5 u116_6 u116_7 u116_8 u116_9 u116_10 u116_11 u116_12 v116_0 v116_1 v116_2 v116_3 v116_4 v116_5 v116_6 v116_7 v116_8 v116_9 v116_10 v116_11 v116_12 v116_13 v116_14 v116_15
theorem c_validPairs (l : List Pair) (v : AV) (h : H) (hl : SlP h v l) (hn : smP l) : bm Try.prog 116 [v] h = some (ib (l.all okPair), h) := by
  refine bm_eq cF116 ?_
  simp +contextual (maxSteps := 2000000) only [go_sem, Nat.reduceEqDiff, reduceCtorEq, Nat.reduceAdd, Nat.reduceLeDiff, F116]
  refine wpC_loop (fun i T L h' => h' = h ∧ T 0 = .v v ∧ T 3 = .v (.one (.int .i64 i)) ∧ Pre okPair true l i) l.length ?_ ?_ (Nat.zero_le _) ?_
  · rintro i T L h' hi ⟨rfl, h0, h3, hp⟩
    simp +contextual (maxSteps := 2000000) only [go_sem, Nat.reduceEqDiff, reduceCtorEq, Nat.reduceAdd, Nat.reduceLeDiff, h0, h3, hl.len, hl.iaddr hi, hl.fieldO hi, c_validNumber, c_validName _ _ (hn.at hi), lt_true hi]
    (repeat' (first | refine And.intro ?_ ?_ | intro _)) <;> first | rfl | rw [wrap_next hi hn.len] | exact hp.next hi (by simp [okPair, *]) | rw [all_stop hi (by simp [okPair, *])]
  · rintro T L h' ⟨rfl, h0, h3, hp⟩
    simp +contextual (maxSteps := 2000000) only [go_sem, Nat.reduceEqDiff, reduceCtorEq, Nat.reduceAdd, Nat.reduceLeDiff, h0, h3, hl.len, lt_false, hp.all]
  · simp +contextual (maxSteps := 2000000) only [go_sem, Nat.reduceEqDiff, reduceCtorEq, Nat.reduceAdd, Nat.reduceLeDiff]
    (repeat' (first | refine And.intro ?_ ?_ | intro _)) <;> first | rfl | exact Pre.zero
/-! spec.validFlat -/
def L58_0 : List AStep := [⟨.box 27 (.t 0), (some 1), none, []⟩, ⟨.mov (.c (.bool false)), (some 2), none, []⟩]
theorem v58_0 : VS L58_0.eq_1 := rfl
def L58_1 : List AStep := [⟨.mov (.c (.int .i64 0)), (some 3), none, []⟩]
theorem v58_1 : VS L58_1.eq_1 := rfl
def L58_2 : List AStep := [⟨.bin .lss (.t 4) (.t 7), (some 8), none, []⟩]
theorem v58_2 : VS L58_2.eq_1 := rfl
def L58_3 : List AStep := ⟨.load 1 false (.t 5), (some 6), none, []⟩ :: ⟨.len (.t 6), (some 7), none, []⟩ :: L58_2
theorem v58_3 : VS L58_3.eq_1 := rfl
def L58_4 : List AStep := ⟨.mov (.t 3), (some 4), none, []⟩ :: ⟨.faddr 1 (.t 1), (some 5), none, []⟩ :: L58_3
theorem v58_4 : VS L58_4.eq_1 := rfl
def L58_5 : List AStep := [⟨.call 114 [(.t 14), (.t 20)], (some 21), none, []⟩, ⟨.bin .geq (.t 21) (.c (.int .i64 0)), (some 22), none, []⟩]
theorem v58_5 : VS L58_5.eq_1 := rfl
def L58_6 : List AStep := ⟨.faddr 0 (.t 18), (some 19), none, []⟩ :: ⟨.load 1 false (.t 19), (some 20), none, []⟩ :: L58_5
theorem v58_6 : VS L58_6.eq_1 := rfl
def L58_7 : List AStep := ⟨.mov (.t 3), (some 17), none, []⟩ :: ⟨.iaddr 2 (.t 16) (.t 17), (some 18), none, []⟩ :: L58_6
theorem v58_7 : VS L58_7.eq_1 := rfl
def L58_8 : List AStep := ⟨.faddr 1 (.t 1), (some 15), none, []⟩ :: ⟨.load 1 false (.t 15), (some 16), none, []⟩ :: L58_7
theorem v58_8 : VS L58_8.eq_1 := rfl
def L58_9 : List AStep := ⟨.mov (.t 3), (some 13), none, []⟩ :: ⟨.slice 53 2 (.t 12) none (some (.t 13)) none, (some 14), none, []⟩ :: L58_8
theorem v58_9 : VS L58_9.eq_1 := rfl
def L58_10 : List AStep := ⟨.faddr 1 (.t 1), (some 11), none, []⟩ :: ⟨.load 1 false (.t 11), (some 12), none, []⟩ :: L58_9
theorem v58_10 : VS L58_10.eq_1 := rfl
def L58_11 : List AStep := [⟨.mov (.c (.bool false)), (some 2), none, []⟩]
theorem v58_11 : VS L58_11.eq_1 := rfl
def L58_12 : List AStep := [⟨.mov (.t 10), (some 3), none, []⟩]
theorem v58_12 : VS L58_12.eq_1 := rfl
def L58_13 : List AStep := ⟨.mov (.t 3), (some 9), none, []⟩ :: ⟨.bin .add (.t 9) (.c (.int .i64 1)), (some 10), none, []⟩ :: L58_12
theorem v58_13 : VS L58_13.eq_1 := rfl
def L58_14 : List AStep := [⟨.mov (.t 42), (some 2), none, []⟩]
theorem v58_14 : VS L58_14.eq_1 := rfl
def L58_15 : List AStep := ⟨.bin .leq (.t 40) (.c (.int .i64 8)), (some 41), (some (37, true)), []⟩ :: ⟨.pick (.t 37) (.t 41) (.c (.bool false)), (some 42), none, []⟩ :: L58_14
theorem v58_15 : VS L58_15.eq_1 := rfl
def L58_16 : List AStep := ⟨.load 1 false (.t 38), (some 39), (some (37, true)), []⟩ :: ⟨.len (.t 39), (some 40), (some (37, true)), []⟩ :: L58_15
theorem v58_16 : VS L58_16.eq_1 := rfl
def L58_17 : List AStep := ⟨.mov (.t 36), (some 37), none, []⟩ :: ⟨.faddr 1 (.t 1), (some 38), (some (37, true)), []⟩ :: L58_16
theorem v58_17 : VS L58_17.eq_1 := rfl
def L58_18 : List AStep := ⟨.bin .leq (.t 34) (.c (.int .i64 8)), (some 35), (some (31, true)), []⟩ :: ⟨.pick (.t 31) (.t 35) (.c (.bool false)), (some 36), none, []⟩ :: L58_17
theorem v58_18 : VS L58_18.eq_1 := rfl
def L58_19 : List AStep := ⟨.load 1 false (.t 32), (some 33), (some (31, true)), []⟩ :: ⟨.len (.t 33), (some 34), (some (31, true)), []⟩ :: L58_18
theorem v58_19 : VS L58_19.eq_1 := rfl
def L58_20 : List AStep := ⟨.mov (.t 30), (some 31), none, []⟩ :: ⟨.faddr 0 (.t 1), (some 32), (some (31, true)), []⟩ :: L58_19
theorem v58_20 : VS L58_20.eq_1 := rfl
def L58_21 : List AStep := ⟨.call 116 [(.t 28)], (some 29), (some (26, true)), []⟩ :: ⟨.pick (.t 26) (.t 29) (.c (.bool false)), (some 30), none, []⟩ :: L58_20
theorem v58_21 : VS L58_21.eq_1 := rfl
def L58_22 : List AStep := ⟨.faddr 1 (.t 1), (some 27), (some (26, true)), []⟩ :: ⟨.load 1 false (.t 27), (some 28), (some (26, true)), []⟩ :: L58_21
theorem v58_22 : VS L58_22.eq_1 := rfl
def L58_23 : List AStep := ⟨.call 115 [(.t 24)], (some 25), none, []⟩ :: ⟨.mov (.t 25), (some 26), none, []⟩ :: L58_22
theorem v58_23 : VS L58_23.eq_1 := rfl
def L58_24 : List AStep := ⟨.faddr 0 (.t 1), (some 23), none, []⟩ :: ⟨.load 1 false (.t 23), (some 24), none, []⟩ :: L58_23
theorem v58_24 : VS L58_24.eq_1 := rfl
def C58_0 : ACode := .cond (.t 8) .skip (.exit 0)
theorem u58_0 : VC C58_0.eq_1 := rfl
def C58_1 : ACode := .seq (.reg L58_4) C58_0
theorem u58_1 : VC C58_1.eq_1 := rfl
def C58_2 : ACode := .seq (.reg L58_11) .ret
theorem u58_2 : VC C58_2.eq_1 := rfl
def C58_3 : ACode := .cond (.t 22) C58_2 .skip
theorem u58_3 : VC C58_3.eq_1 := rfl
def C58_4 : ACode := .seq (.reg L58_10) C58_3
theorem u58_4 : VC C58_4.eq_1 := rfl
def C58_5 : ACode := .block 1 C58_4
theorem u58_5 : VC C58_5.eq_1 := rfl
def C58_6 : ACode := .seq C58_5 (.reg L58_13)
theorem u58_6 : VC C58_6.eq_1 := rfl
def C58_7 : ACode := .seq C58_1 C58_6
theorem u58_7 : VC C58_7.eq_1 := rfl
def C58_8 : ACode := .block 0 (.loop C58_7)
theorem u58_8 : VC C58_8.eq_1 := rfl
def C58_9 : ACode := .seq (.reg L58_1) C58_8
theorem u58_9 : VC C58_9.eq_1 := rfl
def C58_10 : ACode := .seq (.reg L58_24) .ret
theorem u58_10 : VC C58_10.eq_1 := rfl
def C58_11 : ACode := .seq C58_9 C58_10
theorem u58_11 : VC C58_11.eq_1 := rfl
def C58_12 : ACode := .seq (.reg L58_0) C58_11
theorem u58_12 : VC C58_12.eq_1 := rfl
def F58 : AFunc := ⟨43, [.tmp 2], C58_12⟩
theorem cF58 : compB Try.prog 58 = some F58 := by kernel_rfl
attribute [local go_sem ↓] u58_0 u58_1 u58_2 u58_3 u58_4 u58_5 u58_6 u58_7 u58_8 u58_9 u58_10 u58_11 u58_12 v58_0 v58_1 v58_2 v58_3 v58_4 v58_5 v58_6 v58_7 v58_8 v58_9 v58_10 v58_11 v58_12 v58_13 v58_14 v58_15 v58_16 v58_17 v58_18 v58_19 v58_20 v58_21 v58_22 v58_23 v58_24
theorem c_validFlat (f : Flat) (pv nv : CV) (h : H) (hp : SlI h (.one pv) f.pl) (hq : SlP h (.one nv) f.nl) (hn : smF f) : bm Try.prog 58 [.agg [pv, nv]] h = some (ib (okFlat f), h) := by
  refine bm_eq cF58 ?_
  simp +contextual (maxSteps := 2000000) only [go_sem, Nat.reduceEqDiff, reduceCtorEq, Nat.reduceAdd, Nat.reduceLeDiff, F58]
  refine wpC_loop (fun i T L h' => h' = h ∧ T 1 = .lp 1 0 ∧ (L 1).2 = [pv, nv] ∧ T 3 = .v (.one (.int .i64 i)) ∧ Upto (newAt Pair.name f.nl) i) f.nl.length ?_ ?_ (Nat.zero_le _) ?_
  · rintro i T L h' hi ⟨rfl, t1, l1, t3, hu⟩
    obtain ⟨v', e1, s1⟩ := hq.takeO (i := i) (by omega) (kd := .i64)
    have e2 : decide (pairAt (f.nl.take i) f.nl[i].name ≥ 0) = !(newAt Pair.name f.nl i) := newAt_ge hi
    simp +contextual (maxSteps := 2000000) only [go_sem, Nat.reduceEqDiff, reduceCtorEq, Nat.reduceAdd, Nat.reduceLeDiff, e2, t1, l1, t3, hq.len, hq.iaddr hi, hq.fieldO hi, lt_true hi, e1, c_pairAt _ _ _ _ s1 (hn.nl.take i)]
    (repeat' (first | refine And.intro ?_ ?_ | intro _)) <;> first | rfl | rw [wrap_next hi hn.nl.len] | exact hu.next (by simp_all) | rw [okFlat, apart_not hi (by simp_all)]; rfl
  · rintro T L h' ⟨rfl, t1, l1, t3, hu⟩
    simp +contextual (maxSteps := 2000000) only [go_sem, Nat.reduceEqDiff, reduceCtorEq, Nat.reduceAdd, Nat.reduceLeDiff, t1, l1, t3, hq.len, hp.len, lt_false, c_validNumbers _ _ _ hp hn.pl, c_validPairs _ _ _ hq hn.nl, okFlat, apart_of hu]
    (repeat' (first | refine And.intro ?_ ?_ | intro _)) <;> first | rfl | simp_all
  · simp +contextual (maxSteps := 2000000) only [go_sem, Nat.reduceEqDiff, reduceCtorEq, Nat.reduceAdd, Nat.reduceLeDiff]
    (repeat' (first | refine And.intro ?_ ?_ | intro _)) <;> first | rfl | exact Upto.zero
end Go.Proofs.Ytekkimfdcbgcoaa.Am
