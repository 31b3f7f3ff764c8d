/- Contracts of the laws: comparisons. -/
import Derived.Test.YtekkimfdcbgcoacDat
namespace Go.Proofs.Ytekkimfdcbgcoac.Am
open Go
set_option maxRecDepth 100000
set_option maxHeartbeats 4000000
set_option linter.unusedSimpArgs false
set_option linter.unusedVariables false
attribute [local go_sem ↓] bv_t bv_c ev_t ev_c put_same put_ne put_none kill_at pro_at lb_same lb_ne start_zero start_succ wpC_seq wpC_reg wpC_cond wpC_block wpC_skip wpC_exit wpC_ret thenQ_normal thenQ_exit thenQ_ret inBlk_normal inBlk_exit inBlk_ret wpS_nil wpS_step wpS_again wpS_guard wpO_mov wpO_load wpO_faddr wpO_nilCheck wpO_pick wpO_build wpO_bin wpO_eqb wpO_eqst wpO_eqnil wpO_not wpO_conv wpO_bytesStr wpO_iaddr wpO_idxStr wpO_field wpO_extract wpO_len wpO_lenStr wpO_cap wpO_min wpO_slice wpO_sliceStr wpO_alloc wpO_box wpO_store wpO_call wpO_callv wpO_mkfn wpO_buildSlice wpO_mkslice wpO_append wpO_appz proA_nil proA_cons tmpX_nil tmpX_tmp tmpX_cell doneB_normal doneB_ret agK_cons agK_nil agK_guard agG_tt agG_ff agG_tf agG_ft agG_undef pureB_load results_one results_two results_nil resBs_cons resBs_nil resB_tmp resB_cell
attribute [local go_sem] kill_v kill_lp_ne kill_lp_same pro_v pro_lp_same pro_lp_ne av_v av_lp optB_some optX_some valX_eq ldX_lp ldX_v faX_lp faX_v ncX_lp ncX_ptr ncX_fn boxK_one boxK_agg stL_some stK_lp_one stK_lp_agg stK_v_one stK_v_agg proM_v proM_lp callG_mk callVG_mk callvK_fn fnG_mk ptrsA_nil ptrsA_cons callH_some whenA_true whenA_false guardH_tt guardH_ff guardH_tf guardH_ft guardH_undef agV_one agV_agg lenO_sl lenStrO_str notO_bool pickO_bool convO_int eqbO_bool eqnilO_sl extractO_tup capO_sl minO_int loadL_one loadL_all storeL_eq fillA_nil fillA_one fillA_agg nat_ge neg_ge nat_lt neg_lt buildO bin_add bin_sub bin_mul bin_eql bin_neq bin_lss bin_leq bin_gtr bin_geq str_eql str_neq str_lss str_leq str_gtr str_geq retK_some endK_mk gcK_same gcK_int gcK_bool tupO_one tupO_agg rdy_self ib ii Option.map_none Option.map_some Option.some.injEq exists_eq_left' exists_eq_left ne_eq not_false_eq_true if_true if_false List.map_cons List.map_nil List.getElem?_cons_zero List.getElem?_cons_succ List.length_cons List.length_nil List.take_succ_cons List.take_zero List.take_nil List.drop_succ_cons List.drop_zero List.drop_nil List.cons_append List.nil_append List.append_nil List.set_cons_zero List.set_cons_succ Nat.zero_add forall_const true_and and_true and_self Bool.false_eq_true false_implies true_implies implies_true Bool.not_true Bool.not_false Bool.not_eq_true' Bool.not_eq_false' beq_self_eq_true Bool.bne_true Bool.bne_false
attribute [local go_sem] lenI lenS lenP lenQ lenB lenL lenT encI_0 encS_0 encP_0 encP_1 encQ_0 encQ_1 encQ_2 encQ_3 encB_0 encB_1 encL_0 encL_1 encT_0 encT_1
attribute [local go_sem low] whenA_bool guardH_bool
/-! laws.equalInts -/
def L41_0 : List AStep := [⟨.mov (.c (.bool false)), (some 4), none, []⟩]
theorem v41_0 : VS L41_0.eq_1 := rfl
def L41_1 : List AStep := [⟨.bin .neq (.t 7) (.t 9), (some 10), none, []⟩]
theorem v41_1 : VS L41_1.eq_1 := rfl
def L41_2 : List AStep := ⟨.mov (.t 1), (some 8), none, []⟩ :: ⟨.len (.t 8), (some 9), none, []⟩ :: L41_1
theorem v41_2 : VS L41_2.eq_1 := rfl
def L41_3 : List AStep := ⟨.mov (.t 0), (some 6), none, []⟩ :: ⟨.len (.t 6), (some 7), none, []⟩ :: L41_2
theorem v41_3 : VS L41_3.eq_1 := rfl
def L41_4 : List AStep := [⟨.mov (.c (.bool false)), (some 4), none, []⟩]
theorem v41_4 : VS L41_4.eq_1 := rfl
def L41_5 : List AStep := [⟨.mov (.c (.int .i64 0)), (some 5), none, []⟩]
theorem v41_5 : VS L41_5.eq_1 := rfl
def L41_6 : List AStep := [⟨.len (.t 12), (some 13), none, []⟩, ⟨.bin .lss (.t 11) (.t 13), (some 14), none, []⟩]
theorem v41_6 : VS L41_6.eq_1 := rfl
def L41_7 : List AStep := ⟨.mov (.t 5), (some 11), none, []⟩ :: ⟨.mov (.t 0), (some 12), none, []⟩ :: L41_6
theorem v41_7 : VS L41_7.eq_1 := rfl
def L41_8 : List AStep := [⟨.bin .neq (.t 20) (.t 24), (some 25), none, []⟩]
theorem v41_8 : VS L41_8.eq_1 := rfl
def L41_9 : List AStep := ⟨.iaddr 1 (.t 21) (.t 22), (some 23), none, []⟩ :: ⟨.load 1 false (.t 23), (some 24), none, []⟩ :: L41_8
theorem v41_9 : VS L41_9.eq_1 := rfl
def L41_10 : List AStep := ⟨.mov (.t 1), (some 21), none, []⟩ :: ⟨.mov (.t 5), (some 22), none, []⟩ :: L41_9
theorem v41_10 : VS L41_10.eq_1 := rfl
def L41_11 : List AStep := ⟨.iaddr 1 (.t 17) (.t 18), (some 19), none, []⟩ :: ⟨.load 1 false (.t 19), (some 20), none, []⟩ :: L41_10
theorem v41_11 : VS L41_11.eq_1 := rfl
def L41_12 : List AStep := ⟨.mov (.t 0), (some 17), none, []⟩ :: ⟨.mov (.t 5), (some 18), none, []⟩ :: L41_11
theorem v41_12 : VS L41_12.eq_1 := rfl
def L41_13 : List AStep := [⟨.mov (.c (.bool false)), (some 4), none, []⟩]
theorem v41_13 : VS L41_13.eq_1 := rfl
def L41_14 : List AStep := [⟨.mov (.t 16), (some 5), none, []⟩]
theorem v41_14 : VS L41_14.eq_1 := rfl
def L41_15 : List AStep := ⟨.mov (.t 5), (some 15), none, []⟩ :: ⟨.bin .add (.t 15) (.c (.int .i64 1)), (some 16), none, []⟩ :: L41_14
theorem v41_15 : VS L41_15.eq_1 := rfl
def L41_16 : List AStep := [⟨.mov (.c (.bool true)), (some 4), none, []⟩]
theorem v41_16 : VS L41_16.eq_1 := rfl
def C41_0 : ACode := .seq (.reg L41_4) .ret
theorem u41_0 : VC C41_0.eq_1 := rfl
def C41_1 : ACode := .cond (.t 10) C41_0 .skip
theorem u41_1 : VC C41_1.eq_1 := rfl
def C41_2 : ACode := .seq (.reg L41_3) C41_1
theorem u41_2 : VC C41_2.eq_1 := rfl
def C41_3 : ACode := .cond (.t 14) .skip (.exit 0)
theorem u41_3 : VC C41_3.eq_1 := rfl
def C41_4 : ACode := .seq (.reg L41_7) C41_3
theorem u41_4 : VC C41_4.eq_1 := rfl
def C41_5 : ACode := .seq (.reg L41_13) .ret
theorem u41_5 : VC C41_5.eq_1 := rfl
def C41_6 : ACode := .cond (.t 25) C41_5 .skip
theorem u41_6 : VC C41_6.eq_1 := rfl
def C41_7 : ACode := .seq (.reg L41_12) C41_6
theorem u41_7 : VC C41_7.eq_1 := rfl
def C41_8 : ACode := .block 1 C41_7
theorem u41_8 : VC C41_8.eq_1 := rfl
def C41_9 : ACode := .seq C41_8 (.reg L41_15)
theorem u41_9 : VC C41_9.eq_1 := rfl
def C41_10 : ACode := .seq C41_4 C41_9
theorem u41_10 : VC C41_10.eq_1 := rfl
def C41_11 : ACode := .block 0 (.loop C41_10)
theorem u41_11 : VC C41_11.eq_1 := rfl
def C41_12 : ACode := .seq (.reg L41_5) C41_11
theorem u41_12 : VC C41_12.eq_1 := rfl
def C41_13 : ACode := .seq (.reg L41_16) .ret
theorem u41_13 : VC C41_13.eq_1 := rfl
def C41_14 : ACode := .seq C41_12 C41_13
theorem u41_14 : VC C41_14.eq_1 := rfl
def C41_15 : ACode := .seq C41_2 C41_14
theorem u41_15 : VC C41_15.eq_1 := rfl
def C41_16 : ACode := .seq (.reg L41_0) C41_15
theorem u41_16 : VC C41_16.eq_1 := rfl
def F41 : AFunc := ⟨26, [.tmp 4], C41_16⟩
theorem cF41 : compB Try.prog 41 = some F41 := by kernel_rfl
attribute [local go_sem ↓] u41_0 u41_1 u41_2 u41_3 u41_4 u41_5 u41_6 u41_7 u41_8 u41_9 u41_10 u41_11 u41_12 u41_13 u41_14 u41_15 u41_16 v41_0 v41_1 v41_2 v41_3 v41_4 v41_5 v41_6 v41_7 v41_8 v41_9 v41_10 v41_11 v41_12 v41_13 v41_14 v41_15 v41_16
theorem c_equalInts (l m : List Int) (v w : AV) (h : H) (hl : SlI h v l) (hm : SlI h w m) (hn : l.length ≤ big) : bm Try.prog 41 [v, w] h = some (ib (decide (l = m)), h) := by
  refine bm_eq cF41 ?_
  by_cases hlen : l.length = m.length
  case neg =>
    have e1 : decide ((l.length : Int) = (m.length : Int)) = false := decide_eq_false (by omega)
    simp +contextual (maxSteps := 2000000) only [go_sem, Nat.reduceEqDiff, reduceCtorEq, Nat.reduceAdd, Nat.reduceLeDiff, F41, hl.len, hm.len, e1]
    rw [ne_len e1]
  have e1 : decide ((l.length : Int) = (m.length : Int)) = true := decide_eq_true (by omega)
  simp +contextual (maxSteps := 2000000) only [go_sem, Nat.reduceEqDiff, reduceCtorEq, Nat.reduceAdd, Nat.reduceLeDiff, F41, hl.len, hm.len, e1]
  refine wpC_loop (fun i T L h' => h' = h ∧ T 0 = .v v ∧ T 1 = .v w ∧ T 5 = .v (.one (.int .i64 i)) ∧ Upto (eqAt l m) i) l.length ?_ ?_ (Nat.zero_le _) ?_
  · rintro i T L h' hi ⟨rfl, t0, t1, t5, hu⟩
    have him : i < m.length := by omega
    have e2 := eqAt_eq hi him
    simp +contextual (maxSteps := 2000000) only [go_sem, Nat.reduceEqDiff, reduceCtorEq, Nat.reduceAdd, Nat.reduceLeDiff, t0, t1, t5, hl.len, hm.len, hl.iaddr hi, hm.iaddr him, hl.oneO hi, hm.oneO him, lt_true hi]
    (repeat' (first | refine And.intro ?_ ?_ | intro _)) <;> first | rfl | rw [wrap_next hi (big_lt hn)] | (refine hu.next ?_; rw [e2]; (simp_all; done)) | (rw [ne_at (l := l) (m := m) (i := i)]; rw [e2]; (simp_all; done))
  · rintro T L h' ⟨rfl, t0, t1, t5, hu⟩
    simp +contextual (maxSteps := 2000000) only [go_sem, Nat.reduceEqDiff, reduceCtorEq, Nat.reduceAdd, Nat.reduceLeDiff, t0, t1, t5, hl.len, hm.len, lt_false, decide_eq_true (eq_of_upto hlen hu)]
  · simp +contextual (maxSteps := 2000000) only [go_sem, Nat.reduceEqDiff, reduceCtorEq, Nat.reduceAdd, Nat.reduceLeDiff]
    (repeat' (first | refine And.intro ?_ ?_ | intro _)) <;> first | rfl | exact Upto.zero
end Go.Proofs.Ytekkimfdcbgcoac.Am
