/- Contracts of the laws: comparisons. -/
import Derived.Test.YtdalgphpacikkacDat
namespace Go.Proofs.Ytdalgphpacikkac.Am
open Go
set_option maxRecDepth 100000
set_option maxHeartbeats 4000000
set_option linter.unusedSimpArgs false
set_option linter.unusedVariables false
attribute [local go_sem ↓] bv_t bv_c ev_t ev_c put_same put_ne put_none kill_at pro_at lb_same lb_ne start_zero start_succ wpC_seq wpC_reg wpC_cond wpC_block wpC_skip wpC_exit wpC_ret thenQ_normal thenQ_exit thenQ_ret inBlk_normal inBlk_exit inBlk_ret wpS_nil wpS_step wpS_again wpS_guard wpO_mov wpO_load wpO_faddr wpO_nilCheck wpO_pick wpO_build wpO_bin wpO_eqb wpO_eqst wpO_eqnil wpO_not wpO_conv wpO_bytesStr wpO_iaddr wpO_idxStr wpO_field wpO_extract wpO_len wpO_lenStr wpO_cap wpO_min wpO_slice wpO_sliceStr wpO_alloc wpO_box wpO_store wpO_call wpO_callv wpO_mkfn wpO_buildSlice wpO_mkslice wpO_append wpO_appz proA_nil proA_cons tmpX_nil tmpX_tmp tmpX_cell doneB_normal doneB_ret agK_cons agK_nil agK_guard agG_tt agG_ff agG_tf agG_ft agG_undef pureB_load results_one results_two results_nil resBs_cons resBs_nil resB_tmp resB_cell
attribute [local go_sem] kill_v kill_lp_ne kill_lp_same pro_v pro_lp_same pro_lp_ne av_v av_lp optB_some optX_some valX_eq ldX_lp ldX_v faX_lp faX_v ncX_lp ncX_ptr ncX_fn boxK_one boxK_agg stL_some stK_lp_one stK_lp_agg stK_v_one stK_v_agg proM_v proM_lp callG_mk callVG_mk callvK_fn fnG_mk ptrsA_nil ptrsA_cons callH_some whenA_true whenA_false guardH_tt guardH_ff guardH_tf guardH_ft guardH_undef agV_one agV_agg lenO_sl lenStrO_str notO_bool pickO_bool convO_int eqbO_bool eqnilO_sl extractO_tup capO_sl minO_int loadL_one loadL_all storeL_eq fillA_nil fillA_one fillA_agg nat_ge neg_ge nat_lt neg_lt buildO bin_add bin_sub bin_mul bin_eql bin_neq bin_lss bin_leq bin_gtr bin_geq str_eql str_neq str_lss str_leq str_gtr str_geq retK_some endK_mk gcK_same gcK_int gcK_bool tupO_one tupO_agg rdy_self ib ii Option.map_none Option.map_some Option.some.injEq exists_eq_left' exists_eq_left ne_eq not_false_eq_true if_true if_false List.map_cons List.map_nil List.getElem?_cons_zero List.getElem?_cons_succ List.length_cons List.length_nil List.take_succ_cons List.take_zero List.take_nil List.drop_succ_cons List.drop_zero List.drop_nil List.cons_append List.nil_append List.append_nil List.set_cons_zero List.set_cons_succ Nat.zero_add forall_const true_and and_true and_self Bool.false_eq_true false_implies true_implies implies_true Bool.not_true Bool.not_false Bool.not_eq_true' Bool.not_eq_false' beq_self_eq_true Bool.bne_true Bool.bne_false
attribute [local go_sem] lenI lenS lenP lenQ lenB lenL lenT encI_0 encS_0 encP_0 encP_1 encQ_0 encQ_1 encQ_2 encQ_3 encB_0 encB_1 encL_0 encL_1 encT_0 encT_1
attribute [local go_sem low] whenA_bool guardH_bool
/-! laws.eqPair -/
def L103_0 : List AStep := [⟨.mov (.c (.bool false)), (some 4), none, []⟩]
theorem v103_0 : VS L103_0.eq_1 := rfl
def L103_1 : List AStep := ⟨.box 106 (.t 0), (some 2), none, []⟩ :: ⟨.box 106 (.t 1), (some 3), none, []⟩ :: L103_0
theorem v103_1 : VS L103_1.eq_1 := rfl
def L103_2 : List AStep := [⟨.bin .neq (.t 6) (.t 8), (some 9), none, []⟩]
theorem v103_2 : VS L103_2.eq_1 := rfl
def L103_3 : List AStep := ⟨.faddr 0 (.t 3), (some 7), none, []⟩ :: ⟨.load 1 false (.t 7), (some 8), none, []⟩ :: L103_2
theorem v103_3 : VS L103_3.eq_1 := rfl
def L103_4 : List AStep := ⟨.faddr 0 (.t 2), (some 5), none, []⟩ :: ⟨.load 1 false (.t 5), (some 6), none, []⟩ :: L103_3
theorem v103_4 : VS L103_4.eq_1 := rfl
def L103_5 : List AStep := [⟨.mov (.c (.bool false)), (some 4), none, []⟩]
theorem v103_5 : VS L103_5.eq_1 := rfl
def L103_6 : List AStep := [⟨.bin .neq (.t 11) (.t 13), (some 14), none, []⟩]
theorem v103_6 : VS L103_6.eq_1 := rfl
def L103_7 : List AStep := ⟨.faddr 1 (.t 3), (some 12), none, []⟩ :: ⟨.load 1 false (.t 12), (some 13), none, []⟩ :: L103_6
theorem v103_7 : VS L103_7.eq_1 := rfl
def L103_8 : List AStep := ⟨.faddr 1 (.t 2), (some 10), none, []⟩ :: ⟨.load 1 false (.t 10), (some 11), none, []⟩ :: L103_7
theorem v103_8 : VS L103_8.eq_1 := rfl
def L103_9 : List AStep := [⟨.mov (.c (.bool false)), (some 4), none, []⟩]
theorem v103_9 : VS L103_9.eq_1 := rfl
def L103_10 : List AStep := [⟨.mov (.c (.bool true)), (some 4), none, []⟩]
theorem v103_10 : VS L103_10.eq_1 := rfl
def C103_0 : ACode := .seq (.reg L103_5) .ret
theorem u103_0 : VC C103_0.eq_1 := rfl
def C103_1 : ACode := .cond (.t 9) C103_0 .skip
theorem u103_1 : VC C103_1.eq_1 := rfl
def C103_2 : ACode := .seq (.reg L103_4) C103_1
theorem u103_2 : VC C103_2.eq_1 := rfl
def C103_3 : ACode := .seq (.reg L103_9) .ret
theorem u103_3 : VC C103_3.eq_1 := rfl
def C103_4 : ACode := .cond (.t 14) C103_3 .skip
theorem u103_4 : VC C103_4.eq_1 := rfl
def C103_5 : ACode := .seq (.reg L103_8) C103_4
theorem u103_5 : VC C103_5.eq_1 := rfl
def C103_6 : ACode := .seq (.reg L103_10) .ret
theorem u103_6 : VC C103_6.eq_1 := rfl
def C103_7 : ACode := .seq C103_5 C103_6
theorem u103_7 : VC C103_7.eq_1 := rfl
def C103_8 : ACode := .seq C103_2 C103_7
theorem u103_8 : VC C103_8.eq_1 := rfl
def C103_9 : ACode := .seq (.reg L103_1) C103_8
theorem u103_9 : VC C103_9.eq_1 := rfl
def F103 : AFunc := ⟨15, [.tmp 4], C103_9⟩
theorem cF103 : compB Try.prog 103 = some F103 := by kernel_rfl
attribute [local go_sem ↓] u103_0 u103_1 u103_2 u103_3 u103_4 u103_5 u103_6 u103_7 u103_8 u103_9 v103_0 v103_1 v103_2 v103_3 v103_4 v103_5 v103_6 v103_7 v103_8 v103_9 v103_10
theorem c_eqPair (p q : Pair) (h : H) : bm Try.prog 103 [.agg (encP p), .agg (encP q)] h = some (ib (decide (p = q)), h) := by
  refine bm_eq cF103 ?_
  obtain ⟨n1, k1⟩ := p
  obtain ⟨n2, k2⟩ := q
  simp +contextual (maxSteps := 2000000) only [go_sem, Nat.reduceEqDiff, reduceCtorEq, Nat.reduceAdd, Nat.reduceLeDiff, F103, Pair.mk.injEq]
  try ((repeat' (first | refine And.intro ?_ ?_ | intro _)) <;> first | simp_all)
/-! laws.eqIntS -/
def L51_0 : List AStep := [⟨.mov (.c (.bool false)), (some 4), none, []⟩]
theorem v51_0 : VS L51_0.eq_1 := rfl
def L51_1 : List AStep := [⟨.bin .neq (.t 7) (.t 9), (some 10), none, []⟩]
theorem v51_1 : VS L51_1.eq_1 := rfl
def L51_2 : List AStep := ⟨.mov (.t 1), (some 8), none, []⟩ :: ⟨.len (.t 8), (some 9), none, []⟩ :: L51_1
theorem v51_2 : VS L51_2.eq_1 := rfl
def L51_3 : List AStep := ⟨.mov (.t 0), (some 6), none, []⟩ :: ⟨.len (.t 6), (some 7), none, []⟩ :: L51_2
theorem v51_3 : VS L51_3.eq_1 := rfl
def L51_4 : List AStep := [⟨.mov (.c (.bool false)), (some 4), none, []⟩]
theorem v51_4 : VS L51_4.eq_1 := rfl
def L51_5 : List AStep := [⟨.mov (.c (.int .i64 0)), (some 5), none, []⟩]
theorem v51_5 : VS L51_5.eq_1 := rfl
def L51_6 : List AStep := [⟨.len (.t 12), (some 13), none, []⟩, ⟨.bin .lss (.t 11) (.t 13), (some 14), none, []⟩]
theorem v51_6 : VS L51_6.eq_1 := rfl
def L51_7 : List AStep := ⟨.mov (.t 5), (some 11), none, []⟩ :: ⟨.mov (.t 0), (some 12), none, []⟩ :: L51_6
theorem v51_7 : VS L51_7.eq_1 := rfl
def L51_8 : List AStep := [⟨.bin .neq (.t 20) (.t 24), (some 25), none, []⟩]
theorem v51_8 : VS L51_8.eq_1 := rfl
def L51_9 : List AStep := ⟨.iaddr 1 (.t 21) (.t 22), (some 23), none, []⟩ :: ⟨.load 1 false (.t 23), (some 24), none, []⟩ :: L51_8
theorem v51_9 : VS L51_9.eq_1 := rfl
def L51_10 : List AStep := ⟨.mov (.t 1), (some 21), none, []⟩ :: ⟨.mov (.t 5), (some 22), none, []⟩ :: L51_9
theorem v51_10 : VS L51_10.eq_1 := rfl
def L51_11 : List AStep := ⟨.iaddr 1 (.t 17) (.t 18), (some 19), none, []⟩ :: ⟨.load 1 false (.t 19), (some 20), none, []⟩ :: L51_10
theorem v51_11 : VS L51_11.eq_1 := rfl
def L51_12 : List AStep := ⟨.mov (.t 0), (some 17), none, []⟩ :: ⟨.mov (.t 5), (some 18), none, []⟩ :: L51_11
theorem v51_12 : VS L51_12.eq_1 := rfl
def L51_13 : List AStep := [⟨.mov (.c (.bool false)), (some 4), none, []⟩]
theorem v51_13 : VS L51_13.eq_1 := rfl
def L51_14 : List AStep := [⟨.mov (.t 16), (some 5), none, []⟩]
theorem v51_14 : VS L51_14.eq_1 := rfl
def L51_15 : List AStep := ⟨.mov (.t 5), (some 15), none, []⟩ :: ⟨.bin .add (.t 15) (.c (.int .i64 1)), (some 16), none, []⟩ :: L51_14
theorem v51_15 : VS L51_15.eq_1 := rfl
def L51_16 : List AStep := [⟨.mov (.c (.bool true)), (some 4), none, []⟩]
theorem v51_16 : VS L51_16.eq_1 := rfl
def C51_0 : ACode := .seq (.reg L51_4) .ret
theorem u51_0 : VC C51_0.eq_1 := rfl
def C51_1 : ACode := .cond (.t 10) C51_0 .skip
theorem u51_1 : VC C51_1.eq_1 := rfl
def C51_2 : ACode := .seq (.reg L51_3) C51_1
theorem u51_2 : VC C51_2.eq_1 := rfl
def C51_3 : ACode := .cond (.t 14) .skip (.exit 0)
theorem u51_3 : VC C51_3.eq_1 := rfl
def C51_4 : ACode := .seq (.reg L51_7) C51_3
theorem u51_4 : VC C51_4.eq_1 := rfl
def C51_5 : ACode := .seq (.reg L51_13) .ret
theorem u51_5 : VC C51_5.eq_1 := rfl
def C51_6 : ACode := .cond (.t 25) C51_5 .skip
theorem u51_6 : VC C51_6.eq_1 := rfl
def C51_7 : ACode := .seq (.reg L51_12) C51_6
theorem u51_7 : VC C51_7.eq_1 := rfl
def C51_8 : ACode := .block 1 C51_7
theorem u51_8 : VC C51_8.eq_1 := rfl
def C51_9 : ACode := .seq C51_8 (.reg L51_15)
theorem u51_9 : VC C51_9.eq_1 := rfl
def C51_10 : ACode := .seq C51_4 C51_9
theorem u51_10 : VC C51_10.eq_1 := rfl
def C51_11 : ACode := .block 0 (.loop C51_10)
theorem u51_11 : VC C51_11.eq_1 := rfl
def C51_12 : ACode := .seq (.reg L51_5) C51_11
theorem u51_12 : VC C51_12.eq_1 := rfl
def C51_13 : ACode := .seq (.reg L51_16) .ret
theorem u51_13 : VC C51_13.eq_1 := rfl
def C51_14 : ACode := .seq C51_12 C51_13
theorem u51_14 : VC C51_14.eq_1 := rfl
def C51_15 : ACode := .seq C51_2 C51_14
theorem u51_15 : VC C51_15.eq_1 := rfl
def C51_16 : ACode := .seq (.reg L51_0) C51_15
theorem u51_16 : VC C51_16.eq_1 := rfl
def F51 : AFunc := ⟨26, [.tmp 4], C51_16⟩
theorem cF51 : compB Try.prog 51 = some F51 := by kernel_rfl
attribute [local go_sem ↓] u51_0 u51_1 u51_2 u51_3 u51_4 u51_5 u51_6 u51_7 u51_8 u51_9 u51_10 u51_11 u51_12 u51_13 u51_14 u51_15 u51_16 v51_0 v51_1 v51_2 v51_3 v51_4 v51_5 v51_6 v51_7 v51_8 v51_9 v51_10 v51_11 v51_12 v51_13 v51_14 v51_15 v51_16
theorem c_eqIntS (l m : List Int) (v w : AV) (h : H) (hl : SlI h v l) (hm : SlI h w m) (hn : l.length ≤ big) : bm Try.prog 51 [v, w] h = some (ib (decide (l = m)), h) := by
  refine bm_eq cF51 ?_
  by_cases hlen : l.length = m.length
  case neg =>
    have e1 : decide ((l.length : Int) = (m.length : Int)) = false := decide_eq_false (by omega)
    simp +contextual (maxSteps := 2000000) only [go_sem, Nat.reduceEqDiff, reduceCtorEq, Nat.reduceAdd, Nat.reduceLeDiff, F51, hl.len, hm.len, e1]
    rw [ne_len e1]
  have e1 : decide ((l.length : Int) = (m.length : Int)) = true := decide_eq_true (by omega)
  simp +contextual (maxSteps := 2000000) only [go_sem, Nat.reduceEqDiff, reduceCtorEq, Nat.reduceAdd, Nat.reduceLeDiff, F51, hl.len, hm.len, e1]
  refine wpC_loop (fun i T L h' => h' = h ∧ T 0 = .v v ∧ T 1 = .v w ∧ T 5 = .v (.one (.int .i64 i)) ∧ Upto (eqAt l m) i) l.length ?_ ?_ (Nat.zero_le _) ?_
  · rintro i T L h' hi ⟨rfl, t0, t1, t5, hu⟩
    have him : i < m.length := by omega
    have e2 := eqAt_eq hi him
    simp +contextual (maxSteps := 2000000) only [go_sem, Nat.reduceEqDiff, reduceCtorEq, Nat.reduceAdd, Nat.reduceLeDiff, t0, t1, t5, hl.len, hm.len, hl.iaddr hi, hm.iaddr him, hl.oneO hi, hm.oneO him, lt_true hi]
    (repeat' (first | refine And.intro ?_ ?_ | intro _)) <;> first | rfl | rw [wrap_next hi (big_lt hn)] | (refine hu.next ?_; rw [e2]; (simp_all; done)) | (rw [ne_at (l := l) (m := m) (i := i)]; rw [e2]; (simp_all; done))
  · rintro T L h' ⟨rfl, t0, t1, t5, hu⟩
    simp +contextual (maxSteps := 2000000) only [go_sem, Nat.reduceEqDiff, reduceCtorEq, Nat.reduceAdd, Nat.reduceLeDiff, t0, t1, t5, hl.len, hm.len, lt_false, decide_eq_true (eq_of_upto hlen hu)]
  · simp +contextual (maxSteps := 2000000) only [go_sem, Nat.reduceEqDiff, reduceCtorEq, Nat.reduceAdd, Nat.reduceLeDiff]
    (repeat' (first | refine And.intro ?_ ?_ | intro _)) <;> first | rfl | exact Upto.zero
/-! laws.eqPairS -/
def L52_0 : List AStep := [⟨.mov (.c (.bool false)), (some 4), none, []⟩]
theorem v52_0 : VS L52_0.eq_1 := rfl
def L52_1 : List AStep := [⟨.bin .neq (.t 7) (.t 9), (some 10), none, []⟩]
theorem v52_1 : VS L52_1.eq_1 := rfl
def L52_2 : List AStep := ⟨.mov (.t 1), (some 8), none, []⟩ :: ⟨.len (.t 8), (some 9), none, []⟩ :: L52_1
theorem v52_2 : VS L52_2.eq_1 := rfl
def L52_3 : List AStep := ⟨.mov (.t 0), (some 6), none, []⟩ :: ⟨.len (.t 6), (some 7), none, []⟩ :: L52_2
theorem v52_3 : VS L52_3.eq_1 := rfl
def L52_4 : List AStep := [⟨.mov (.c (.bool false)), (some 4), none, []⟩]
theorem v52_4 : VS L52_4.eq_1 := rfl
def L52_5 : List AStep := [⟨.mov (.c (.int .i64 0)), (some 5), none, []⟩]
theorem v52_5 : VS L52_5.eq_1 := rfl
def L52_6 : List AStep := [⟨.len (.t 12), (some 13), none, []⟩, ⟨.bin .lss (.t 11) (.t 13), (some 14), none, []⟩]
theorem v52_6 : VS L52_6.eq_1 := rfl
def L52_7 : List AStep := ⟨.mov (.t 5), (some 11), none, []⟩ :: ⟨.mov (.t 0), (some 12), none, []⟩ :: L52_6
theorem v52_7 : VS L52_7.eq_1 := rfl
def L52_8 : List AStep := [⟨.call 103 [(.t 20), (.t 24)], (some 25), none, []⟩, ⟨.not (.t 25), (some 26), none, []⟩]
theorem v52_8 : VS L52_8.eq_1 := rfl
def L52_9 : List AStep := ⟨.iaddr 2 (.t 21) (.t 22), (some 23), none, []⟩ :: ⟨.load 2 true (.t 23), (some 24), none, []⟩ :: L52_8
theorem v52_9 : VS L52_9.eq_1 := rfl
def L52_10 : List AStep := ⟨.mov (.t 1), (some 21), none, []⟩ :: ⟨.mov (.t 5), (some 22), none, []⟩ :: L52_9
theorem v52_10 : VS L52_10.eq_1 := rfl
def L52_11 : List AStep := ⟨.iaddr 2 (.t 17) (.t 18), (some 19), none, []⟩ :: ⟨.load 2 true (.t 19), (some 20), none, []⟩ :: L52_10
theorem v52_11 : VS L52_11.eq_1 := rfl
def L52_12 : List AStep := ⟨.mov (.t 0), (some 17), none, []⟩ :: ⟨.mov (.t 5), (some 18), none, []⟩ :: L52_11
theorem v52_12 : VS L52_12.eq_1 := rfl
def L52_13 : List AStep := [⟨.mov (.c (.bool false)), (some 4), none, []⟩]
theorem v52_13 : VS L52_13.eq_1 := rfl
def L52_14 : List AStep := [⟨.mov (.t 16), (some 5), none, []⟩]
theorem v52_14 : VS L52_14.eq_1 := rfl
def L52_15 : List AStep := ⟨.mov (.t 5), (some 15), none, []⟩ :: ⟨.bin .add (.t 15) (.c (.int .i64 1)), (some 16), none, []⟩ :: L52_14
theorem v52_15 : VS L52_15.eq_1 := rfl
def L52_16 : List AStep := [⟨.mov (.c (.bool true)), (some 4), none, []⟩]
theorem v52_16 : VS L52_16.eq_1 := rfl
def C52_0 : ACode := .seq (.reg L52_4) .ret
theorem u52_0 : VC C52_0.eq_1 := rfl
def C52_1 : ACode := .cond (.t 10) C52_0 .skip
theorem u52_1 : VC C52_1.eq_1 := rfl
def C52_2 : ACode := .seq (.reg L52_3) C52_1
theorem u52_2 : VC C52_2.eq_1 := rfl
def C52_3 : ACode := .cond (.t 14) .skip (.exit 0)
theorem u52_3 : VC C52_3.eq_1 := rfl
def C52_4 : ACode := .seq (.reg L52_7) C52_3
theorem u52_4 : VC C52_4.eq_1 := rfl
def C52_5 : ACode := .seq (.reg L52_13) .ret
theorem u52_5 : VC C52_5.eq_1 := rfl
def C52_6 : ACode := .cond (.t 26) C52_5 .skip
theorem u52_6 : VC C52_6.eq_1 := rfl
def C52_7 : ACode := .seq (.reg L52_12) C52_6
theorem u52_7 : VC C52_7.eq_1 := rfl
def C52_8 : ACode := .block 1 C52_7
theorem u52_8 : VC C52_8.eq_1 := rfl
def C52_9 : ACode := .seq C52_8 (.reg L52_15)
theorem u52_9 : VC C52_9.eq_1 := rfl
def C52_10 : ACode := .seq C52_4 C52_9
theorem u52_10 : VC C52_10.eq_1 := rfl
def C52_11 : ACode := .block 0 (.loop C52_10)
theorem u52_11 : VC C52_11.eq_1 := rfl
def C52_12 : ACode := .seq (.reg L52_5) C52_11
theorem u52_12 : VC C52_12.eq_1 := rfl
def C52_13 : ACode := .seq (.reg L52_16) .ret
theorem u52_13 : VC C52_13.eq_1 := rfl
def C52_14 : ACode := .seq C52_12 C52_13
theorem u52_14 : VC C52_14.eq_1 := rfl
def C52_15 : ACode := .seq C52_2 C52_14
theorem u52_15 : VC C52_15.eq_1 := rfl
def C52_16 : ACode := .seq (.reg L52_0) C52_15
theorem u52_16 : VC C52_16.eq_1 := rfl
def F52 : AFunc := ⟨27, [.tmp 4], C52_16⟩
theorem cF52 : compB Try.prog 52 = some F52 := by kernel_rfl
attribute [local go_sem ↓] u52_0 u52_1 u52_2 u52_3 u52_4 u52_5 u52_6 u52_7 u52_8 u52_9 u52_10 u52_11 u52_12 u52_13 u52_14 u52_15 u52_16 v52_0 v52_1 v52_2 v52_3 v52_4 v52_5 v52_6 v52_7 v52_8 v52_9 v52_10 v52_11 v52_12 v52_13 v52_14 v52_15 v52_16
theorem c_eqPairS (l m : List Pair) (v w : AV) (h : H) (hl : SlP h v l) (hm : SlP h w m) (hn : l.length ≤ big) : bm Try.prog 52 [v, w] h = some (ib (decide (l = m)), h) := by
  refine bm_eq cF52 ?_
  by_cases hlen : l.length = m.length
  case neg =>
    have e1 : decide ((l.length : Int) = (m.length : Int)) = false := decide_eq_false (by omega)
    simp +contextual (maxSteps := 2000000) only [go_sem, Nat.reduceEqDiff, reduceCtorEq, Nat.reduceAdd, Nat.reduceLeDiff, F52, hl.len, hm.len, e1]
    rw [ne_len e1]
  have e1 : decide ((l.length : Int) = (m.length : Int)) = true := decide_eq_true (by omega)
  simp +contextual (maxSteps := 2000000) only [go_sem, Nat.reduceEqDiff, reduceCtorEq, Nat.reduceAdd, Nat.reduceLeDiff, F52, hl.len, hm.len, e1]
  refine wpC_loop (fun i T L h' => h' = h ∧ T 0 = .v v ∧ T 1 = .v w ∧ T 5 = .v (.one (.int .i64 i)) ∧ Upto (eqAt l m) i) l.length ?_ ?_ (Nat.zero_le _) ?_
  · rintro i T L h' hi ⟨rfl, t0, t1, t5, hu⟩
    have him : i < m.length := by omega
    have e2 := eqAt_eq hi him
    simp +contextual (maxSteps := 2000000) only [go_sem, Nat.reduceEqDiff, reduceCtorEq, Nat.reduceAdd, Nat.reduceLeDiff, t0, t1, t5, hl.len, hm.len, hl.iaddr hi, hm.iaddr him, hl.whole hi, hm.whole him, c_eqPair, lt_true hi]
    (repeat' (first | refine And.intro ?_ ?_ | intro _)) <;> first | rfl | rw [wrap_next hi (big_lt hn)] | (refine hu.next ?_; rw [e2]; (simp_all; done)) | (rw [ne_at (l := l) (m := m) (i := i)]; rw [e2]; (simp_all; done))
  · rintro T L h' ⟨rfl, t0, t1, t5, hu⟩
    simp +contextual (maxSteps := 2000000) only [go_sem, Nat.reduceEqDiff, reduceCtorEq, Nat.reduceAdd, Nat.reduceLeDiff, t0, t1, t5, hl.len, hm.len, lt_false, decide_eq_true (eq_of_upto hlen hu)]
  · simp +contextual (maxSteps := 2000000) only [go_sem, Nat.reduceEqDiff, reduceCtorEq, Nat.reduceAdd, Nat.reduceLeDiff]
    (repeat' (first | refine And.intro ?_ ?_ | intro _)) <;> first | rfl | exact Upto.zero
/-! laws.eqFlat -/
def L14_0 : List AStep := [⟨.mov (.c (.bool false)), (some 4), none, []⟩]
theorem v14_0 : VS L14_0.eq_1 := rfl
def L14_1 : List AStep := ⟨.box 33 (.t 0), (some 2), none, []⟩ :: ⟨.box 33 (.t 1), (some 3), none, []⟩ :: L14_0
theorem v14_1 : VS L14_1.eq_1 := rfl
def L14_2 : List AStep := [⟨.call 51 [(.t 6), (.t 8)], (some 9), none, []⟩, ⟨.not (.t 9), (some 10), none, []⟩]
theorem v14_2 : VS L14_2.eq_1 := rfl
def L14_3 : List AStep := ⟨.faddr 0 (.t 3), (some 7), none, []⟩ :: ⟨.load 1 false (.t 7), (some 8), none, []⟩ :: L14_2
theorem v14_3 : VS L14_3.eq_1 := rfl
def L14_4 : List AStep := ⟨.faddr 0 (.t 2), (some 5), none, []⟩ :: ⟨.load 1 false (.t 5), (some 6), none, []⟩ :: L14_3
theorem v14_4 : VS L14_4.eq_1 := rfl
def L14_5 : List AStep := [⟨.mov (.c (.bool false)), (some 4), none, []⟩]
theorem v14_5 : VS L14_5.eq_1 := rfl
def L14_6 : List AStep := [⟨.call 52 [(.t 12), (.t 14)], (some 15), none, []⟩, ⟨.not (.t 15), (some 16), none, []⟩]
theorem v14_6 : VS L14_6.eq_1 := rfl
def L14_7 : List AStep := ⟨.faddr 1 (.t 3), (some 13), none, []⟩ :: ⟨.load 1 false (.t 13), (some 14), none, []⟩ :: L14_6
theorem v14_7 : VS L14_7.eq_1 := rfl
def L14_8 : List AStep := ⟨.faddr 1 (.t 2), (some 11), none, []⟩ :: ⟨.load 1 false (.t 11), (some 12), none, []⟩ :: L14_7
theorem v14_8 : VS L14_8.eq_1 := rfl
def L14_9 : List AStep := [⟨.mov (.c (.bool false)), (some 4), none, []⟩]
theorem v14_9 : VS L14_9.eq_1 := rfl
def L14_10 : List AStep := [⟨.mov (.c (.bool true)), (some 4), none, []⟩]
theorem v14_10 : VS L14_10.eq_1 := rfl
def C14_0 : ACode := .seq (.reg L14_5) .ret
theorem u14_0 : VC C14_0.eq_1 := rfl
def C14_1 : ACode := .cond (.t 10) C14_0 .skip
theorem u14_1 : VC C14_1.eq_1 := rfl
def C14_2 : ACode := .seq (.reg L14_4) C14_1
theorem u14_2 : VC C14_2.eq_1 := rfl
def C14_3 : ACode := .seq (.reg L14_9) .ret
theorem u14_3 : VC C14_3.eq_1 := rfl
def C14_4 : ACode := .cond (.t 16) C14_3 .skip
theorem u14_4 : VC C14_4.eq_1 := rfl
def C14_5 : ACode := .seq (.reg L14_8) C14_4
theorem u14_5 : VC C14_5.eq_1 := rfl
def C14_6 : ACode := .seq (.reg L14_10) .ret
theorem u14_6 : VC C14_6.eq_1 := rfl
def C14_7 : ACode := .seq C14_5 C14_6
theorem u14_7 : VC C14_7.eq_1 := rfl
def C14_8 : ACode := .seq C14_2 C14_7
theorem u14_8 : VC C14_8.eq_1 := rfl
def C14_9 : ACode := .seq (.reg L14_1) C14_8
theorem u14_9 : VC C14_9.eq_1 := rfl
def F14 : AFunc := ⟨17, [.tmp 4], C14_9⟩
theorem cF14 : compB Try.prog 14 = some F14 := by kernel_rfl
attribute [local go_sem ↓] u14_0 u14_1 u14_2 u14_3 u14_4 u14_5 u14_6 u14_7 u14_8 u14_9 v14_0 v14_1 v14_2 v14_3 v14_4 v14_5 v14_6 v14_7 v14_8 v14_9 v14_10
theorem c_eqFlat (f g : Flat) (pv nv pw nw : CV) (h : H) (hp : SlI h (.one pv) f.pl) (hq : SlP h (.one nv) f.nl) (kp : SlI h (.one pw) g.pl) (kq : SlP h (.one nw) g.nl) (h1 : f.pl.length ≤ big) (h2 : f.nl.length ≤ big) :
    bm Try.prog 14 [.agg [pv, nv], .agg [pw, nw]] h = some (ib (decide (f = g)), h) := by
  refine bm_eq cF14 ?_
  obtain ⟨fp, fn⟩ := f
  obtain ⟨gp, gn⟩ := g
  simp +contextual (maxSteps := 2000000) only [go_sem, Nat.reduceEqDiff, reduceCtorEq, Nat.reduceAdd, Nat.reduceLeDiff, F14, c_eqIntS _ _ _ _ _ hp kp h1, c_eqPairS _ _ _ _ _ hq kq h2, Flat.mk.injEq]
  try ((repeat' (first | refine And.intro ?_ ?_ | intro _)) <;> first | simp_all)
end Go.Proofs.Ytdalgphpacikkac.Am
