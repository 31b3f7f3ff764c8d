/- Contracts of the laws: comparisons. -/
import Derived.Test.YtoeceafibmafpaaDoorDat
namespace Go.Proofs.YtoeceafibmafpaaDoor.Am
open Go
set_option maxRecDepth 100000
set_option maxHeartbeats 4000000
set_option linter.unusedSimpArgs false
set_option linter.unusedVariables false
attribute [local go_sem ↓] bv_t bv_c ev_t ev_c put_same put_ne put_none kill_at pro_at lb_same lb_ne start_zero start_succ wpC_seq wpC_reg wpC_cond wpC_block wpC_skip wpC_exit wpC_ret thenQ_normal thenQ_exit thenQ_ret inBlk_normal inBlk_exit inBlk_ret wpS_nil wpS_step wpS_again wpS_guard wpO_mov wpO_load wpO_faddr wpO_nilCheck wpO_pick wpO_build wpO_bin wpO_eqb wpO_eqst wpO_eqnil wpO_not wpO_conv wpO_bytesStr wpO_iaddr wpO_idxStr wpO_field wpO_extract wpO_len wpO_lenStr wpO_cap wpO_min wpO_slice wpO_sliceStr wpO_alloc wpO_box wpO_store wpO_call wpO_callv wpO_mkfn wpO_buildSlice wpO_mkslice wpO_append wpO_appz proA_nil proA_cons tmpX_nil tmpX_tmp tmpX_cell doneB_normal doneB_ret agK_cons agK_nil agK_guard agG_tt agG_ff agG_tf agG_ft agG_undef pureB_load results_one results_two results_nil resBs_cons resBs_nil resB_tmp resB_cell
attribute [local go_sem] kill_v kill_lp_ne kill_lp_same pro_v pro_lp_same pro_lp_ne av_v av_lp optB_some optX_some valX_eq ldX_lp ldX_v faX_lp faX_v ncX_lp ncX_ptr ncX_fn boxK_one boxK_agg stL_some stK_lp_one stK_lp_agg stK_v_one stK_v_agg proM_v proM_lp callG_mk callVG_mk callvK_fn fnG_mk ptrsA_nil ptrsA_cons callH_some whenA_true whenA_false guardH_tt guardH_ff guardH_tf guardH_ft guardH_undef agV_one agV_agg lenO_sl lenStrO_str notO_bool pickO_bool convO_int eqbO_bool eqnilO_sl extractO_tup capO_sl minO_int loadL_one loadL_all storeL_eq fillA_nil fillA_one fillA_agg nat_ge neg_ge nat_lt neg_lt buildO bin_add bin_sub bin_mul bin_eql bin_neq bin_lss bin_leq bin_gtr bin_geq str_eql str_neq str_lss str_leq str_gtr str_geq retK_some endK_mk gcK_same gcK_int gcK_bool tupO_one tupO_agg rdy_self ib ii Option.map_none Option.map_some Option.some.injEq exists_eq_left' exists_eq_left ne_eq not_false_eq_true if_true if_false List.map_cons List.map_nil List.getElem?_cons_zero List.getElem?_cons_succ List.length_cons List.length_nil List.take_succ_cons List.take_zero List.take_nil List.drop_succ_cons List.drop_zero List.drop_nil List.cons_append List.nil_append List.append_nil List.set_cons_zero List.set_cons_succ Nat.zero_add forall_const true_and and_true and_self Bool.false_eq_true false_implies true_implies implies_true Bool.not_true Bool.not_false Bool.not_eq_true' Bool.not_eq_false' beq_self_eq_true Bool.bne_true Bool.bne_false
attribute [local go_sem] lenI lenS lenP lenQ lenB lenL lenT encI_0 encS_0 encP_0 encP_1 encQ_0 encQ_1 encQ_2 encQ_3 encB_0 encB_1 encL_0 encL_1 encT_0 encT_1
attribute [local go_sem low] whenA_bool guardH_bool
/-! laws.eqParam -/
def L87_0 : List AStep := [⟨.mov (.c (.bool false)), (some 4), none, []⟩]
theorem v87_0 : VS L87_0.eq_1 := rfl
def L87_1 : List AStep := ⟨.box 83 (.t 0), (some 2), none, []⟩ :: ⟨.box 83 (.t 1), (some 3), none, []⟩ :: L87_0
theorem v87_1 : VS L87_1.eq_1 := rfl
def L87_2 : List AStep := [⟨.bin .neq (.t 6) (.t 8), (some 9), none, []⟩]
theorem v87_2 : VS L87_2.eq_1 := rfl
def L87_3 : List AStep := ⟨.faddr 0 (.t 3), (some 7), none, []⟩ :: ⟨.load 1 false (.t 7), (some 8), none, []⟩ :: L87_2
theorem v87_3 : VS L87_3.eq_1 := rfl
def L87_4 : List AStep := ⟨.faddr 0 (.t 2), (some 5), none, []⟩ :: ⟨.load 1 false (.t 5), (some 6), none, []⟩ :: L87_3
theorem v87_4 : VS L87_4.eq_1 := rfl
def L87_5 : List AStep := [⟨.mov (.c (.bool false)), (some 4), none, []⟩]
theorem v87_5 : VS L87_5.eq_1 := rfl
def L87_6 : List AStep := [⟨.bin .neq (.t 11) (.t 13), (some 14), none, []⟩]
theorem v87_6 : VS L87_6.eq_1 := rfl
def L87_7 : List AStep := ⟨.faddr 1 (.t 3), (some 12), none, []⟩ :: ⟨.load 1 false (.t 12), (some 13), none, []⟩ :: L87_6
theorem v87_7 : VS L87_7.eq_1 := rfl
def L87_8 : List AStep := ⟨.faddr 1 (.t 2), (some 10), none, []⟩ :: ⟨.load 1 false (.t 10), (some 11), none, []⟩ :: L87_7
theorem v87_8 : VS L87_8.eq_1 := rfl
def L87_9 : List AStep := [⟨.mov (.c (.bool false)), (some 4), none, []⟩]
theorem v87_9 : VS L87_9.eq_1 := rfl
def L87_10 : List AStep := [⟨.eqb true (.t 16) (.t 18), (some 19), none, []⟩]
theorem v87_10 : VS L87_10.eq_1 := rfl
def L87_11 : List AStep := ⟨.faddr 2 (.t 3), (some 17), none, []⟩ :: ⟨.load 1 false (.t 17), (some 18), none, []⟩ :: L87_10
theorem v87_11 : VS L87_11.eq_1 := rfl
def L87_12 : List AStep := ⟨.faddr 2 (.t 2), (some 15), none, []⟩ :: ⟨.load 1 false (.t 15), (some 16), none, []⟩ :: L87_11
theorem v87_12 : VS L87_12.eq_1 := rfl
def L87_13 : List AStep := [⟨.mov (.c (.bool false)), (some 4), none, []⟩]
theorem v87_13 : VS L87_13.eq_1 := rfl
def L87_14 : List AStep := [⟨.bin .neq (.t 21) (.t 23), (some 24), none, []⟩]
theorem v87_14 : VS L87_14.eq_1 := rfl
def L87_15 : List AStep := ⟨.faddr 3 (.t 3), (some 22), none, []⟩ :: ⟨.load 1 false (.t 22), (some 23), none, []⟩ :: L87_14
theorem v87_15 : VS L87_15.eq_1 := rfl
def L87_16 : List AStep := ⟨.faddr 3 (.t 2), (some 20), none, []⟩ :: ⟨.load 1 false (.t 20), (some 21), none, []⟩ :: L87_15
theorem v87_16 : VS L87_16.eq_1 := rfl
def L87_17 : List AStep := [⟨.mov (.c (.bool false)), (some 4), none, []⟩]
theorem v87_17 : VS L87_17.eq_1 := rfl
def L87_18 : List AStep := [⟨.mov (.c (.bool true)), (some 4), none, []⟩]
theorem v87_18 : VS L87_18.eq_1 := rfl
def C87_0 : ACode := .seq (.reg L87_5) .ret
theorem u87_0 : VC C87_0.eq_1 := rfl
def C87_1 : ACode := .cond (.t 9) C87_0 .skip
theorem u87_1 : VC C87_1.eq_1 := rfl
def C87_2 : ACode := .seq (.reg L87_4) C87_1
theorem u87_2 : VC C87_2.eq_1 := rfl
def C87_3 : ACode := .seq (.reg L87_9) .ret
theorem u87_3 : VC C87_3.eq_1 := rfl
def C87_4 : ACode := .cond (.t 14) C87_3 .skip
theorem u87_4 : VC C87_4.eq_1 := rfl
def C87_5 : ACode := .seq (.reg L87_8) C87_4
theorem u87_5 : VC C87_5.eq_1 := rfl
def C87_6 : ACode := .seq (.reg L87_13) .ret
theorem u87_6 : VC C87_6.eq_1 := rfl
def C87_7 : ACode := .cond (.t 19) C87_6 .skip
theorem u87_7 : VC C87_7.eq_1 := rfl
def C87_8 : ACode := .seq (.reg L87_12) C87_7
theorem u87_8 : VC C87_8.eq_1 := rfl
def C87_9 : ACode := .seq (.reg L87_17) .ret
theorem u87_9 : VC C87_9.eq_1 := rfl
def C87_10 : ACode := .cond (.t 24) C87_9 .skip
theorem u87_10 : VC C87_10.eq_1 := rfl
def C87_11 : ACode := .seq (.reg L87_16) C87_10
theorem u87_11 : VC C87_11.eq_1 := rfl
def C87_12 : ACode := .seq (.reg L87_18) .ret
theorem u87_12 : VC C87_12.eq_1 := rfl
def C87_13 : ACode := .seq C87_11 C87_12
theorem u87_13 : VC C87_13.eq_1 := rfl
def C87_14 : ACode := .seq C87_8 C87_13
theorem u87_14 : VC C87_14.eq_1 := rfl
def C87_15 : ACode := .seq C87_5 C87_14
theorem u87_15 : VC C87_15.eq_1 := rfl
def C87_16 : ACode := .seq C87_2 C87_15
theorem u87_16 : VC C87_16.eq_1 := rfl
def C87_17 : ACode := .seq (.reg L87_1) C87_16
theorem u87_17 : VC C87_17.eq_1 := rfl
def F87 : AFunc := ⟨25, [.tmp 4], C87_17⟩
theorem cF87 : compB Tryd.prog 87 = some F87 := by kernel_rfl
attribute [local go_sem ↓] u87_0 u87_1 u87_2 u87_3 u87_4 u87_5 u87_6 u87_7 u87_8 u87_9 u87_10 u87_11 u87_12 u87_13 u87_14 u87_15 u87_16 u87_17 v87_0 v87_1 v87_2 v87_3 v87_4 v87_5 v87_6 v87_7 v87_8 v87_9 v87_10 v87_11 v87_12 v87_13 v87_14 v87_15 v87_16 v87_17 v87_18
theorem c_eqParam (p q : Param) (h : H) : bm Tryd.prog 87 [.agg (encQ p), .agg (encQ q)] h = some (ib (decide (p = q)), h) := by
  refine bm_eq cF87 ?_
  obtain ⟨n1, k1, d1, v1⟩ := p
  obtain ⟨n2, k2, d2, v2⟩ := q
  simp +contextual (maxSteps := 2000000) only [go_sem, Nat.reduceEqDiff, reduceCtorEq, Nat.reduceAdd, Nat.reduceLeDiff, F87, Param.mk.injEq]
  try ((repeat' (first | refine And.intro ?_ ?_ | intro _)) <;> first | simp_all)
/-! laws.eqParamS -/
def L51_0 : List AStep := [⟨.mov (.c (.bool false)), (some 4), none, []⟩]
theorem v51_0 : VS L51_0.eq_1 := rfl
def L51_1 : List AStep := [⟨.bin .neq (.t 7) (.t 9), (some 10), none, []⟩]
theorem v51_1 : VS L51_1.eq_1 := rfl
def L51_2 : List AStep := ⟨.mov (.t 1), (some 8), none, []⟩ :: ⟨.len (.t 8), (some 9), none, []⟩ :: L51_1
theorem v51_2 : VS L51_2.eq_1 := rfl
def L51_3 : List AStep := ⟨.mov (.t 0), (some 6), none, []⟩ :: ⟨.len (.t 6), (some 7), none, []⟩ :: L51_2
theorem v51_3 : VS L51_3.eq_1 := rfl
def L51_4 : List AStep := [⟨.mov (.c (.bool false)), (some 4), none, []⟩]
theorem v51_4 : VS L51_4.eq_1 := rfl
def L51_5 : List AStep := [⟨.mov (.c (.int .i64 0)), (some 5), none, []⟩]
theorem v51_5 : VS L51_5.eq_1 := rfl
def L51_6 : List AStep := [⟨.len (.t 12), (some 13), none, []⟩, ⟨.bin .lss (.t 11) (.t 13), (some 14), none, []⟩]
theorem v51_6 : VS L51_6.eq_1 := rfl
def L51_7 : List AStep := ⟨.mov (.t 5), (some 11), none, []⟩ :: ⟨.mov (.t 0), (some 12), none, []⟩ :: L51_6
theorem v51_7 : VS L51_7.eq_1 := rfl
def L51_8 : List AStep := [⟨.call 87 [(.t 20), (.t 24)], (some 25), none, []⟩, ⟨.not (.t 25), (some 26), none, []⟩]
theorem v51_8 : VS L51_8.eq_1 := rfl
def L51_9 : List AStep := ⟨.iaddr 4 (.t 21) (.t 22), (some 23), none, []⟩ :: ⟨.load 4 true (.t 23), (some 24), none, []⟩ :: L51_8
theorem v51_9 : VS L51_9.eq_1 := rfl
def L51_10 : List AStep := ⟨.mov (.t 1), (some 21), none, []⟩ :: ⟨.mov (.t 5), (some 22), none, []⟩ :: L51_9
theorem v51_10 : VS L51_10.eq_1 := rfl
def L51_11 : List AStep := ⟨.iaddr 4 (.t 17) (.t 18), (some 19), none, []⟩ :: ⟨.load 4 true (.t 19), (some 20), none, []⟩ :: L51_10
theorem v51_11 : VS L51_11.eq_1 := rfl
def L51_12 : List AStep := ⟨.mov (.t 0), (some 17), none, []⟩ :: ⟨.mov (.t 5), (some 18), none, []⟩ :: L51_11
theorem v51_12 : VS L51_12.eq_1 := rfl
def L51_13 : List AStep := [⟨.mov (.c (.bool false)), (some 4), none, []⟩]
theorem v51_13 : VS L51_13.eq_1 := rfl
def L51_14 : List AStep := [⟨.mov (.t 16), (some 5), none, []⟩]
theorem v51_14 : VS L51_14.eq_1 := rfl
def L51_15 : List AStep := ⟨.mov (.t 5), (some 15), none, []⟩ :: ⟨.bin .add (.t 15) (.c (.int .i64 1)), (some 16), none, []⟩ :: L51_14
theorem v51_15 : VS L51_15.eq_1 := rfl
def L51_16 : List AStep := [⟨.mov (.c (.bool true)), (some 4), none, []⟩]
theorem v51_16 : VS L51_16.eq_1 := rfl
def C51_0 : ACode := .seq (.reg L51_4) .ret
theorem u51_0 : VC C51_0.eq_1 := rfl
def C51_1 : ACode := .cond (.t 10) C51_0 .skip
theorem u51_1 : VC C51_1.eq_1 := rfl
def C51_2 : ACode := .seq (.reg L51_3) C51_1
theorem u51_2 : VC C51_2.eq_1 := rfl
def C51_3 : ACode := .cond (.t 14) .skip (.exit 0)
theorem u51_3 : VC C51_3.eq_1 := rfl
def C51_4 : ACode := .seq (.reg L51_7) C51_3
theorem u51_4 : VC C51_4.eq_1 := rfl
def C51_5 : ACode := .seq (.reg L51_13) .ret
theorem u51_5 : VC C51_5.eq_1 := rfl
def C51_6 : ACode := .cond (.t 26) C51_5 .skip
theorem u51_6 : VC C51_6.eq_1 := rfl
def C51_7 : ACode := .seq (.reg L51_12) C51_6
theorem u51_7 : VC C51_7.eq_1 := rfl
def C51_8 : ACode := .block 1 C51_7
theorem u51_8 : VC C51_8.eq_1 := rfl
def C51_9 : ACode := .seq C51_8 (.reg L51_15)
theorem u51_9 : VC C51_9.eq_1 := rfl
def C51_10 : ACode := .seq C51_4 C51_9
theorem u51_10 : VC C51_10.eq_1 := rfl
def C51_11 : ACode := .block 0 (.loop C51_10)
theorem u51_11 : VC C51_11.eq_1 := rfl
def C51_12 : ACode := .seq (.reg L51_5) C51_11
theorem u51_12 : VC C51_12.eq_1 := rfl
def C51_13 : ACode := .seq (.reg L51_16) .ret
theorem u51_13 : VC C51_13.eq_1 := rfl
def C51_14 : ACode := .seq C51_12 C51_13
theorem u51_14 : VC C51_14.eq_1 := rfl
def C51_15 : ACode := .seq C51_2 C51_14
theorem u51_15 : VC C51_15.eq_1 := rfl
def C51_16 : ACode := .seq (.reg L51_0) C51_15
theorem u51_16 : VC C51_16.eq_1 := rfl
def F51 : AFunc := ⟨27, [.tmp 4], C51_16⟩
theorem cF51 : compB Tryd.prog 51 = some F51 := by kernel_rfl
attribute [local go_sem ↓] u51_0 u51_1 u51_2 u51_3 u51_4 u51_5 u51_6 u51_7 u51_8 u51_9 u51_10 u51_11 u51_12 u51_13 u51_14 u51_15 u51_16 v51_0 v51_1 v51_2 v51_3 v51_4 v51_5 v51_6 v51_7 v51_8 v51_9 v51_10 v51_11 v51_12 v51_13 v51_14 v51_15 v51_16
theorem c_eqParamS (l m : List Param) (v w : AV) (h : H) (hl : SlQ h v l) (hm : SlQ h w m) (hn : l.length ≤ big) : bm Tryd.prog 51 [v, w] h = some (ib (decide (l = m)), h) := by
  refine bm_eq cF51 ?_
  by_cases hlen : l.length = m.length
  case neg =>
    have e1 : decide ((l.length : Int) = (m.length : Int)) = false := decide_eq_false (by omega)
    simp +contextual (maxSteps := 2000000) only [go_sem, Nat.reduceEqDiff, reduceCtorEq, Nat.reduceAdd, Nat.reduceLeDiff, F51, hl.len, hm.len, e1]
    rw [ne_len e1]
  have e1 : decide ((l.length : Int) = (m.length : Int)) = true := decide_eq_true (by omega)
  simp +contextual (maxSteps := 2000000) only [go_sem, Nat.reduceEqDiff, reduceCtorEq, Nat.reduceAdd, Nat.reduceLeDiff, F51, hl.len, hm.len, e1]
  refine wpC_loop (fun i T L h' => h' = h ∧ T 0 = .v v ∧ T 1 = .v w ∧ T 5 = .v (.one (.int .i64 i)) ∧ Upto (eqAt l m) i) l.length ?_ ?_ (Nat.zero_le _) ?_
  · rintro i T L h' hi ⟨rfl, t0, t1, t5, hu⟩
    have him : i < m.length := by omega
    have e2 := eqAt_eq hi him
    simp +contextual (maxSteps := 2000000) only [go_sem, Nat.reduceEqDiff, reduceCtorEq, Nat.reduceAdd, Nat.reduceLeDiff, t0, t1, t5, hl.len, hm.len, hl.iaddr hi, hm.iaddr him, hl.whole hi, hm.whole him, c_eqParam, lt_true hi]
    (repeat' (first | refine And.intro ?_ ?_ | intro _)) <;> first | rfl | rw [wrap_next hi (big_lt hn)] | (refine hu.next ?_; rw [e2]; (simp_all; done)) | (rw [ne_at (l := l) (m := m) (i := i)]; rw [e2]; (simp_all; done))
  · rintro T L h' ⟨rfl, t0, t1, t5, hu⟩
    simp +contextual (maxSteps := 2000000) only [go_sem, Nat.reduceEqDiff, reduceCtorEq, Nat.reduceAdd, Nat.reduceLeDiff, t0, t1, t5, hl.len, hm.len, lt_false, decide_eq_true (eq_of_upto hlen hu)]
  · simp +contextual (maxSteps := 2000000) only [go_sem, Nat.reduceEqDiff, reduceCtorEq, Nat.reduceAdd, Nat.reduceLeDiff]
    (repeat' (first | refine And.intro ?_ ?_ | intro _)) <;> first | rfl | exact Upto.zero
/-! laws.eqSignature -/
def L18_0 : List AStep := [⟨.mov (.c (.bool false)), (some 4), none, []⟩]
theorem v18_0 : VS L18_0.eq_1 := rfl
def L18_1 : List AStep := ⟨.box 38 (.t 0), (some 2), none, []⟩ :: ⟨.box 38 (.t 1), (some 3), none, []⟩ :: L18_0
theorem v18_1 : VS L18_1.eq_1 := rfl
def L18_2 : List AStep := [⟨.call 51 [(.t 6), (.t 8)], (some 9), none, []⟩, ⟨.not (.t 9), (some 10), none, []⟩]
theorem v18_2 : VS L18_2.eq_1 := rfl
def L18_3 : List AStep := ⟨.faddr 0 (.t 3), (some 7), none, []⟩ :: ⟨.load 1 false (.t 7), (some 8), none, []⟩ :: L18_2
theorem v18_3 : VS L18_3.eq_1 := rfl
def L18_4 : List AStep := ⟨.faddr 0 (.t 2), (some 5), none, []⟩ :: ⟨.load 1 false (.t 5), (some 6), none, []⟩ :: L18_3
theorem v18_4 : VS L18_4.eq_1 := rfl
def L18_5 : List AStep := [⟨.mov (.c (.bool false)), (some 4), none, []⟩]
theorem v18_5 : VS L18_5.eq_1 := rfl
def L18_6 : List AStep := [⟨.mov (.c (.bool true)), (some 4), none, []⟩]
theorem v18_6 : VS L18_6.eq_1 := rfl
def C18_0 : ACode := .seq (.reg L18_5) .ret
theorem u18_0 : VC C18_0.eq_1 := rfl
def C18_1 : ACode := .cond (.t 10) C18_0 .skip
theorem u18_1 : VC C18_1.eq_1 := rfl
def C18_2 : ACode := .seq (.reg L18_4) C18_1
theorem u18_2 : VC C18_2.eq_1 := rfl
def C18_3 : ACode := .seq (.reg L18_6) .ret
theorem u18_3 : VC C18_3.eq_1 := rfl
def C18_4 : ACode := .seq C18_2 C18_3
theorem u18_4 : VC C18_4.eq_1 := rfl
def C18_5 : ACode := .seq (.reg L18_1) C18_4
theorem u18_5 : VC C18_5.eq_1 := rfl
def F18 : AFunc := ⟨11, [.tmp 4], C18_5⟩
theorem cF18 : compB Tryd.prog 18 = some F18 := by kernel_rfl
attribute [local go_sem ↓] u18_0 u18_1 u18_2 u18_3 u18_4 u18_5 v18_0 v18_1 v18_2 v18_3 v18_4 v18_5 v18_6
theorem c_eqSignature (l m : List Param) (v w : CV) (h : H) (hl : SlQ h (.one v) l) (hm : SlQ h (.one w) m) (hn : l.length ≤ big) : bm Tryd.prog 18 [.agg [v], .agg [w]] h = some (ib (decide (l = m)), h) := by
  refine bm_eq cF18 ?_
  simp +contextual (maxSteps := 2000000) only [go_sem, Nat.reduceEqDiff, reduceCtorEq, Nat.reduceAdd, Nat.reduceLeDiff, F18, c_eqParamS _ _ _ _ _ hl hm hn]
  try ((repeat' (first | refine And.intro ?_ ?_ | intro _)) <;> first | simp_all)
end Go.Proofs.YtoeceafibmafpaaDoor.Am
