/- Contracts of the laws: comparisons. -/
import Derived.Test.YtnphlonhogcedaaDat
namespace Go.Proofs.Ytnphlonhogcedaa.Am
open Go
set_option maxRecDepth 100000
set_option maxHeartbeats 4000000
set_option linter.unusedSimpArgs false
set_option linter.unusedVariables false
attribute [local go_sem ↓] bv_t bv_c ev_t ev_c put_same put_ne put_none kill_at pro_at lb_same lb_ne start_zero start_succ wpC_seq wpC_reg wpC_cond wpC_block wpC_skip wpC_exit wpC_ret thenQ_normal thenQ_exit thenQ_ret inBlk_normal inBlk_exit inBlk_ret wpS_nil wpS_step wpS_again wpS_guard wpO_mov wpO_load wpO_faddr wpO_nilCheck wpO_pick wpO_build wpO_bin wpO_eqb wpO_eqst wpO_eqnil wpO_not wpO_conv wpO_bytesStr wpO_iaddr wpO_idxStr wpO_field wpO_extract wpO_len wpO_lenStr wpO_cap wpO_min wpO_slice wpO_sliceStr wpO_alloc wpO_box wpO_store wpO_call wpO_callv wpO_mkfn wpO_buildSlice wpO_mkslice wpO_append wpO_appz proA_nil proA_cons tmpX_nil tmpX_tmp tmpX_cell doneB_normal doneB_ret agK_cons agK_nil agK_guard agG_tt agG_ff agG_tf agG_ft agG_undef pureB_load results_one results_two results_nil resBs_cons resBs_nil resB_tmp resB_cell
attribute [local go_sem] kill_v kill_lp_ne kill_lp_same pro_v pro_lp_same pro_lp_ne av_v av_lp optB_some optX_some valX_eq ldX_lp ldX_v faX_lp faX_v ncX_lp ncX_ptr ncX_fn boxK_one boxK_agg stL_some stK_lp_one stK_lp_agg stK_v_one stK_v_agg proM_v proM_lp callG_mk callVG_mk callvK_fn fnG_mk ptrsA_nil ptrsA_cons callH_some whenA_true whenA_false guardH_tt guardH_ff guardH_tf guardH_ft guardH_undef agV_one agV_agg lenO_sl lenStrO_str notO_bool pickO_bool convO_int eqbO_bool eqnilO_sl extractO_tup capO_sl minO_int loadL_one loadL_all storeL_eq fillA_nil fillA_one fillA_agg nat_ge neg_ge nat_lt neg_lt buildO bin_add bin_sub bin_mul bin_eql bin_neq bin_lss bin_leq bin_gtr bin_geq str_eql str_neq str_lss str_leq str_gtr str_geq retK_some endK_mk gcK_same gcK_int gcK_bool tupO_one tupO_agg rdy_self ib ii Option.map_none Option.map_some Option.some.injEq exists_eq_left' exists_eq_left ne_eq not_false_eq_true if_true if_false List.map_cons List.map_nil List.getElem?_cons_zero List.getElem?_cons_succ List.length_cons List.length_nil List.take_succ_cons List.take_zero List.take_nil List.drop_succ_cons List.drop_zero List.drop_nil List.cons_append List.nil_append List.append_nil List.set_cons_zero List.set_cons_succ Nat.zero_add forall_const true_and and_true and_self Bool.false_eq_true false_implies true_implies implies_true Bool.not_true Bool.not_false Bool.not_eq_true' Bool.not_eq_false' beq_self_eq_true Bool.bne_true Bool.bne_false
attribute [local go_sem] lenI lenS lenP lenQ lenB lenL lenT encI_0 encS_0 encP_0 encP_1 encQ_0 encQ_1 encQ_2 encQ_3 encB_0 encB_1 encL_0 encL_1 encT_0 encT_1
attribute [local go_sem low] whenA_bool guardH_bool
/-! laws.eqPair -/
def L186_0 : List AStep := [⟨.mov (.c (.bool false)), (some 4), none, []⟩]
theorem v186_0 : VS L186_0.eq_1 := rfl
def L186_1 : List AStep := ⟨.box 86 (.t 0), (some 2), none, []⟩ :: ⟨.box 86 (.t 1), (some 3), none, []⟩ :: L186_0
theorem v186_1 : VS L186_1.eq_1 := rfl
def L186_2 : List AStep := [⟨.bin .neq (.t 6) (.t 8), (some 9), none, []⟩]
theorem v186_2 : VS L186_2.eq_1 := rfl
def L186_3 : List AStep := ⟨.faddr 0 (.t 3), (some 7), none, []⟩ :: ⟨.load 1 false (.t 7), (some 8), none, []⟩ :: L186_2
theorem v186_3 : VS L186_3.eq_1 := rfl
def L186_4 : List AStep := ⟨.faddr 0 (.t 2), (some 5), none, []⟩ :: ⟨.load 1 false (.t 5), (some 6), none, []⟩ :: L186_3
theorem v186_4 : VS L186_4.eq_1 := rfl
def L186_5 : List AStep := [⟨.mov (.c (.bool false)), (some 4), none, []⟩]
theorem v186_5 : VS L186_5.eq_1 := rfl
def L186_6 : List AStep := [⟨.bin .neq (.t 11) (.t 13), (some 14), none, []⟩]
theorem v186_6 : VS L186_6.eq_1 := rfl
def L186_7 : List AStep := ⟨.faddr 1 (.t 3), (some 12), none, []⟩ :: ⟨.load 1 false (.t 12), (some 13), none, []⟩ :: L186_6
theorem v186_7 : VS L186_7.eq_1 := rfl
def L186_8 : List AStep := ⟨.faddr 1 (.t 2), (some 10), none, []⟩ :: ⟨.load 1 false (.t 10), (some 11), none, []⟩ :: L186_7
theorem v186_8 : VS L186_8.eq_1 := rfl
def L186_9 : List AStep := [⟨.mov (.c (.bool false)), (some 4), none, []⟩]
theorem v186_9 : VS L186_9.eq_1 := rfl
def L186_10 : List AStep := [⟨.mov (.c (.bool true)), (some 4), none, []⟩]
theorem v186_10 : VS L186_10.eq_1 := rfl
def C186_0 : ACode := .seq (.reg L186_5) .ret
theorem u186_0 : VC C186_0.eq_1 := rfl
def C186_1 : ACode := .cond (.t 9) C186_0 .skip
theorem u186_1 : VC C186_1.eq_1 := rfl
def C186_2 : ACode := .seq (.reg L186_4) C186_1
theorem u186_2 : VC C186_2.eq_1 := rfl
def C186_3 : ACode := .seq (.reg L186_9) .ret
theorem u186_3 : VC C186_3.eq_1 := rfl
def C186_4 : ACode := .cond (.t 14) C186_3 .skip
theorem u186_4 : VC C186_4.eq_1 := rfl
def C186_5 : ACode := .seq (.reg L186_8) C186_4
theorem u186_5 : VC C186_5.eq_1 := rfl
def C186_6 : ACode := .seq (.reg L186_10) .ret
theorem u186_6 : VC C186_6.eq_1 := rfl
def C186_7 : ACode := .seq C186_5 C186_6
theorem u186_7 : VC C186_7.eq_1 := rfl
def C186_8 : ACode := .seq C186_2 C186_7
theorem u186_8 : VC C186_8.eq_1 := rfl
def C186_9 : ACode := .seq (.reg L186_1) C186_8
theorem u186_9 : VC C186_9.eq_1 := rfl
def F186 : AFunc := ⟨15, [.tmp 4], C186_9⟩
theorem cF186 : compB Try.prog 186 = some F186 := by kernel_rfl
attribute [local go_sem ↓] u186_0 u186_1 u186_2 u186_3 u186_4 u186_5 u186_6 u186_7 u186_8 u186_9 v186_0 v186_1 v186_2 v186_3 v186_4 v186_5 v186_6 v186_7 v186_8 v186_9 v186_10
theorem c_eqPair (p q : Pair) (h : H) : bm Try.prog 186 [.agg (encP p), .agg (encP q)] h = some (ib (decide (p = q)), h) := by
  refine bm_eq cF186 ?_
  obtain ⟨n1, k1⟩ := p
  obtain ⟨n2, k2⟩ := q
  simp +contextual (maxSteps := 2000000) only [go_sem, Nat.reduceEqDiff, reduceCtorEq, Nat.reduceAdd, Nat.reduceLeDiff, F186, Pair.mk.injEq]
  try ((repeat' (first | refine And.intro ?_ ?_ | intro _)) <;> first | simp_all)
/-! laws.eqPlace -/
def L198_0 : List AStep := [⟨.mov (.c (.bool false)), (some 4), none, []⟩]
theorem v198_0 : VS L198_0.eq_1 := rfl
def L198_1 : List AStep := ⟨.box 83 (.t 0), (some 2), none, []⟩ :: ⟨.box 83 (.t 1), (some 3), none, []⟩ :: L198_0
theorem v198_1 : VS L198_1.eq_1 := rfl
def L198_2 : List AStep := [⟨.eqb true (.t 6) (.t 8), (some 9), none, []⟩]
theorem v198_2 : VS L198_2.eq_1 := rfl
def L198_3 : List AStep := ⟨.faddr 0 (.t 3), (some 7), none, []⟩ :: ⟨.load 1 false (.t 7), (some 8), none, []⟩ :: L198_2
theorem v198_3 : VS L198_3.eq_1 := rfl
def L198_4 : List AStep := ⟨.faddr 0 (.t 2), (some 5), none, []⟩ :: ⟨.load 1 false (.t 5), (some 6), none, []⟩ :: L198_3
theorem v198_4 : VS L198_4.eq_1 := rfl
def L198_5 : List AStep := [⟨.mov (.c (.bool false)), (some 4), none, []⟩]
theorem v198_5 : VS L198_5.eq_1 := rfl
def L198_6 : List AStep := [⟨.bin .neq (.t 11) (.t 13), (some 14), none, []⟩]
theorem v198_6 : VS L198_6.eq_1 := rfl
def L198_7 : List AStep := ⟨.faddr 1 (.t 3), (some 12), none, []⟩ :: ⟨.load 1 false (.t 12), (some 13), none, []⟩ :: L198_6
theorem v198_7 : VS L198_7.eq_1 := rfl
def L198_8 : List AStep := ⟨.faddr 1 (.t 2), (some 10), none, []⟩ :: ⟨.load 1 false (.t 10), (some 11), none, []⟩ :: L198_7
theorem v198_8 : VS L198_8.eq_1 := rfl
def L198_9 : List AStep := [⟨.mov (.c (.bool false)), (some 4), none, []⟩]
theorem v198_9 : VS L198_9.eq_1 := rfl
def L198_10 : List AStep := [⟨.mov (.c (.bool true)), (some 4), none, []⟩]
theorem v198_10 : VS L198_10.eq_1 := rfl
def C198_0 : ACode := .seq (.reg L198_5) .ret
theorem u198_0 : VC C198_0.eq_1 := rfl
def C198_1 : ACode := .cond (.t 9) C198_0 .skip
theorem u198_1 : VC C198_1.eq_1 := rfl
def C198_2 : ACode := .seq (.reg L198_4) C198_1
theorem u198_2 : VC C198_2.eq_1 := rfl
def C198_3 : ACode := .seq (.reg L198_9) .ret
theorem u198_3 : VC C198_3.eq_1 := rfl
def C198_4 : ACode := .cond (.t 14) C198_3 .skip
theorem u198_4 : VC C198_4.eq_1 := rfl
def C198_5 : ACode := .seq (.reg L198_8) C198_4
theorem u198_5 : VC C198_5.eq_1 := rfl
def C198_6 : ACode := .seq (.reg L198_10) .ret
theorem u198_6 : VC C198_6.eq_1 := rfl
def C198_7 : ACode := .seq C198_5 C198_6
theorem u198_7 : VC C198_7.eq_1 := rfl
def C198_8 : ACode := .seq C198_2 C198_7
theorem u198_8 : VC C198_8.eq_1 := rfl
def C198_9 : ACode := .seq (.reg L198_1) C198_8
theorem u198_9 : VC C198_9.eq_1 := rfl
def F198 : AFunc := ⟨15, [.tmp 4], C198_9⟩
theorem cF198 : compB Try.prog 198 = some F198 := by kernel_rfl
attribute [local go_sem ↓] u198_0 u198_1 u198_2 u198_3 u198_4 u198_5 u198_6 u198_7 u198_8 u198_9 v198_0 v198_1 v198_2 v198_3 v198_4 v198_5 v198_6 v198_7 v198_8 v198_9 v198_10
theorem c_eqPlace (p q : Place) (h : H) : bm Try.prog 198 [.agg (encL p), .agg (encL q)] h = some (ib (decide (p = q)), h) := by
  refine bm_eq cF198 ?_
  obtain ⟨n1, k1⟩ := p
  obtain ⟨n2, k2⟩ := q
  simp +contextual (maxSteps := 2000000) only [go_sem, Nat.reduceEqDiff, reduceCtorEq, Nat.reduceAdd, Nat.reduceLeDiff, F198, Place.mk.injEq]
  try ((repeat' (first | refine And.intro ?_ ?_ | intro _)) <;> first | simp_all)
/-! laws.eqPairS -/
def L111_0 : List AStep := [⟨.mov (.c (.bool false)), (some 4), none, []⟩]
theorem v111_0 : VS L111_0.eq_1 := rfl
def L111_1 : List AStep := [⟨.bin .neq (.t 7) (.t 9), (some 10), none, []⟩]
theorem v111_1 : VS L111_1.eq_1 := rfl
def L111_2 : List AStep := ⟨.mov (.t 1), (some 8), none, []⟩ :: ⟨.len (.t 8), (some 9), none, []⟩ :: L111_1
theorem v111_2 : VS L111_2.eq_1 := rfl
def L111_3 : List AStep := ⟨.mov (.t 0), (some 6), none, []⟩ :: ⟨.len (.t 6), (some 7), none, []⟩ :: L111_2
theorem v111_3 : VS L111_3.eq_1 := rfl
def L111_4 : List AStep := [⟨.mov (.c (.bool false)), (some 4), none, []⟩]
theorem v111_4 : VS L111_4.eq_1 := rfl
def L111_5 : List AStep := [⟨.mov (.c (.int .i64 0)), (some 5), none, []⟩]
theorem v111_5 : VS L111_5.eq_1 := rfl
def L111_6 : List AStep := [⟨.len (.t 12), (some 13), none, []⟩, ⟨.bin .lss (.t 11) (.t 13), (some 14), none, []⟩]
theorem v111_6 : VS L111_6.eq_1 := rfl
def L111_7 : List AStep := ⟨.mov (.t 5), (some 11), none, []⟩ :: ⟨.mov (.t 0), (some 12), none, []⟩ :: L111_6
theorem v111_7 : VS L111_7.eq_1 := rfl
def L111_8 : List AStep := [⟨.call 186 [(.t 20), (.t 24)], (some 25), none, []⟩, ⟨.not (.t 25), (some 26), none, []⟩]
theorem v111_8 : VS L111_8.eq_1 := rfl
def L111_9 : List AStep := ⟨.iaddr 2 (.t 21) (.t 22), (some 23), none, []⟩ :: ⟨.load 2 true (.t 23), (some 24), none, []⟩ :: L111_8
theorem v111_9 : VS L111_9.eq_1 := rfl
def L111_10 : List AStep := ⟨.mov (.t 1), (some 21), none, []⟩ :: ⟨.mov (.t 5), (some 22), none, []⟩ :: L111_9
theorem v111_10 : VS L111_10.eq_1 := rfl
def L111_11 : List AStep := ⟨.iaddr 2 (.t 17) (.t 18), (some 19), none, []⟩ :: ⟨.load 2 true (.t 19), (some 20), none, []⟩ :: L111_10
theorem v111_11 : VS L111_11.eq_1 := rfl
def L111_12 : List AStep := ⟨.mov (.t 0), (some 17), none, []⟩ :: ⟨.mov (.t 5), (some 18), none, []⟩ :: L111_11
theorem v111_12 : VS L111_12.eq_1 := rfl
def L111_13 : List AStep := [⟨.mov (.c (.bool false)), (some 4), none, []⟩]
theorem v111_13 : VS L111_13.eq_1 := rfl
def L111_14 : List AStep := [⟨.mov (.t 16), (some 5), none, []⟩]
theorem v111_14 : VS L111_14.eq_1 := rfl
def L111_15 : List AStep := ⟨.mov (.t 5), (some 15), none, []⟩ :: ⟨.bin .add (.t 15) (.c (.int .i64 1)), (some 16), none, []⟩ :: L111_14
theorem v111_15 : VS L111_15.eq_1 := rfl
def L111_16 : List AStep := [⟨.mov (.c (.bool true)), (some 4), none, []⟩]
theorem v111_16 : VS L111_16.eq_1 := rfl
def C111_0 : ACode := .seq (.reg L111_4) .ret
theorem u111_0 : VC C111_0.eq_1 := rfl
def C111_1 : ACode := .cond (.t 10) C111_0 .skip
theorem u111_1 : VC C111_1.eq_1 := rfl
def C111_2 : ACode := .seq (.reg L111_3) C111_1
theorem u111_2 : VC C111_2.eq_1 := rfl
def C111_3 : ACode := .cond (.t 14) .skip (.exit 0)
theorem u111_3 : VC C111_3.eq_1 := rfl
def C111_4 : ACode := .seq (.reg L111_7) C111_3
theorem u111_4 : VC C111_4.eq_1 := rfl
def C111_5 : ACode := .seq (.reg L111_13) .ret
theorem u111_5 : VC C111_5.eq_1 := rfl
def C111_6 : ACode := .cond (.t 26) C111_5 .skip
theorem u111_6 : VC C111_6.eq_1 := rfl
def C111_7 : ACode := .seq (.reg L111_12) C111_6
theorem u111_7 : VC C111_7.eq_1 := rfl
def C111_8 : ACode := .block 1 C111_7
theorem u111_8 : VC C111_8.eq_1 := rfl
def C111_9 : ACode := .seq C111_8 (.reg L111_15)
theorem u111_9 : VC C111_9.eq_1 := rfl
def C111_10 : ACode := .seq C111_4 C111_9
theorem u111_10 : VC C111_10.eq_1 := rfl
def C111_11 : ACode := .block 0 (.loop C111_10)
theorem u111_11 : VC C111_11.eq_1 := rfl
def C111_12 : ACode := .seq (.reg L111_5) C111_11
theorem u111_12 : VC C111_12.eq_1 := rfl
def C111_13 : ACode := .seq (.reg L111_16) .ret
theorem u111_13 : VC C111_13.eq_1 := rfl
def C111_14 : ACode := .seq C111_12 C111_13
theorem u111_14 : VC C111_14.eq_1 := rfl
def C111_15 : ACode := .seq C111_2 C111_14
theorem u111_15 : VC C111_15.eq_1 := rfl
def C111_16 : ACode := .seq (.reg L111_0) C111_15
theorem u111_16 : VC C111_16.eq_1 := rfl
def F111 : AFunc := ⟨27, [.tmp 4], C111_16⟩
theorem cF111 : compB Try.prog 111 = some F111 := by kernel_rfl
attribute [local go_sem ↓] u111_0 u111_1 u111_2 u111_3 u111_4 u111_5 u111_6 u111_7 u111_8 u111_9 u111_10 u111_11 u111_12 u111_13 u111_14 u111_15 u111_16 v111_0 v111_1 v111_2 v111_3 v111_4 v111_5 v111_6 v111_7 v111_8 v111_9 v111_10 v111_11 v111_12 v111_13 v111_14 v111_15 v111_16
theorem c_eqPairS (l m : List Pair) (v w : AV) (h : H) (hl : SlP h v l) (hm : SlP h w m) (hn : l.length ≤ big) : bm Try.prog 111 [v, w] h = some (ib (decide (l = m)), h) := by
  refine bm_eq cF111 ?_
  by_cases hlen : l.length = m.length
  case neg =>
    have e1 : decide ((l.length : Int) = (m.length : Int)) = false := decide_eq_false (by omega)
    simp +contextual (maxSteps := 2000000) only [go_sem, Nat.reduceEqDiff, reduceCtorEq, Nat.reduceAdd, Nat.reduceLeDiff, F111, hl.len, hm.len, e1]
    rw [ne_len e1]
  have e1 : decide ((l.length : Int) = (m.length : Int)) = true := decide_eq_true (by omega)
  simp +contextual (maxSteps := 2000000) only [go_sem, Nat.reduceEqDiff, reduceCtorEq, Nat.reduceAdd, Nat.reduceLeDiff, F111, hl.len, hm.len, e1]
  refine wpC_loop (fun i T L h' => h' = h ∧ T 0 = .v v ∧ T 1 = .v w ∧ T 5 = .v (.one (.int .i64 i)) ∧ Upto (eqAt l m) i) l.length ?_ ?_ (Nat.zero_le _) ?_
  · rintro i T L h' hi ⟨rfl, t0, t1, t5, hu⟩
    have him : i < m.length := by omega
    have e2 := eqAt_eq hi him
    simp +contextual (maxSteps := 2000000) only [go_sem, Nat.reduceEqDiff, reduceCtorEq, Nat.reduceAdd, Nat.reduceLeDiff, t0, t1, t5, hl.len, hm.len, hl.iaddr hi, hm.iaddr him, hl.whole hi, hm.whole him, c_eqPair, lt_true hi]
    (repeat' (first | refine And.intro ?_ ?_ | intro _)) <;> first | rfl | rw [wrap_next hi (big_lt hn)] | (refine hu.next ?_; rw [e2]; (simp_all; done)) | (rw [ne_at (l := l) (m := m) (i := i)]; rw [e2]; (simp_all; done))
  · rintro T L h' ⟨rfl, t0, t1, t5, hu⟩
    simp +contextual (maxSteps := 2000000) only [go_sem, Nat.reduceEqDiff, reduceCtorEq, Nat.reduceAdd, Nat.reduceLeDiff, t0, t1, t5, hl.len, hm.len, lt_false, decide_eq_true (eq_of_upto hlen hu)]
  · simp +contextual (maxSteps := 2000000) only [go_sem, Nat.reduceEqDiff, reduceCtorEq, Nat.reduceAdd, Nat.reduceLeDiff]
    (repeat' (first | refine And.intro ?_ ?_ | intro _)) <;> first | rfl | exact Upto.zero
/-! laws.eqPlaceS -/
def L132_0 : List AStep := [⟨.mov (.c (.bool false)), (some 4), none, []⟩]
theorem v132_0 : VS L132_0.eq_1 := rfl
def L132_1 : List AStep := [⟨.bin .neq (.t 7) (.t 9), (some 10), none, []⟩]
theorem v132_1 : VS L132_1.eq_1 := rfl
def L132_2 : List AStep := ⟨.mov (.t 1), (some 8), none, []⟩ :: ⟨.len (.t 8), (some 9), none, []⟩ :: L132_1
theorem v132_2 : VS L132_2.eq_1 := rfl
def L132_3 : List AStep := ⟨.mov (.t 0), (some 6), none, []⟩ :: ⟨.len (.t 6), (some 7), none, []⟩ :: L132_2
theorem v132_3 : VS L132_3.eq_1 := rfl
def L132_4 : List AStep := [⟨.mov (.c (.bool false)), (some 4), none, []⟩]
theorem v132_4 : VS L132_4.eq_1 := rfl
def L132_5 : List AStep := [⟨.mov (.c (.int .i64 0)), (some 5), none, []⟩]
theorem v132_5 : VS L132_5.eq_1 := rfl
def L132_6 : List AStep := [⟨.len (.t 12), (some 13), none, []⟩, ⟨.bin .lss (.t 11) (.t 13), (some 14), none, []⟩]
theorem v132_6 : VS L132_6.eq_1 := rfl
def L132_7 : List AStep := ⟨.mov (.t 5), (some 11), none, []⟩ :: ⟨.mov (.t 0), (some 12), none, []⟩ :: L132_6
theorem v132_7 : VS L132_7.eq_1 := rfl
def L132_8 : List AStep := [⟨.call 198 [(.t 20), (.t 24)], (some 25), none, []⟩, ⟨.not (.t 25), (some 26), none, []⟩]
theorem v132_8 : VS L132_8.eq_1 := rfl
def L132_9 : List AStep := ⟨.iaddr 2 (.t 21) (.t 22), (some 23), none, []⟩ :: ⟨.load 2 true (.t 23), (some 24), none, []⟩ :: L132_8
theorem v132_9 : VS L132_9.eq_1 := rfl
def L132_10 : List AStep := ⟨.mov (.t 1), (some 21), none, []⟩ :: ⟨.mov (.t 5), (some 22), none, []⟩ :: L132_9
theorem v132_10 : VS L132_10.eq_1 := rfl
def L132_11 : List AStep := ⟨.iaddr 2 (.t 17) (.t 18), (some 19), none, []⟩ :: ⟨.load 2 true (.t 19), (some 20), none, []⟩ :: L132_10
theorem v132_11 : VS L132_11.eq_1 := rfl
def L132_12 : List AStep := ⟨.mov (.t 0), (some 17), none, []⟩ :: ⟨.mov (.t 5), (some 18), none, []⟩ :: L132_11
theorem v132_12 : VS L132_12.eq_1 := rfl
def L132_13 : List AStep := [⟨.mov (.c (.bool false)), (some 4), none, []⟩]
theorem v132_13 : VS L132_13.eq_1 := rfl
def L132_14 : List AStep := [⟨.mov (.t 16), (some 5), none, []⟩]
theorem v132_14 : VS L132_14.eq_1 := rfl
def L132_15 : List AStep := ⟨.mov (.t 5), (some 15), none, []⟩ :: ⟨.bin .add (.t 15) (.c (.int .i64 1)), (some 16), none, []⟩ :: L132_14
theorem v132_15 : VS L132_15.eq_1 := rfl
def L132_16 : List AStep := [⟨.mov (.c (.bool true)), (some 4), none, []⟩]
theorem v132_16 : VS L132_16.eq_1 := rfl
def C132_0 : ACode := .seq (.reg L132_4) .ret
theorem u132_0 : VC C132_0.eq_1 := rfl
def C132_1 : ACode := .cond (.t 10) C132_0 .skip
theorem u132_1 : VC C132_1.eq_1 := rfl
def C132_2 : ACode := .seq (.reg L132_3) C132_1
theorem u132_2 : VC C132_2.eq_1 := rfl
def C132_3 : ACode := .cond (.t 14) .skip (.exit 0)
theorem u132_3 : VC C132_3.eq_1 := rfl
def C132_4 : ACode := .seq (.reg L132_7) C132_3
theorem u132_4 : VC C132_4.eq_1 := rfl
def C132_5 : ACode := .seq (.reg L132_13) .ret
theorem u132_5 : VC C132_5.eq_1 := rfl
def C132_6 : ACode := .cond (.t 26) C132_5 .skip
theorem u132_6 : VC C132_6.eq_1 := rfl
def C132_7 : ACode := .seq (.reg L132_12) C132_6
theorem u132_7 : VC C132_7.eq_1 := rfl
def C132_8 : ACode := .block 1 C132_7
theorem u132_8 : VC C132_8.eq_1 := rfl
def C132_9 : ACode := .seq C132_8 (.reg L132_15)
theorem u132_9 : VC C132_9.eq_1 := rfl
def C132_10 : ACode := .seq C132_4 C132_9
theorem u132_10 : VC C132_10.eq_1 := rfl
def C132_11 : ACode := .block 0 (.loop C132_10)
theorem u132_11 : VC C132_11.eq_1 := rfl
def C132_12 : ACode := .seq (.reg L132_5) C132_11
theorem u132_12 : VC C132_12.eq_1 := rfl
def C132_13 : ACode := .seq (.reg L132_16) .ret
theorem u132_13 : VC C132_13.eq_1 := rfl
def C132_14 : ACode := .seq C132_12 C132_13
theorem u132_14 : VC C132_14.eq_1 := rfl
def C132_15 : ACode := .seq C132_2 C132_14
theorem u132_15 : VC C132_15.eq_1 := rfl
def C132_16 : ACode := .seq (.reg L132_0) C132_15
theorem u132_16 : VC C132_16.eq_1 := rfl
def F132 : AFunc := ⟨27, [.tmp 4], C132_16⟩
theorem cF132 : compB Try.prog 132 = some F132 := by kernel_rfl
attribute [local go_sem ↓] u132_0 u132_1 u132_2 u132_3 u132_4 u132_5 u132_6 u132_7 u132_8 u132_9 u132_10 u132_11 u132_12 u132_13 u132_14 u132_15 u132_16 v132_0 v132_1 v132_2 v132_3 v132_4 v132_5 v132_6 v132_7 v132_8 v132_9 v132_10 v132_11 v132_12 v132_13 v132_14 v132_15 v132_16
theorem c_eqPlaceS (l m : List Place) (v w : AV) (h : H) (hl : SlL h v l) (hm : SlL h w m) (hn : l.length ≤ big) : bm Try.prog 132 [v, w] h = some (ib (decide (l = m)), h) := by
  refine bm_eq cF132 ?_
  by_cases hlen : l.length = m.length
  case neg =>
    have e1 : decide ((l.length : Int) = (m.length : Int)) = false := decide_eq_false (by omega)
    simp +contextual (maxSteps := 2000000) only [go_sem, Nat.reduceEqDiff, reduceCtorEq, Nat.reduceAdd, Nat.reduceLeDiff, F132, hl.len, hm.len, e1]
    rw [ne_len e1]
  have e1 : decide ((l.length : Int) = (m.length : Int)) = true := decide_eq_true (by omega)
  simp +contextual (maxSteps := 2000000) only [go_sem, Nat.reduceEqDiff, reduceCtorEq, Nat.reduceAdd, Nat.reduceLeDiff, F132, hl.len, hm.len, e1]
  refine wpC_loop (fun i T L h' => h' = h ∧ T 0 = .v v ∧ T 1 = .v w ∧ T 5 = .v (.one (.int .i64 i)) ∧ Upto (eqAt l m) i) l.length ?_ ?_ (Nat.zero_le _) ?_
  · rintro i T L h' hi ⟨rfl, t0, t1, t5, hu⟩
    have him : i < m.length := by omega
    have e2 := eqAt_eq hi him
    simp +contextual (maxSteps := 2000000) only [go_sem, Nat.reduceEqDiff, reduceCtorEq, Nat.reduceAdd, Nat.reduceLeDiff, t0, t1, t5, hl.len, hm.len, hl.iaddr hi, hm.iaddr him, hl.whole hi, hm.whole him, c_eqPlace, lt_true hi]
    (repeat' (first | refine And.intro ?_ ?_ | intro _)) <;> first | rfl | rw [wrap_next hi (big_lt hn)] | (refine hu.next ?_; rw [e2]; (simp_all; done)) | (rw [ne_at (l := l) (m := m) (i := i)]; rw [e2]; (simp_all; done))
  · rintro T L h' ⟨rfl, t0, t1, t5, hu⟩
    simp +contextual (maxSteps := 2000000) only [go_sem, Nat.reduceEqDiff, reduceCtorEq, Nat.reduceAdd, Nat.reduceLeDiff, t0, t1, t5, hl.len, hm.len, lt_false, decide_eq_true (eq_of_upto hlen hu)]
  · simp +contextual (maxSteps := 2000000) only [go_sem, Nat.reduceEqDiff, reduceCtorEq, Nat.reduceAdd, Nat.reduceLeDiff]
    (repeat' (first | refine And.intro ?_ ?_ | intro _)) <;> first | rfl | exact Upto.zero
/-! laws.eqHoles -/
def L57_0 : List AStep := [⟨.mov (.c (.bool false)), (some 4), none, []⟩]
theorem v57_0 : VS L57_0.eq_1 := rfl
def L57_1 : List AStep := ⟨.box 41 (.t 0), (some 2), none, []⟩ :: ⟨.box 41 (.t 1), (some 3), none, []⟩ :: L57_0
theorem v57_1 : VS L57_1.eq_1 := rfl
def L57_2 : List AStep := [⟨.call 132 [(.t 6), (.t 8)], (some 9), none, []⟩, ⟨.not (.t 9), (some 10), none, []⟩]
theorem v57_2 : VS L57_2.eq_1 := rfl
def L57_3 : List AStep := ⟨.faddr 0 (.t 3), (some 7), none, []⟩ :: ⟨.load 1 false (.t 7), (some 8), none, []⟩ :: L57_2
theorem v57_3 : VS L57_3.eq_1 := rfl
def L57_4 : List AStep := ⟨.faddr 0 (.t 2), (some 5), none, []⟩ :: ⟨.load 1 false (.t 5), (some 6), none, []⟩ :: L57_3
theorem v57_4 : VS L57_4.eq_1 := rfl
def L57_5 : List AStep := [⟨.mov (.c (.bool false)), (some 4), none, []⟩]
theorem v57_5 : VS L57_5.eq_1 := rfl
def L57_6 : List AStep := [⟨.call 111 [(.t 12), (.t 14)], (some 15), none, []⟩, ⟨.not (.t 15), (some 16), none, []⟩]
theorem v57_6 : VS L57_6.eq_1 := rfl
def L57_7 : List AStep := ⟨.faddr 1 (.t 3), (some 13), none, []⟩ :: ⟨.load 1 false (.t 13), (some 14), none, []⟩ :: L57_6
theorem v57_7 : VS L57_7.eq_1 := rfl
def L57_8 : List AStep := ⟨.faddr 1 (.t 2), (some 11), none, []⟩ :: ⟨.load 1 false (.t 11), (some 12), none, []⟩ :: L57_7
theorem v57_8 : VS L57_8.eq_1 := rfl
def L57_9 : List AStep := [⟨.mov (.c (.bool false)), (some 4), none, []⟩]
theorem v57_9 : VS L57_9.eq_1 := rfl
def L57_10 : List AStep := [⟨.mov (.c (.bool true)), (some 4), none, []⟩]
theorem v57_10 : VS L57_10.eq_1 := rfl
def C57_0 : ACode := .seq (.reg L57_5) .ret
theorem u57_0 : VC C57_0.eq_1 := rfl
def C57_1 : ACode := .cond (.t 10) C57_0 .skip
theorem u57_1 : VC C57_1.eq_1 := rfl
def C57_2 : ACode := .seq (.reg L57_4) C57_1
theorem u57_2 : VC C57_2.eq_1 := rfl
def C57_3 : ACode := .seq (.reg L57_9) .ret
theorem u57_3 : VC C57_3.eq_1 := rfl
def C57_4 : ACode := .cond (.t 16) C57_3 .skip
theorem u57_4 : VC C57_4.eq_1 := rfl
def C57_5 : ACode := .seq (.reg L57_8) C57_4
theorem u57_5 : VC C57_5.eq_1 := rfl
def C57_6 : ACode := .seq (.reg L57_10) .ret
theorem u57_6 : VC C57_6.eq_1 := rfl
def C57_7 : ACode := .seq C57_5 C57_6
theorem u57_7 : VC C57_7.eq_1 := rfl
def C57_8 : ACode := .seq C57_2 C57_7
theorem u57_8 : VC C57_8.eq_1 := rfl
def C57_9 : ACode := .seq (.reg L57_1) C57_8
theorem u57_9 : VC C57_9.eq_1 := rfl
def F57 : AFunc := ⟨17, [.tmp 4], C57_9⟩
theorem cF57 : compB Try.prog 57 = some F57 := by kernel_rfl
attribute [local go_sem ↓] u57_0 u57_1 u57_2 u57_3 u57_4 u57_5 u57_6 u57_7 u57_8 u57_9 v57_0 v57_1 v57_2 v57_3 v57_4 v57_5 v57_6 v57_7 v57_8 v57_9 v57_10
theorem c_eqHoles (f g : Holes) (pv nv pw nw : CV) (h : H) (hp : SlL h (.one pv) f.pl) (hq : SlP h (.one nv) f.nl) (kp : SlL h (.one pw) g.pl) (kq : SlP h (.one nw) g.nl) (h1 : f.pl.length ≤ big) (h2 : f.nl.length ≤ big) :
    bm Try.prog 57 [.agg [pv, nv], .agg [pw, nw]] h = some (ib (decide (f = g)), h) := by
  refine bm_eq cF57 ?_
  obtain ⟨fp, fn⟩ := f
  obtain ⟨gp, gn⟩ := g
  simp +contextual (maxSteps := 2000000) only [go_sem, Nat.reduceEqDiff, reduceCtorEq, Nat.reduceAdd, Nat.reduceLeDiff, F57, c_eqPlaceS _ _ _ _ _ hp kp h1, c_eqPairS _ _ _ _ _ hq kq h2, Holes.mk.injEq]
  try ((repeat' (first | refine And.intro ?_ ?_ | intro _)) <;> first | simp_all)
end Go.Proofs.Ytnphlonhogcedaa.Am
