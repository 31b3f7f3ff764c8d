/- Contracts of the laws: comparisons. -/
import Derived.Test.YtdalgphpacikkacDat
namespace Go.Proofs.Ytdalgphpacikkac.Am
open Go
set_option maxRecDepth 100000
set_option maxHeartbeats 4000000
set_option linter.unusedSimpArgs false
set_option linter.unusedVariables false
attribute [local go_sem ↓] bv_t bv_c ev_t ev_c put_same put_ne put_none kill_at pro_at lb_same lb_ne start_zero start_succ wpC_seq wpC_reg wpC_cond wpC_block wpC_skip wpC_exit wpC_ret thenQ_normal thenQ_exit thenQ_ret inBlk_normal inBlk_exit inBlk_ret wpS_nil wpS_step wpS_again wpS_guard wpO_mov wpO_load wpO_faddr wpO_nilCheck wpO_pick wpO_build wpO_bin wpO_eqb wpO_eqst wpO_eqnil wpO_not wpO_conv wpO_bytesStr wpO_iaddr wpO_idxStr wpO_field wpO_extract wpO_len wpO_lenStr wpO_cap wpO_min wpO_slice wpO_sliceStr wpO_alloc wpO_box wpO_store wpO_call wpO_callv wpO_mkfn wpO_buildSlice wpO_mkslice wpO_append wpO_appz proA_nil proA_cons tmpX_nil tmpX_tmp tmpX_cell doneB_normal doneB_ret agK_cons agK_nil agK_guard agG_tt agG_ff agG_tf agG_ft agG_undef pureB_load results_one results_two results_nil resBs_cons resBs_nil resB_tmp resB_cell
attribute [local go_sem] kill_v kill_lp_ne kill_lp_same pro_v pro_lp_same pro_lp_ne av_v av_lp optB_some optX_some valX_eq ldX_lp ldX_v faX_lp faX_v ncX_lp ncX_ptr ncX_fn boxK_one boxK_agg stL_some stK_lp_one stK_lp_agg stK_v_one stK_v_agg proM_v proM_lp callG_mk callVG_mk callvK_fn fnG_mk ptrsA_nil ptrsA_cons callH_some whenA_true whenA_false guardH_tt guardH_ff guardH_tf guardH_ft guardH_undef agV_one agV_agg lenO_sl lenStrO_str notO_bool pickO_bool convO_int eqbO_bool eqnilO_sl extractO_tup capO_sl minO_int loadL_one loadL_all storeL_eq fillA_nil fillA_one fillA_agg nat_ge neg_ge nat_lt neg_lt buildO bin_add bin_sub bin_mul bin_eql bin_neq bin_lss bin_leq bin_gtr bin_geq str_eql str_neq str_lss str_leq str_gtr str_geq retK_some endK_mk gcK_same gcK_int gcK_bool tupO_one tupO_agg rdy_self ib ii Option.map_none Option.map_some Option.some.injEq exists_eq_left' exists_eq_left ne_eq not_false_eq_true if_true if_false List.map_cons List.map_nil List.getElem?_cons_zero List.getElem?_cons_succ List.length_cons List.length_nil List.take_succ_cons List.take_zero List.take_nil List.drop_succ_cons List.drop_zero List.drop_nil List.cons_append List.nil_append List.append_nil List.set_cons_zero List.set_cons_succ Nat.zero_add forall_const true_and and_true and_self Bool.false_eq_true false_implies true_implies implies_true Bool.not_true Bool.not_false Bool.not_eq_true' Bool.not_eq_false' beq_self_eq_true Bool.bne_true Bool.bne_false
attribute [local go_sem] lenI lenS lenP lenQ lenB lenL lenT encI_0 encS_0 encP_0 encP_1 encQ_0 encQ_1 encQ_2 encQ_3 encB_0 encB_1 encL_0 encL_1 encT_0 encT_1
attribute [local go_sem low] whenA_bool guardH_bool
/-! laws.eqParam -/
def L121_0 : List AStep := [⟨.mov (.c (.bool false)), (some 4), none, []⟩]
theorem v121_0 : VS L121_0.eq_1 := rfl
def L121_1 : List AStep := ⟨.box 155 (.t 0), (some 2), none, []⟩ :: ⟨.box 155 (.t 1), (some 3), none, []⟩ :: L121_0
theorem v121_1 : VS L121_1.eq_1 := rfl
def L121_2 : List AStep := [⟨.bin .neq (.t 6) (.t 8), (some 9), none, []⟩]
theorem v121_2 : VS L121_2.eq_1 := rfl
def L121_3 : List AStep := ⟨.faddr 0 (.t 3), (some 7), none, []⟩ :: ⟨.load 1 false (.t 7), (some 8), none, []⟩ :: L121_2
theorem v121_3 : VS L121_3.eq_1 := rfl
def L121_4 : List AStep := ⟨.faddr 0 (.t 2), (some 5), none, []⟩ :: ⟨.load 1 false (.t 5), (some 6), none, []⟩ :: L121_3
theorem v121_4 : VS L121_4.eq_1 := rfl
def L121_5 : List AStep := [⟨.mov (.c (.bool false)), (some 4), none, []⟩]
theorem v121_5 : VS L121_5.eq_1 := rfl
def L121_6 : List AStep := [⟨.bin .neq (.t 11) (.t 13), (some 14), none, []⟩]
theorem v121_6 : VS L121_6.eq_1 := rfl
def L121_7 : List AStep := ⟨.faddr 1 (.t 3), (some 12), none, []⟩ :: ⟨.load 1 false (.t 12), (some 13), none, []⟩ :: L121_6
theorem v121_7 : VS L121_7.eq_1 := rfl
def L121_8 : List AStep := ⟨.faddr 1 (.t 2), (some 10), none, []⟩ :: ⟨.load 1 false (.t 10), (some 11), none, []⟩ :: L121_7
theorem v121_8 : VS L121_8.eq_1 := rfl
def L121_9 : List AStep := [⟨.mov (.c (.bool false)), (some 4), none, []⟩]
theorem v121_9 : VS L121_9.eq_1 := rfl
def L121_10 : List AStep := [⟨.eqb true (.t 16) (.t 18), (some 19), none, []⟩]
theorem v121_10 : VS L121_10.eq_1 := rfl
def L121_11 : List AStep := ⟨.faddr 2 (.t 3), (some 17), none, []⟩ :: ⟨.load 1 false (.t 17), (some 18), none, []⟩ :: L121_10
theorem v121_11 : VS L121_11.eq_1 := rfl
def L121_12 : List AStep := ⟨.faddr 2 (.t 2), (some 15), none, []⟩ :: ⟨.load 1 false (.t 15), (some 16), none, []⟩ :: L121_11
theorem v121_12 : VS L121_12.eq_1 := rfl
def L121_13 : List AStep := [⟨.mov (.c (.bool false)), (some 4), none, []⟩]
theorem v121_13 : VS L121_13.eq_1 := rfl
def L121_14 : List AStep := [⟨.bin .neq (.t 21) (.t 23), (some 24), none, []⟩]
theorem v121_14 : VS L121_14.eq_1 := rfl
def L121_15 : List AStep := ⟨.faddr 3 (.t 3), (some 22), none, []⟩ :: ⟨.load 1 false (.t 22), (some 23), none, []⟩ :: L121_14
theorem v121_15 : VS L121_15.eq_1 := rfl
def L121_16 : List AStep := ⟨.faddr 3 (.t 2), (some 20), none, []⟩ :: ⟨.load 1 false (.t 20), (some 21), none, []⟩ :: L121_15
theorem v121_16 : VS L121_16.eq_1 := rfl
def L121_17 : List AStep := [⟨.mov (.c (.bool false)), (some 4), none, []⟩]
theorem v121_17 : VS L121_17.eq_1 := rfl
def L121_18 : List AStep := [⟨.mov (.c (.bool true)), (some 4), none, []⟩]
theorem v121_18 : VS L121_18.eq_1 := rfl
def C121_0 : ACode := .seq (.reg L121_5) .ret
theorem u121_0 : VC C121_0.eq_1 := rfl
def C121_1 : ACode := .cond (.t 9) C121_0 .skip
theorem u121_1 : VC C121_1.eq_1 := rfl
def C121_2 : ACode := .seq (.reg L121_4) C121_1
theorem u121_2 : VC C121_2.eq_1 := rfl
def C121_3 : ACode := .seq (.reg L121_9) .ret
theorem u121_3 : VC C121_3.eq_1 := rfl
def C121_4 : ACode := .cond (.t 14) C121_3 .skip
theorem u121_4 : VC C121_4.eq_1 := rfl
def C121_5 : ACode := .seq (.reg L121_8) C121_4
theorem u121_5 : VC C121_5.eq_1 := rfl
def C121_6 : ACode := .seq (.reg L121_13) .ret
theorem u121_6 : VC C121_6.eq_1 := rfl
def C121_7 : ACode := .cond (.t 19) C121_6 .skip
theorem u121_7 : VC C121_7.eq_1 := rfl
def C121_8 : ACode := .seq (.reg L121_12) C121_7
theorem u121_8 : VC C121_8.eq_1 := rfl
def C121_9 : ACode := .seq (.reg L121_17) .ret
theorem u121_9 : VC C121_9.eq_1 := rfl
def C121_10 : ACode := .cond (.t 24) C121_9 .skip
theorem u121_10 : VC C121_10.eq_1 := rfl
def C121_11 : ACode := .seq (.reg L121_16) C121_10
theorem u121_11 : VC C121_11.eq_1 := rfl
def C121_12 : ACode := .seq (.reg L121_18) .ret
theorem u121_12 : VC C121_12.eq_1 := rfl
def C121_13 : ACode := .seq C121_11 C121_12
theorem u121_13 : VC C121_13.eq_1 := rfl
def C121_14 : ACode := .seq C121_8 C121_13
theorem u121_14 : VC C121_14.eq_1 := rfl
def C121_15 : ACode := .seq C121_5 C121_14
theorem u121_15 : VC C121_15.eq_1 := rfl
def C121_16 : ACode := .seq C121_2 C121_15
theorem u121_16 : VC C121_16.eq_1 := rfl
def C121_17 : ACode := .seq (.reg L121_1) C121_16
theorem u121_17 : VC C121_17.eq_1 := rfl
def F121 : AFunc := ⟨25, [.tmp 4], C121_17⟩
theorem cF121 : compB Try.prog 121 = some F121 := by kernel_rfl
attribute [local go_sem ↓] u121_0 u121_1 u121_2 u121_3 u121_4 u121_5 u121_6 u121_7 u121_8 u121_9 u121_10 u121_11 u121_12 u121_13 u121_14 u121_15 u121_16 u121_17 v121_0 v121_1 v121_2 v121_3 v121_4 v121_5 v121_6 v121_7 v121_8 v121_9 v121_10 v121_11 v121_12 v121_13 v121_14 v121_15 v121_16 v121_17 v121_18
theorem c_eqParam (p q : Param) (h : H) : bm Try.prog 121 [.agg (encQ p), .agg (encQ q)] h = some (ib (decide (p = q)), h) := by
  refine bm_eq cF121 ?_
  obtain ⟨n1, k1, d1, v1⟩ := p
  obtain ⟨n2, k2, d2, v2⟩ := q
  simp +contextual (maxSteps := 2000000) only [go_sem, Nat.reduceEqDiff, reduceCtorEq, Nat.reduceAdd, Nat.reduceLeDiff, F121, Param.mk.injEq]
  try ((repeat' (first | refine And.intro ?_ ?_ | intro _)) <;> first | simp_all)
/-! laws.eqStringS -/
def L79_0 : List AStep := [⟨.mov (.c (.bool false)), (some 4), none, []⟩]
theorem v79_0 : VS L79_0.eq_1 := rfl
def L79_1 : List AStep := [⟨.bin .neq (.t 7) (.t 9), (some 10), none, []⟩]
theorem v79_1 : VS L79_1.eq_1 := rfl
def L79_2 : List AStep := ⟨.mov (.t 1), (some 8), none, []⟩ :: ⟨.len (.t 8), (some 9), none, []⟩ :: L79_1
theorem v79_2 : VS L79_2.eq_1 := rfl
def L79_3 : List AStep := ⟨.mov (.t 0), (some 6), none, []⟩ :: ⟨.len (.t 6), (some 7), none, []⟩ :: L79_2
theorem v79_3 : VS L79_3.eq_1 := rfl
def L79_4 : List AStep := [⟨.mov (.c (.bool false)), (some 4), none, []⟩]
theorem v79_4 : VS L79_4.eq_1 := rfl
def L79_5 : List AStep := [⟨.mov (.c (.int .i64 0)), (some 5), none, []⟩]
theorem v79_5 : VS L79_5.eq_1 := rfl
def L79_6 : List AStep := [⟨.len (.t 12), (some 13), none, []⟩, ⟨.bin .lss (.t 11) (.t 13), (some 14), none, []⟩]
theorem v79_6 : VS L79_6.eq_1 := rfl
def L79_7 : List AStep := ⟨.mov (.t 5), (some 11), none, []⟩ :: ⟨.mov (.t 0), (some 12), none, []⟩ :: L79_6
theorem v79_7 : VS L79_7.eq_1 := rfl
def L79_8 : List AStep := [⟨.bin .neq (.t 20) (.t 24), (some 25), none, []⟩]
theorem v79_8 : VS L79_8.eq_1 := rfl
def L79_9 : List AStep := ⟨.iaddr 1 (.t 21) (.t 22), (some 23), none, []⟩ :: ⟨.load 1 false (.t 23), (some 24), none, []⟩ :: L79_8
theorem v79_9 : VS L79_9.eq_1 := rfl
def L79_10 : List AStep := ⟨.mov (.t 1), (some 21), none, []⟩ :: ⟨.mov (.t 5), (some 22), none, []⟩ :: L79_9
theorem v79_10 : VS L79_10.eq_1 := rfl
def L79_11 : List AStep := ⟨.iaddr 1 (.t 17) (.t 18), (some 19), none, []⟩ :: ⟨.load 1 false (.t 19), (some 20), none, []⟩ :: L79_10
theorem v79_11 : VS L79_11.eq_1 := rfl
def L79_12 : List AStep := ⟨.mov (.t 0), (some 17), none, []⟩ :: ⟨.mov (.t 5), (some 18), none, []⟩ :: L79_11
theorem v79_12 : VS L79_12.eq_1 := rfl
def L79_13 : List AStep := [⟨.mov (.c (.bool false)), (some 4), none, []⟩]
theorem v79_13 : VS L79_13.eq_1 := rfl
def L79_14 : List AStep := [⟨.mov (.t 16), (some 5), none, []⟩]
theorem v79_14 : VS L79_14.eq_1 := rfl
def L79_15 : List AStep := ⟨.mov (.t 5), (some 15), none, []⟩ :: ⟨.bin .add (.t 15) (.c (.int .i64 1)), (some 16), none, []⟩ :: L79_14
theorem v79_15 : VS L79_15.eq_1 := rfl
def L79_16 : List AStep := [⟨.mov (.c (.bool true)), (some 4), none, []⟩]
theorem v79_16 : VS L79_16.eq_1 := rfl
def C79_0 : ACode := .seq (.reg L79_4) .ret
theorem u79_0 : VC C79_0.eq_1 := rfl
def C79_1 : ACode := .cond (.t 10) C79_0 .skip
theorem u79_1 : VC C79_1.eq_1 := rfl
def C79_2 : ACode := .seq (.reg L79_3) C79_1
theorem u79_2 : VC C79_2.eq_1 := rfl
def C79_3 : ACode := .cond (.t 14) .skip (.exit 0)
theorem u79_3 : VC C79_3.eq_1 := rfl
def C79_4 : ACode := .seq (.reg L79_7) C79_3
theorem u79_4 : VC C79_4.eq_1 := rfl
def C79_5 : ACode := .seq (.reg L79_13) .ret
theorem u79_5 : VC C79_5.eq_1 := rfl
def C79_6 : ACode := .cond (.t 25) C79_5 .skip
theorem u79_6 : VC C79_6.eq_1 := rfl
def C79_7 : ACode := .seq (.reg L79_12) C79_6
theorem u79_7 : VC C79_7.eq_1 := rfl
def C79_8 : ACode := .block 1 C79_7
theorem u79_8 : VC C79_8.eq_1 := rfl
def C79_9 : ACode := .seq C79_8 (.reg L79_15)
theorem u79_9 : VC C79_9.eq_1 := rfl
def C79_10 : ACode := .seq C79_4 C79_9
theorem u79_10 : VC C79_10.eq_1 := rfl
def C79_11 : ACode := .block 0 (.loop C79_10)
theorem u79_11 : VC C79_11.eq_1 := rfl
def C79_12 : ACode := .seq (.reg L79_5) C79_11
theorem u79_12 : VC C79_12.eq_1 := rfl
def C79_13 : ACode := .seq (.reg L79_16) .ret
theorem u79_13 : VC C79_13.eq_1 := rfl
def C79_14 : ACode := .seq C79_12 C79_13
theorem u79_14 : VC C79_14.eq_1 := rfl
def C79_15 : ACode := .seq C79_2 C79_14
theorem u79_15 : VC C79_15.eq_1 := rfl
def C79_16 : ACode := .seq (.reg L79_0) C79_15
theorem u79_16 : VC C79_16.eq_1 := rfl
def F79 : AFunc := ⟨26, [.tmp 4], C79_16⟩
theorem cF79 : compB Try.prog 79 = some F79 := by kernel_rfl
attribute [local go_sem ↓] u79_0 u79_1 u79_2 u79_3 u79_4 u79_5 u79_6 u79_7 u79_8 u79_9 u79_10 u79_11 u79_12 u79_13 u79_14 u79_15 u79_16 v79_0 v79_1 v79_2 v79_3 v79_4 v79_5 v79_6 v79_7 v79_8 v79_9 v79_10 v79_11 v79_12 v79_13 v79_14 v79_15 v79_16
theorem c_eqStringS (l m : List ByteArray) (v w : AV) (h : H) (hl : SlS h v l) (hm : SlS h w m) (hn : l.length ≤ big) : bm Try.prog 79 [v, w] h = some (ib (decide (l = m)), h) := by
  refine bm_eq cF79 ?_
  by_cases hlen : l.length = m.length
  case neg =>
    have e1 : decide ((l.length : Int) = (m.length : Int)) = false := decide_eq_false (by omega)
    simp +contextual (maxSteps := 2000000) only [go_sem, Nat.reduceEqDiff, reduceCtorEq, Nat.reduceAdd, Nat.reduceLeDiff, F79, hl.len, hm.len, e1]
    rw [ne_len e1]
  have e1 : decide ((l.length : Int) = (m.length : Int)) = true := decide_eq_true (by omega)
  simp +contextual (maxSteps := 2000000) only [go_sem, Nat.reduceEqDiff, reduceCtorEq, Nat.reduceAdd, Nat.reduceLeDiff, F79, hl.len, hm.len, e1]
  refine wpC_loop (fun i T L h' => h' = h ∧ T 0 = .v v ∧ T 1 = .v w ∧ T 5 = .v (.one (.int .i64 i)) ∧ Upto (eqAt l m) i) l.length ?_ ?_ (Nat.zero_le _) ?_
  · rintro i T L h' hi ⟨rfl, t0, t1, t5, hu⟩
    have him : i < m.length := by omega
    have e2 := eqAt_eq hi him
    simp +contextual (maxSteps := 2000000) only [go_sem, Nat.reduceEqDiff, reduceCtorEq, Nat.reduceAdd, Nat.reduceLeDiff, t0, t1, t5, hl.len, hm.len, hl.iaddr hi, hm.iaddr him, hl.oneO hi, hm.oneO him, lt_true hi]
    (repeat' (first | refine And.intro ?_ ?_ | intro _)) <;> first | rfl | rw [wrap_next hi (big_lt hn)] | (refine hu.next ?_; rw [e2]; (simp_all; done)) | (rw [ne_at (l := l) (m := m) (i := i)]; rw [e2]; (simp_all; done))
  · rintro T L h' ⟨rfl, t0, t1, t5, hu⟩
    simp +contextual (maxSteps := 2000000) only [go_sem, Nat.reduceEqDiff, reduceCtorEq, Nat.reduceAdd, Nat.reduceLeDiff, t0, t1, t5, hl.len, hm.len, lt_false, decide_eq_true (eq_of_upto hlen hu)]
  · simp +contextual (maxSteps := 2000000) only [go_sem, Nat.reduceEqDiff, reduceCtorEq, Nat.reduceAdd, Nat.reduceLeDiff]
    (repeat' (first | refine And.intro ?_ ?_ | intro _)) <;> first | rfl | exact Upto.zero
/-! laws.eqParamS -/
def L78_0 : List AStep := [⟨.mov (.c (.bool false)), (some 4), none, []⟩]
theorem v78_0 : VS L78_0.eq_1 := rfl
def L78_1 : List AStep := [⟨.bin .neq (.t 7) (.t 9), (some 10), none, []⟩]
theorem v78_1 : VS L78_1.eq_1 := rfl
def L78_2 : List AStep := ⟨.mov (.t 1), (some 8), none, []⟩ :: ⟨.len (.t 8), (some 9), none, []⟩ :: L78_1
theorem v78_2 : VS L78_2.eq_1 := rfl
def L78_3 : List AStep := ⟨.mov (.t 0), (some 6), none, []⟩ :: ⟨.len (.t 6), (some 7), none, []⟩ :: L78_2
theorem v78_3 : VS L78_3.eq_1 := rfl
def L78_4 : List AStep := [⟨.mov (.c (.bool false)), (some 4), none, []⟩]
theorem v78_4 : VS L78_4.eq_1 := rfl
def L78_5 : List AStep := [⟨.mov (.c (.int .i64 0)), (some 5), none, []⟩]
theorem v78_5 : VS L78_5.eq_1 := rfl
def L78_6 : List AStep := [⟨.len (.t 12), (some 13), none, []⟩, ⟨.bin .lss (.t 11) (.t 13), (some 14), none, []⟩]
theorem v78_6 : VS L78_6.eq_1 := rfl
def L78_7 : List AStep := ⟨.mov (.t 5), (some 11), none, []⟩ :: ⟨.mov (.t 0), (some 12), none, []⟩ :: L78_6
theorem v78_7 : VS L78_7.eq_1 := rfl
def L78_8 : List AStep := [⟨.call 121 [(.t 20), (.t 24)], (some 25), none, []⟩, ⟨.not (.t 25), (some 26), none, []⟩]
theorem v78_8 : VS L78_8.eq_1 := rfl
def L78_9 : List AStep := ⟨.iaddr 4 (.t 21) (.t 22), (some 23), none, []⟩ :: ⟨.load 4 true (.t 23), (some 24), none, []⟩ :: L78_8
theorem v78_9 : VS L78_9.eq_1 := rfl
def L78_10 : List AStep := ⟨.mov (.t 1), (some 21), none, []⟩ :: ⟨.mov (.t 5), (some 22), none, []⟩ :: L78_9
theorem v78_10 : VS L78_10.eq_1 := rfl
def L78_11 : List AStep := ⟨.iaddr 4 (.t 17) (.t 18), (some 19), none, []⟩ :: ⟨.load 4 true (.t 19), (some 20), none, []⟩ :: L78_10
theorem v78_11 : VS L78_11.eq_1 := rfl
def L78_12 : List AStep := ⟨.mov (.t 0), (some 17), none, []⟩ :: ⟨.mov (.t 5), (some 18), none, []⟩ :: L78_11
theorem v78_12 : VS L78_12.eq_1 := rfl
def L78_13 : List AStep := [⟨.mov (.c (.bool false)), (some 4), none, []⟩]
theorem v78_13 : VS L78_13.eq_1 := rfl
def L78_14 : List AStep := [⟨.mov (.t 16), (some 5), none, []⟩]
theorem v78_14 : VS L78_14.eq_1 := rfl
def L78_15 : List AStep := ⟨.mov (.t 5), (some 15), none, []⟩ :: ⟨.bin .add (.t 15) (.c (.int .i64 1)), (some 16), none, []⟩ :: L78_14
theorem v78_15 : VS L78_15.eq_1 := rfl
def L78_16 : List AStep := [⟨.mov (.c (.bool true)), (some 4), none, []⟩]
theorem v78_16 : VS L78_16.eq_1 := rfl
def C78_0 : ACode := .seq (.reg L78_4) .ret
theorem u78_0 : VC C78_0.eq_1 := rfl
def C78_1 : ACode := .cond (.t 10) C78_0 .skip
theorem u78_1 : VC C78_1.eq_1 := rfl
def C78_2 : ACode := .seq (.reg L78_3) C78_1
theorem u78_2 : VC C78_2.eq_1 := rfl
def C78_3 : ACode := .cond (.t 14) .skip (.exit 0)
theorem u78_3 : VC C78_3.eq_1 := rfl
def C78_4 : ACode := .seq (.reg L78_7) C78_3
theorem u78_4 : VC C78_4.eq_1 := rfl
def C78_5 : ACode := .seq (.reg L78_13) .ret
theorem u78_5 : VC C78_5.eq_1 := rfl
def C78_6 : ACode := .cond (.t 26) C78_5 .skip
theorem u78_6 : VC C78_6.eq_1 := rfl
def C78_7 : ACode := .seq (.reg L78_12) C78_6
theorem u78_7 : VC C78_7.eq_1 := rfl
def C78_8 : ACode := .block 1 C78_7
theorem u78_8 : VC C78_8.eq_1 := rfl
def C78_9 : ACode := .seq C78_8 (.reg L78_15)
theorem u78_9 : VC C78_9.eq_1 := rfl
def C78_10 : ACode := .seq C78_4 C78_9
theorem u78_10 : VC C78_10.eq_1 := rfl
def C78_11 : ACode := .block 0 (.loop C78_10)
theorem u78_11 : VC C78_11.eq_1 := rfl
def C78_12 : ACode := .seq (.reg L78_5) C78_11
theorem u78_12 : VC C78_12.eq_1 := rfl
def C78_13 : ACode := .seq (.reg L78_16) .ret
theorem u78_13 : VC C78_13.eq_1 := rfl
def C78_14 : ACode := .seq C78_12 C78_13
theorem u78_14 : VC C78_14.eq_1 := rfl
def C78_15 : ACode := .seq C78_2 C78_14
theorem u78_15 : VC C78_15.eq_1 := rfl
def C78_16 : ACode := .seq (.reg L78_0) C78_15
theorem u78_16 : VC C78_16.eq_1 := rfl
def F78 : AFunc := ⟨27, [.tmp 4], C78_16⟩
theorem cF78 : compB Try.prog 78 = some F78 := by kernel_rfl
attribute [local go_sem ↓] u78_0 u78_1 u78_2 u78_3 u78_4 u78_5 u78_6 u78_7 u78_8 u78_9 u78_10 u78_11 u78_12 u78_13 u78_14 u78_15 u78_16 v78_0 v78_1 v78_2 v78_3 v78_4 v78_5 v78_6 v78_7 v78_8 v78_9 v78_10 v78_11 v78_12 v78_13 v78_14 v78_15 v78_16
theorem c_eqParamS (l m : List Param) (v w : AV) (h : H) (hl : SlQ h v l) (hm : SlQ h w m) (hn : l.length ≤ big) : bm Try.prog 78 [v, w] h = some (ib (decide (l = m)), h) := by
  refine bm_eq cF78 ?_
  by_cases hlen : l.length = m.length
  case neg =>
    have e1 : decide ((l.length : Int) = (m.length : Int)) = false := decide_eq_false (by omega)
    simp +contextual (maxSteps := 2000000) only [go_sem, Nat.reduceEqDiff, reduceCtorEq, Nat.reduceAdd, Nat.reduceLeDiff, F78, hl.len, hm.len, e1]
    rw [ne_len e1]
  have e1 : decide ((l.length : Int) = (m.length : Int)) = true := decide_eq_true (by omega)
  simp +contextual (maxSteps := 2000000) only [go_sem, Nat.reduceEqDiff, reduceCtorEq, Nat.reduceAdd, Nat.reduceLeDiff, F78, hl.len, hm.len, e1]
  refine wpC_loop (fun i T L h' => h' = h ∧ T 0 = .v v ∧ T 1 = .v w ∧ T 5 = .v (.one (.int .i64 i)) ∧ Upto (eqAt l m) i) l.length ?_ ?_ (Nat.zero_le _) ?_
  · rintro i T L h' hi ⟨rfl, t0, t1, t5, hu⟩
    have him : i < m.length := by omega
    have e2 := eqAt_eq hi him
    simp +contextual (maxSteps := 2000000) only [go_sem, Nat.reduceEqDiff, reduceCtorEq, Nat.reduceAdd, Nat.reduceLeDiff, t0, t1, t5, hl.len, hm.len, hl.iaddr hi, hm.iaddr him, hl.whole hi, hm.whole him, c_eqParam, lt_true hi]
    (repeat' (first | refine And.intro ?_ ?_ | intro _)) <;> first | rfl | rw [wrap_next hi (big_lt hn)] | (refine hu.next ?_; rw [e2]; (simp_all; done)) | (rw [ne_at (l := l) (m := m) (i := i)]; rw [e2]; (simp_all; done))
  · rintro T L h' ⟨rfl, t0, t1, t5, hu⟩
    simp +contextual (maxSteps := 2000000) only [go_sem, Nat.reduceEqDiff, reduceCtorEq, Nat.reduceAdd, Nat.reduceLeDiff, t0, t1, t5, hl.len, hm.len, lt_false, decide_eq_true (eq_of_upto hlen hu)]
  · simp +contextual (maxSteps := 2000000) only [go_sem, Nat.reduceEqDiff, reduceCtorEq, Nat.reduceAdd, Nat.reduceLeDiff]
    (repeat' (first | refine And.intro ?_ ?_ | intro _)) <;> first | rfl | exact Upto.zero
/-! laws.eqSignature -/
def L31_0 : List AStep := [⟨.mov (.c (.bool false)), (some 4), none, []⟩]
theorem v31_0 : VS L31_0.eq_1 := rfl
def L31_1 : List AStep := ⟨.box 69 (.t 0), (some 2), none, []⟩ :: ⟨.box 69 (.t 1), (some 3), none, []⟩ :: L31_0
theorem v31_1 : VS L31_1.eq_1 := rfl
def L31_2 : List AStep := [⟨.call 78 [(.t 6), (.t 8)], (some 9), none, []⟩, ⟨.not (.t 9), (some 10), none, []⟩]
theorem v31_2 : VS L31_2.eq_1 := rfl
def L31_3 : List AStep := ⟨.faddr 0 (.t 3), (some 7), none, []⟩ :: ⟨.load 1 false (.t 7), (some 8), none, []⟩ :: L31_2
theorem v31_3 : VS L31_3.eq_1 := rfl
def L31_4 : List AStep := ⟨.faddr 0 (.t 2), (some 5), none, []⟩ :: ⟨.load 1 false (.t 5), (some 6), none, []⟩ :: L31_3
theorem v31_4 : VS L31_4.eq_1 := rfl
def L31_5 : List AStep := [⟨.mov (.c (.bool false)), (some 4), none, []⟩]
theorem v31_5 : VS L31_5.eq_1 := rfl
def L31_6 : List AStep := [⟨.mov (.c (.bool true)), (some 4), none, []⟩]
theorem v31_6 : VS L31_6.eq_1 := rfl
def C31_0 : ACode := .seq (.reg L31_5) .ret
theorem u31_0 : VC C31_0.eq_1 := rfl
def C31_1 : ACode := .cond (.t 10) C31_0 .skip
theorem u31_1 : VC C31_1.eq_1 := rfl
def C31_2 : ACode := .seq (.reg L31_4) C31_1
theorem u31_2 : VC C31_2.eq_1 := rfl
def C31_3 : ACode := .seq (.reg L31_6) .ret
theorem u31_3 : VC C31_3.eq_1 := rfl
def C31_4 : ACode := .seq C31_2 C31_3
theorem u31_4 : VC C31_4.eq_1 := rfl
def C31_5 : ACode := .seq (.reg L31_1) C31_4
theorem u31_5 : VC C31_5.eq_1 := rfl
def F31 : AFunc := ⟨11, [.tmp 4], C31_5⟩
theorem cF31 : compB Try.prog 31 = some F31 := by kernel_rfl
attribute [local go_sem ↓] u31_0 u31_1 u31_2 u31_3 u31_4 u31_5 v31_0 v31_1 v31_2 v31_3 v31_4 v31_5 v31_6
theorem c_eqSignature (l m : List Param) (v w : CV) (h : H) (hl : SlQ h (.one v) l) (hm : SlQ h (.one w) m) (hn : l.length ≤ big) : bm Try.prog 31 [.agg [v], .agg [w]] h = some (ib (decide (l = m)), h) := by
  refine bm_eq cF31 ?_
  simp +contextual (maxSteps := 2000000) only [go_sem, Nat.reduceEqDiff, reduceCtorEq, Nat.reduceAdd, Nat.reduceLeDiff, F31, c_eqParamS _ _ _ _ _ hl hm hn]
  try ((repeat' (first | refine And.intro ?_ ?_ | intro _)) <;> first | simp_all)
/-! laws.eqShape -/
def L32_0 : List AStep := [⟨.mov (.c (.bool false)), (some 4), none, []⟩]
theorem v32_0 : VS L32_0.eq_1 := rfl
def L32_1 : List AStep := ⟨.box 71 (.t 0), (some 2), none, []⟩ :: ⟨.box 71 (.t 1), (some 3), none, []⟩ :: L32_0
theorem v32_1 : VS L32_1.eq_1 := rfl
def L32_2 : List AStep := [⟨.bin .neq (.t 6) (.t 8), (some 9), none, []⟩]
theorem v32_2 : VS L32_2.eq_1 := rfl
def L32_3 : List AStep := ⟨.faddr 0 (.t 3), (some 7), none, []⟩ :: ⟨.load 1 false (.t 7), (some 8), none, []⟩ :: L32_2
theorem v32_3 : VS L32_3.eq_1 := rfl
def L32_4 : List AStep := ⟨.faddr 0 (.t 2), (some 5), none, []⟩ :: ⟨.load 1 false (.t 5), (some 6), none, []⟩ :: L32_3
theorem v32_4 : VS L32_4.eq_1 := rfl
def L32_5 : List AStep := [⟨.mov (.c (.bool false)), (some 4), none, []⟩]
theorem v32_5 : VS L32_5.eq_1 := rfl
def L32_6 : List AStep := [⟨.call 79 [(.t 11), (.t 13)], (some 14), none, []⟩, ⟨.not (.t 14), (some 15), none, []⟩]
theorem v32_6 : VS L32_6.eq_1 := rfl
def L32_7 : List AStep := ⟨.faddr 1 (.t 3), (some 12), none, []⟩ :: ⟨.load 1 false (.t 12), (some 13), none, []⟩ :: L32_6
theorem v32_7 : VS L32_7.eq_1 := rfl
def L32_8 : List AStep := ⟨.faddr 1 (.t 2), (some 10), none, []⟩ :: ⟨.load 1 false (.t 10), (some 11), none, []⟩ :: L32_7
theorem v32_8 : VS L32_8.eq_1 := rfl
def L32_9 : List AStep := [⟨.mov (.c (.bool false)), (some 4), none, []⟩]
theorem v32_9 : VS L32_9.eq_1 := rfl
def L32_10 : List AStep := [⟨.mov (.c (.bool true)), (some 4), none, []⟩]
theorem v32_10 : VS L32_10.eq_1 := rfl
def C32_0 : ACode := .seq (.reg L32_5) .ret
theorem u32_0 : VC C32_0.eq_1 := rfl
def C32_1 : ACode := .cond (.t 9) C32_0 .skip
theorem u32_1 : VC C32_1.eq_1 := rfl
def C32_2 : ACode := .seq (.reg L32_4) C32_1
theorem u32_2 : VC C32_2.eq_1 := rfl
def C32_3 : ACode := .seq (.reg L32_9) .ret
theorem u32_3 : VC C32_3.eq_1 := rfl
def C32_4 : ACode := .cond (.t 15) C32_3 .skip
theorem u32_4 : VC C32_4.eq_1 := rfl
def C32_5 : ACode := .seq (.reg L32_8) C32_4
theorem u32_5 : VC C32_5.eq_1 := rfl
def C32_6 : ACode := .seq (.reg L32_10) .ret
theorem u32_6 : VC C32_6.eq_1 := rfl
def C32_7 : ACode := .seq C32_5 C32_6
theorem u32_7 : VC C32_7.eq_1 := rfl
def C32_8 : ACode := .seq C32_2 C32_7
theorem u32_8 : VC C32_8.eq_1 := rfl
def C32_9 : ACode := .seq (.reg L32_1) C32_8
theorem u32_9 : VC C32_9.eq_1 := rfl
def F32 : AFunc := ⟨16, [.tmp 4], C32_9⟩
theorem cF32 : compB Try.prog 32 = some F32 := by kernel_rfl
attribute [local go_sem ↓] u32_0 u32_1 u32_2 u32_3 u32_4 u32_5 u32_6 u32_7 u32_8 u32_9 v32_0 v32_1 v32_2 v32_3 v32_4 v32_5 v32_6 v32_7 v32_8 v32_9 v32_10
theorem c_eqShape (x y : Shape) (v w : CV) (h : H) (hp : SlS h (.one v) x.names) (hq : SlS h (.one w) y.names) (h1 : x.names.length ≤ big) :
    bm Try.prog 32 [.agg [.int .i64 x.count, v], .agg [.int .i64 y.count, w]] h = some (ib (decide (x = y)), h) := by
  refine bm_eq cF32 ?_
  obtain ⟨xc, xn⟩ := x
  obtain ⟨yc, yn⟩ := y
  simp +contextual (maxSteps := 2000000) only [go_sem, Nat.reduceEqDiff, reduceCtorEq, Nat.reduceAdd, Nat.reduceLeDiff, F32, c_eqStringS _ _ _ _ _ hp hq h1, Shape.mk.injEq]
  try ((repeat' (first | refine And.intro ?_ ?_ | intro _)) <;> first | simp_all)
end Go.Proofs.Ytdalgphpacikkac.Am
