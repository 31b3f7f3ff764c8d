/- Contracts of the laws on lists whose elements hold slices: equal, marked, held. -/
import Derived.Test.YtdalgphpacikkaaDN
import Derived.Test.YtdalgphpacikkaaL1
import Derived.Test.YtdalgphpacikkaaL3
namespace Go.Proofs.Ytdalgphpacikkaa.Am
open Go
set_option maxRecDepth 100000
set_option maxHeartbeats 4000000
set_option linter.unusedSimpArgs false
set_option linter.unusedVariables false
attribute [local go_sem ↓] bv_t bv_c ev_t ev_c put_same put_ne put_none kill_at pro_at lb_same lb_ne start_zero start_succ wpC_seq wpC_reg wpC_cond wpC_block wpC_skip wpC_exit wpC_ret thenQ_normal thenQ_exit thenQ_ret inBlk_normal inBlk_exit inBlk_ret wpS_nil wpS_step wpS_again wpS_guard wpO_mov wpO_load wpO_faddr wpO_nilCheck wpO_pick wpO_build wpO_bin wpO_eqb wpO_eqst wpO_eqnil wpO_not wpO_conv wpO_bytesStr wpO_iaddr wpO_idxStr wpO_field wpO_extract wpO_len wpO_lenStr wpO_cap wpO_min wpO_slice wpO_sliceStr wpO_alloc wpO_box wpO_store wpO_call wpO_callv wpO_mkfn wpO_buildSlice wpO_mkslice wpO_append wpO_appz proA_nil proA_cons tmpX_nil tmpX_tmp tmpX_cell doneB_normal doneB_ret agK_cons agK_nil agK_guard agG_tt agG_ff agG_tf agG_ft agG_undef pureB_load results_one results_two results_nil resBs_cons resBs_nil resB_tmp resB_cell
attribute [local go_sem] kill_v kill_lp_ne kill_lp_same pro_v pro_lp_same pro_lp_ne av_v av_lp optB_some optX_some valX_eq ldX_lp ldX_v faX_lp faX_v ncX_lp ncX_ptr ncX_fn boxK_one boxK_agg stL_some stK_lp_one stK_lp_agg stK_v_one stK_v_agg proM_v proM_lp callG_mk callVG_mk callvK_fn fnG_mk ptrsA_nil ptrsA_cons callH_some whenA_true whenA_false guardH_tt guardH_ff guardH_tf guardH_ft guardH_undef agV_one agV_agg lenO_sl lenStrO_str notO_bool pickO_bool convO_int eqbO_bool eqnilO_sl extractO_tup capO_sl minO_int loadL_one loadL_all storeL_eq fillA_nil fillA_one fillA_agg nat_ge neg_ge nat_lt neg_lt buildO bin_add bin_sub bin_mul bin_eql bin_neq bin_lss bin_leq bin_gtr bin_geq str_eql str_neq str_lss str_leq str_gtr str_geq retK_some endK_mk gcK_same gcK_int gcK_bool tupO_one tupO_agg rdy_self ib ii Option.map_none Option.map_some Option.some.injEq exists_eq_left' exists_eq_left ne_eq not_false_eq_true if_true if_false List.map_cons List.map_nil List.getElem?_cons_zero List.getElem?_cons_succ List.length_cons List.length_nil List.take_succ_cons List.take_zero List.take_nil List.drop_succ_cons List.drop_zero List.drop_nil List.cons_append List.nil_append List.append_nil List.set_cons_zero List.set_cons_succ Nat.zero_add forall_const true_and and_true and_self Bool.false_eq_true false_implies true_implies implies_true Bool.not_true Bool.not_false Bool.not_eq_true' Bool.not_eq_false' beq_self_eq_true Bool.bne_true Bool.bne_false
attribute [local go_sem] lenI lenS lenP lenQ lenB lenL lenT encI_0 encS_0 encP_0 encP_1 encQ_0 encQ_1 encQ_2 encQ_3 encB_0 encB_1 encL_0 encL_1 encT_0 encT_1
attribute [local go_sem low] whenA_bool guardH_bool
attribute [local go_sem] lenY encY_0 encY_1 encY_2
/-! laws.eqSlot -/
def L79_0 : List AStep := [⟨.mov (.c (.bool false)), (some 4), none, []⟩]
theorem v79_0 : VS L79_0.eq_1 := rfl
def L79_1 : List AStep := ⟨.box 97 (.t 0), (some 2), none, []⟩ :: ⟨.box 97 (.t 1), (some 3), none, []⟩ :: L79_0
theorem v79_1 : VS L79_1.eq_1 := rfl
def L79_2 : List AStep := [⟨.eqb true (.t 6) (.t 8), (some 9), none, []⟩]
theorem v79_2 : VS L79_2.eq_1 := rfl
def L79_3 : List AStep := ⟨.faddr 0 (.t 3), (some 7), none, []⟩ :: ⟨.load 1 false (.t 7), (some 8), none, []⟩ :: L79_2
theorem v79_3 : VS L79_3.eq_1 := rfl
def L79_4 : List AStep := ⟨.faddr 0 (.t 2), (some 5), none, []⟩ :: ⟨.load 1 false (.t 5), (some 6), none, []⟩ :: L79_3
theorem v79_4 : VS L79_4.eq_1 := rfl
def L79_5 : List AStep := [⟨.mov (.c (.bool false)), (some 4), none, []⟩]
theorem v79_5 : VS L79_5.eq_1 := rfl
def L79_6 : List AStep := [⟨.call 48 [(.t 11), (.t 13)], (some 14), none, []⟩, ⟨.not (.t 14), (some 15), none, []⟩]
theorem v79_6 : VS L79_6.eq_1 := rfl
def L79_7 : List AStep := ⟨.faddr 1 (.t 3), (some 12), none, []⟩ :: ⟨.load 1 false (.t 12), (some 13), none, []⟩ :: L79_6
theorem v79_7 : VS L79_7.eq_1 := rfl
def L79_8 : List AStep := ⟨.faddr 1 (.t 2), (some 10), none, []⟩ :: ⟨.load 1 false (.t 10), (some 11), none, []⟩ :: L79_7
theorem v79_8 : VS L79_8.eq_1 := rfl
def L79_9 : List AStep := [⟨.mov (.c (.bool false)), (some 4), none, []⟩]
theorem v79_9 : VS L79_9.eq_1 := rfl
def L79_10 : List AStep := [⟨.call 49 [(.t 17), (.t 19)], (some 20), none, []⟩, ⟨.not (.t 20), (some 21), none, []⟩]
theorem v79_10 : VS L79_10.eq_1 := rfl
def L79_11 : List AStep := ⟨.faddr 2 (.t 3), (some 18), none, []⟩ :: ⟨.load 1 false (.t 18), (some 19), none, []⟩ :: L79_10
theorem v79_11 : VS L79_11.eq_1 := rfl
def L79_12 : List AStep := ⟨.faddr 2 (.t 2), (some 16), none, []⟩ :: ⟨.load 1 false (.t 16), (some 17), none, []⟩ :: L79_11
theorem v79_12 : VS L79_12.eq_1 := rfl
def L79_13 : List AStep := [⟨.mov (.c (.bool false)), (some 4), none, []⟩]
theorem v79_13 : VS L79_13.eq_1 := rfl
def L79_14 : List AStep := [⟨.mov (.c (.bool true)), (some 4), none, []⟩]
theorem v79_14 : VS L79_14.eq_1 := rfl
def C79_0 : ACode := .seq (.reg L79_5) .ret
theorem u79_0 : VC C79_0.eq_1 := rfl
def C79_1 : ACode := .cond (.t 9) C79_0 .skip
theorem u79_1 : VC C79_1.eq_1 := rfl
def C79_2 : ACode := .seq (.reg L79_4) C79_1
theorem u79_2 : VC C79_2.eq_1 := rfl
def C79_3 : ACode := .seq (.reg L79_9) .ret
theorem u79_3 : VC C79_3.eq_1 := rfl
def C79_4 : ACode := .cond (.t 15) C79_3 .skip
theorem u79_4 : VC C79_4.eq_1 := rfl
def C79_5 : ACode := .seq (.reg L79_8) C79_4
theorem u79_5 : VC C79_5.eq_1 := rfl
def C79_6 : ACode := .seq (.reg L79_13) .ret
theorem u79_6 : VC C79_6.eq_1 := rfl
def C79_7 : ACode := .cond (.t 21) C79_6 .skip
theorem u79_7 : VC C79_7.eq_1 := rfl
def C79_8 : ACode := .seq (.reg L79_12) C79_7
theorem u79_8 : VC C79_8.eq_1 := rfl
def C79_9 : ACode := .seq (.reg L79_14) .ret
theorem u79_9 : VC C79_9.eq_1 := rfl
def C79_10 : ACode := .seq C79_8 C79_9
theorem u79_10 : VC C79_10.eq_1 := rfl
def C79_11 : ACode := .seq C79_5 C79_10
theorem u79_11 : VC C79_11.eq_1 := rfl
def C79_12 : ACode := .seq C79_2 C79_11
theorem u79_12 : VC C79_12.eq_1 := rfl
def C79_13 : ACode := .seq (.reg L79_1) C79_12
theorem u79_13 : VC C79_13.eq_1 := rfl
def F79 : AFunc := ⟨22, [.tmp 4], C79_13⟩
theorem cF79 : compB Try.prog 79 = some F79 := by kernel_rfl
attribute [local go_sem ↓] u79_0 u79_1 u79_2 u79_3 u79_4 u79_5 u79_6 u79_7 u79_8 u79_9 u79_10 u79_11 u79_12 u79_13 v79_0 v79_1 v79_2 v79_3 v79_4 v79_5 v79_6 v79_7 v79_8 v79_9 v79_10 v79_11 v79_12 v79_13 v79_14
theorem c_eqSlot (r q : RSlot) (a b : Slot) (h : H) (x : AtY 3 98 h r a) (y : AtY 3 98 h q b) (k0 : a.list.length ≤ big) (k1 : a.pairs.length ≤ big) : bm Try.prog 79 [.agg (encY r), .agg (encY q)] h = some (ib (decide (a = b)), h) := by
  refine bm_eq cF79 ?_
  have e1 : encY r = [.bool a.given, r.lv, r.pv] := by simp only [encY, x.given]
  have e2 : encY q = [.bool b.given, q.lv, q.pv] := by simp only [encY, y.given]
  have ed : decide (a = b) = (decide (a.given = b.given) && (decide (a.list = b.list) && decide (a.pairs = b.pairs))) := by
    cases a
    cases b
    rw [Bool.eq_iff_iff]
    simp
  rw [e1, e2, ed]
  cases b0 : decide (a.given = b.given) with
  | false => simp +contextual (maxSteps := 2000000) only [go_sem, Nat.reduceEqDiff, reduceCtorEq, Nat.reduceAdd, Nat.reduceLeDiff, F79, show (a.given == b.given) = decide (a.given = b.given) from by cases a.given <;> cases b.given <;> rfl, c_eqIntS _ _ _ _ _ x.list y.list k0, c_eqPairS _ _ _ _ _ x.pairs y.pairs k1, b0, Bool.true_and, Bool.false_and]
  | true =>
  cases b1 : decide (a.list = b.list) with
  | false => simp +contextual (maxSteps := 2000000) only [go_sem, Nat.reduceEqDiff, reduceCtorEq, Nat.reduceAdd, Nat.reduceLeDiff, F79, show (a.given == b.given) = decide (a.given = b.given) from by cases a.given <;> cases b.given <;> rfl, c_eqIntS _ _ _ _ _ x.list y.list k0, c_eqPairS _ _ _ _ _ x.pairs y.pairs k1, b0, b1, Bool.true_and, Bool.false_and]
  | true =>
  cases b2 : decide (a.pairs = b.pairs) with
  | false => simp +contextual (maxSteps := 2000000) only [go_sem, Nat.reduceEqDiff, reduceCtorEq, Nat.reduceAdd, Nat.reduceLeDiff, F79, show (a.given == b.given) = decide (a.given = b.given) from by cases a.given <;> cases b.given <;> rfl, c_eqIntS _ _ _ _ _ x.list y.list k0, c_eqPairS _ _ _ _ _ x.pairs y.pairs k1, b0, b1, b2, Bool.true_and, Bool.false_and]
  | true =>
  simp +contextual (maxSteps := 2000000) only [go_sem, Nat.reduceEqDiff, reduceCtorEq, Nat.reduceAdd, Nat.reduceLeDiff, F79, show (a.given == b.given) = decide (a.given = b.given) from by cases a.given <;> cases b.given <;> rfl, c_eqIntS _ _ _ _ _ x.list y.list k0, c_eqPairS _ _ _ _ _ x.pairs y.pairs k1, b0, b1, b2, Bool.true_and]
/-! laws.eqSlotS -/
def L46_0 : List AStep := [⟨.mov (.c (.bool false)), (some 4), none, []⟩]
theorem v46_0 : VS L46_0.eq_1 := rfl
def L46_1 : List AStep := [⟨.bin .neq (.t 7) (.t 9), (some 10), none, []⟩]
theorem v46_1 : VS L46_1.eq_1 := rfl
def L46_2 : List AStep := ⟨.mov (.t 1), (some 8), none, []⟩ :: ⟨.len (.t 8), (some 9), none, []⟩ :: L46_1
theorem v46_2 : VS L46_2.eq_1 := rfl
def L46_3 : List AStep := ⟨.mov (.t 0), (some 6), none, []⟩ :: ⟨.len (.t 6), (some 7), none, []⟩ :: L46_2
theorem v46_3 : VS L46_3.eq_1 := rfl
def L46_4 : List AStep := [⟨.mov (.c (.bool false)), (some 4), none, []⟩]
theorem v46_4 : VS L46_4.eq_1 := rfl
def L46_5 : List AStep := [⟨.mov (.c (.int .i64 0)), (some 5), none, []⟩]
theorem v46_5 : VS L46_5.eq_1 := rfl
def L46_6 : List AStep := [⟨.len (.t 12), (some 13), none, []⟩, ⟨.bin .lss (.t 11) (.t 13), (some 14), none, []⟩]
theorem v46_6 : VS L46_6.eq_1 := rfl
def L46_7 : List AStep := ⟨.mov (.t 5), (some 11), none, []⟩ :: ⟨.mov (.t 0), (some 12), none, []⟩ :: L46_6
theorem v46_7 : VS L46_7.eq_1 := rfl
def L46_8 : List AStep := [⟨.call 79 [(.t 20), (.t 24)], (some 25), none, []⟩, ⟨.not (.t 25), (some 26), none, []⟩]
theorem v46_8 : VS L46_8.eq_1 := rfl
def L46_9 : List AStep := ⟨.iaddr 3 (.t 21) (.t 22), (some 23), none, []⟩ :: ⟨.load 3 true (.t 23), (some 24), none, []⟩ :: L46_8
theorem v46_9 : VS L46_9.eq_1 := rfl
def L46_10 : List AStep := ⟨.mov (.t 1), (some 21), none, []⟩ :: ⟨.mov (.t 5), (some 22), none, []⟩ :: L46_9
theorem v46_10 : VS L46_10.eq_1 := rfl
def L46_11 : List AStep := ⟨.iaddr 3 (.t 17) (.t 18), (some 19), none, []⟩ :: ⟨.load 3 true (.t 19), (some 20), none, []⟩ :: L46_10
theorem v46_11 : VS L46_11.eq_1 := rfl
def L46_12 : List AStep := ⟨.mov (.t 0), (some 17), none, []⟩ :: ⟨.mov (.t 5), (some 18), none, []⟩ :: L46_11
theorem v46_12 : VS L46_12.eq_1 := rfl
def L46_13 : List AStep := [⟨.mov (.c (.bool false)), (some 4), none, []⟩]
theorem v46_13 : VS L46_13.eq_1 := rfl
def L46_14 : List AStep := [⟨.mov (.t 16), (some 5), none, []⟩]
theorem v46_14 : VS L46_14.eq_1 := rfl
def L46_15 : List AStep := ⟨.mov (.t 5), (some 15), none, []⟩ :: ⟨.bin .add (.t 15) (.c (.int .i64 1)), (some 16), none, []⟩ :: L46_14
theorem v46_15 : VS L46_15.eq_1 := rfl
def L46_16 : List AStep := [⟨.mov (.c (.bool true)), (some 4), none, []⟩]
theorem v46_16 : VS L46_16.eq_1 := rfl
def C46_0 : ACode := .seq (.reg L46_4) .ret
theorem u46_0 : VC C46_0.eq_1 := rfl
def C46_1 : ACode := .cond (.t 10) C46_0 .skip
theorem u46_1 : VC C46_1.eq_1 := rfl
def C46_2 : ACode := .seq (.reg L46_3) C46_1
theorem u46_2 : VC C46_2.eq_1 := rfl
def C46_3 : ACode := .cond (.t 14) .skip (.exit 0)
theorem u46_3 : VC C46_3.eq_1 := rfl
def C46_4 : ACode := .seq (.reg L46_7) C46_3
theorem u46_4 : VC C46_4.eq_1 := rfl
def C46_5 : ACode := .seq (.reg L46_13) .ret
theorem u46_5 : VC C46_5.eq_1 := rfl
def C46_6 : ACode := .cond (.t 26) C46_5 .skip
theorem u46_6 : VC C46_6.eq_1 := rfl
def C46_7 : ACode := .seq (.reg L46_12) C46_6
theorem u46_7 : VC C46_7.eq_1 := rfl
def C46_8 : ACode := .block 1 C46_7
theorem u46_8 : VC C46_8.eq_1 := rfl
def C46_9 : ACode := .seq C46_8 (.reg L46_15)
theorem u46_9 : VC C46_9.eq_1 := rfl
def C46_10 : ACode := .seq C46_4 C46_9
theorem u46_10 : VC C46_10.eq_1 := rfl
def C46_11 : ACode := .block 0 (.loop C46_10)
theorem u46_11 : VC C46_11.eq_1 := rfl
def C46_12 : ACode := .seq (.reg L46_5) C46_11
theorem u46_12 : VC C46_12.eq_1 := rfl
def C46_13 : ACode := .seq (.reg L46_16) .ret
theorem u46_13 : VC C46_13.eq_1 := rfl
def C46_14 : ACode := .seq C46_12 C46_13
theorem u46_14 : VC C46_14.eq_1 := rfl
def C46_15 : ACode := .seq C46_2 C46_14
theorem u46_15 : VC C46_15.eq_1 := rfl
def C46_16 : ACode := .seq (.reg L46_0) C46_15
theorem u46_16 : VC C46_16.eq_1 := rfl
def F46 : AFunc := ⟨27, [.tmp 4], C46_16⟩
theorem cF46 : compB Try.prog 46 = some F46 := by kernel_rfl
attribute [local go_sem ↓] u46_0 u46_1 u46_2 u46_3 u46_4 u46_5 u46_6 u46_7 u46_8 u46_9 u46_10 u46_11 u46_12 u46_13 u46_14 u46_15 u46_16 v46_0 v46_1 v46_2 v46_3 v46_4 v46_5 v46_6 v46_7 v46_8 v46_9 v46_10 v46_11 v46_12 v46_13 v46_14 v46_15 v46_16
theorem c_eqSlotS (l m : List Slot) (v w : CV) (h : H) (hl : SlY h v l) (hm : SlY h w m) (hn : miniY l) : bm Try.prog 46 [.one v, .one w] h = some (ib (decide (l = m)), h) := by
  refine bm_eq cF46 ?_
  obtain ⟨rs, x⟩ := hl.ex
  obtain ⟨qs, y⟩ := hm.ex
  have len1 := x.out.len
  have len2 := y.out.len
  rw [x.len] at len1
  rw [y.len] at len2
  by_cases hlen : l.length = m.length
  case neg =>
    have e1 : decide ((l.length : Int) = (m.length : Int)) = false := decide_eq_false (by omega)
    simp +contextual (maxSteps := 2000000) only [go_sem, Nat.reduceEqDiff, reduceCtorEq, Nat.reduceAdd, Nat.reduceLeDiff, F46, len1, len2, e1]
    rw [ne_len e1]
  have e1 : decide ((l.length : Int) = (m.length : Int)) = true := decide_eq_true (by omega)
  simp +contextual (maxSteps := 2000000) only [go_sem, Nat.reduceEqDiff, reduceCtorEq, Nat.reduceAdd, Nat.reduceLeDiff, F46, len1, len2, e1]
  refine wpC_loop (fun i T L h' => h' = h ∧ T 0 = .v (.one v) ∧ T 1 = .v (.one w) ∧ T 5 = .v (.one (.int .i64 i)) ∧ Upto (eqAt l m) i) l.length ?_ ?_ (Nat.zero_le _) ?_
  · rintro i T L h' hi ⟨rfl, t0, t1, t5, hu⟩
    have him : i < m.length := by omega
    have hi1 : i < rs.length := by rw [x.len]; exact hi
    have hi2 : i < qs.length := by rw [y.len]; exact him
    have e2 := eqAt_eq hi him
    have hw1 := x.out.whole hi1
    have hw2 := y.out.whole hi2
    have ee := c_eqSlot rs[i] qs[i] _ _ h' (x.el i hi1) (y.el i hi2) (by rw [getY_eq hi]; exact Nat.le_trans (hn.list _ (List.getElem_mem hi)) (by decide)) (by rw [getY_eq hi]; exact Nat.le_trans (hn.pairs _ (List.getElem_mem hi)) (by decide))
    rw [getY_eq hi, getY_eq him] at ee
    simp +contextual (maxSteps := 2000000) only [go_sem, Nat.reduceEqDiff, reduceCtorEq, Nat.reduceAdd, Nat.reduceLeDiff, t0, t1, t5, len1, len2, x.out.iaddr hi1, y.out.iaddr hi2, hw1, hw2, ee, lt_true hi]
    (repeat' (first | refine And.intro ?_ ?_ | intro _)) <;> first | rfl | rw [wrap_next hi (Nat.lt_of_le_of_lt hn.len (by decide))] | (refine hu.next ?_; rw [e2]; (simp_all; done)) | (rw [ne_at (l := l) (m := m) (i := i)]; rw [e2]; (simp_all; done))
  · rintro T L h' ⟨rfl, t0, t1, t5, hu⟩
    simp +contextual (maxSteps := 2000000) only [go_sem, Nat.reduceEqDiff, reduceCtorEq, Nat.reduceAdd, Nat.reduceLeDiff, t0, t1, t5, len1, len2, lt_false, decide_eq_true (eq_of_upto hlen hu)]
  · simp +contextual (maxSteps := 2000000) only [go_sem, Nat.reduceEqDiff, reduceCtorEq, Nat.reduceAdd, Nat.reduceLeDiff]
    (repeat' (first | refine And.intro ?_ ?_ | intro _)) <;> first | rfl | exact Upto.zero
/-! laws.markSlotS -/
def L53_0 : List AStep := [⟨.mov (.c (.int .i64 0)), (some 4), none, []⟩]
theorem v53_0 : VS L53_0.eq_1 := rfl
def L53_1 : List AStep := [⟨.mov (.c (.int .i64 0)), (some 5), none, []⟩]
theorem v53_1 : VS L53_1.eq_1 := rfl
def L53_2 : List AStep := [⟨.len (.t 7), (some 8), none, []⟩, ⟨.bin .lss (.t 6) (.t 8), (some 9), none, []⟩]
theorem v53_2 : VS L53_2.eq_1 := rfl
def L53_3 : List AStep := ⟨.mov (.t 5), (some 6), none, []⟩ :: ⟨.mov (.t 0), (some 7), none, []⟩ :: L53_2
theorem v53_3 : VS L53_3.eq_1 := rfl
def L53_4 : List AStep := [⟨.faddr 0 (.t 17), (some 18), none, []⟩, ⟨.store 1 (.t 18) (.t 16), none, none, []⟩]
theorem v53_4 : VS L53_4.eq_1 := rfl
def L53_5 : List AStep := ⟨.bin .eql (.t 15) (.c (.int .i64 0)), (some 16), none, []⟩ :: ⟨.iaddr 3 (.t 12) (.t 13), (some 17), none, []⟩ :: L53_4
theorem v53_5 : VS L53_5.eq_1 := rfl
def L53_6 : List AStep := ⟨.mov (.t 1), (some 14), none, []⟩ :: ⟨.bin .rem (.t 14) (.c (.int .i64 3)), (some 15), none, []⟩ :: L53_5
theorem v53_6 : VS L53_6.eq_1 := rfl
def L53_7 : List AStep := ⟨.mov (.t 0), (some 12), none, []⟩ :: ⟨.mov (.t 5), (some 13), none, []⟩ :: L53_6
theorem v53_7 : VS L53_7.eq_1 := rfl
def L53_8 : List AStep := [⟨.mov (.t 20), (some 1), none, []⟩]
theorem v53_8 : VS L53_8.eq_1 := rfl
def L53_9 : List AStep := ⟨.mov (.t 1), (some 19), none, []⟩ :: ⟨.bin .add (.t 19) (.c (.int .i64 1)), (some 20), none, []⟩ :: L53_8
theorem v53_9 : VS L53_9.eq_1 := rfl
def L53_10 : List AStep := [⟨.call 51 [(.t 25), (.t 26)], (some 27), none, []⟩, ⟨.mov (.t 27), (some 1), none, []⟩]
theorem v53_10 : VS L53_10.eq_1 := rfl
def L53_11 : List AStep := ⟨.load 1 false (.t 24), (some 25), none, []⟩ :: ⟨.mov (.t 1), (some 26), none, []⟩ :: L53_10
theorem v53_11 : VS L53_11.eq_1 := rfl
def L53_12 : List AStep := ⟨.iaddr 3 (.t 21) (.t 22), (some 23), none, []⟩ :: ⟨.faddr 1 (.t 23), (some 24), none, []⟩ :: L53_11
theorem v53_12 : VS L53_12.eq_1 := rfl
def L53_13 : List AStep := ⟨.mov (.t 0), (some 21), none, []⟩ :: ⟨.mov (.t 5), (some 22), none, []⟩ :: L53_12
theorem v53_13 : VS L53_13.eq_1 := rfl
def L53_14 : List AStep := [⟨.call 52 [(.t 32), (.t 33)], (some 34), none, []⟩, ⟨.mov (.t 34), (some 1), none, []⟩]
theorem v53_14 : VS L53_14.eq_1 := rfl
def L53_15 : List AStep := ⟨.load 1 false (.t 31), (some 32), none, []⟩ :: ⟨.mov (.t 1), (some 33), none, []⟩ :: L53_14
theorem v53_15 : VS L53_15.eq_1 := rfl
def L53_16 : List AStep := ⟨.iaddr 3 (.t 28) (.t 29), (some 30), none, []⟩ :: ⟨.faddr 2 (.t 30), (some 31), none, []⟩ :: L53_15
theorem v53_16 : VS L53_16.eq_1 := rfl
def L53_17 : List AStep := ⟨.mov (.t 0), (some 28), none, []⟩ :: ⟨.mov (.t 5), (some 29), none, []⟩ :: L53_16
theorem v53_17 : VS L53_17.eq_1 := rfl
def L53_18 : List AStep := [⟨.mov (.t 11), (some 5), none, []⟩]
theorem v53_18 : VS L53_18.eq_1 := rfl
def L53_19 : List AStep := ⟨.mov (.t 5), (some 10), none, []⟩ :: ⟨.bin .add (.t 10) (.c (.int .i64 1)), (some 11), none, []⟩ :: L53_18
theorem v53_19 : VS L53_19.eq_1 := rfl
def L53_20 : List AStep := [⟨.mov (.t 1), (some 35), none, []⟩, ⟨.mov (.t 35), (some 4), none, []⟩]
theorem v53_20 : VS L53_20.eq_1 := rfl
def C53_0 : ACode := .cond (.t 9) .skip (.exit 0)
theorem u53_0 : VC C53_0.eq_1 := rfl
def C53_1 : ACode := .seq (.reg L53_3) C53_0
theorem u53_1 : VC C53_1.eq_1 := rfl
def C53_2 : ACode := .seq (.reg L53_13) (.reg L53_17)
theorem u53_2 : VC C53_2.eq_1 := rfl
def C53_3 : ACode := .seq (.reg L53_9) C53_2
theorem u53_3 : VC C53_3.eq_1 := rfl
def C53_4 : ACode := .seq (.reg L53_7) C53_3
theorem u53_4 : VC C53_4.eq_1 := rfl
def C53_5 : ACode := .block 1 C53_4
theorem u53_5 : VC C53_5.eq_1 := rfl
def C53_6 : ACode := .seq C53_5 (.reg L53_19)
theorem u53_6 : VC C53_6.eq_1 := rfl
def C53_7 : ACode := .seq C53_1 C53_6
theorem u53_7 : VC C53_7.eq_1 := rfl
def C53_8 : ACode := .block 0 (.loop C53_7)
theorem u53_8 : VC C53_8.eq_1 := rfl
def C53_9 : ACode := .seq (.reg L53_1) C53_8
theorem u53_9 : VC C53_9.eq_1 := rfl
def C53_10 : ACode := .seq (.reg L53_20) .ret
theorem u53_10 : VC C53_10.eq_1 := rfl
def C53_11 : ACode := .seq C53_9 C53_10
theorem u53_11 : VC C53_11.eq_1 := rfl
def C53_12 : ACode := .seq (.reg L53_0) C53_11
theorem u53_12 : VC C53_12.eq_1 := rfl
def F53 : AFunc := ⟨36, [.tmp 4], C53_12⟩
theorem cF53 : compB Try.prog 53 = some F53 := by kernel_rfl
attribute [local go_sem ↓] u53_0 u53_1 u53_2 u53_3 u53_4 u53_5 u53_6 u53_7 u53_8 u53_9 u53_10 u53_11 u53_12 v53_0 v53_1 v53_2 v53_3 v53_4 v53_5 v53_6 v53_7 v53_8 v53_9 v53_10 v53_11 v53_12 v53_13 v53_14 v53_15 v53_16 v53_17 v53_18 v53_19 v53_20
theorem c_markSlotS (l : List Slot) (v : CV) (rs : List RSlot) (k : Int) (h0 hb h : H) {l0 : List Slot} (hl : NwY h0 h v rs l) (ho : NwY h0 hb v rs l0) (g : Grow h0 h) (k1 : 0 ≤ k) (k2 : k ≤ 2 ^ 32) (hn : miniY l) :
    callK (bm Try.prog 53 [.one v, .one (.int .i64 k)] h) fun r h' => r = ii (k + (cellsY l : Nat)) ∧ Grow h0 h' ∧ SlY h' v (mkY k l) ∧ Mid h0.n hb.n h h' ∧ (Grow h h' → SlY h v (mkY k l)) := by
  refine bm_of cF53 ?_
  simp +contextual (maxSteps := 2000000) only [go_sem, Nat.reduceEqDiff, reduceCtorEq, Nat.reduceAdd, Nat.reduceLeDiff, F53]
  refine wpC_loop (fun i T L h' => Grow h0 h' ∧ Mid h0.n hb.n h h' ∧ T 0 = .v (.one v) ∧ T 1 = .v (.one (.int .i64 (k + ((wsum cellsEY l i : Nat) : Int)))) ∧ T 5 = .v (.one (.int .i64 i)) ∧ ∃ rs2 : List RSlot, (∀ j (hj : j < rs.length) (hj2 : j < rs2.length), rs2[j].lv = rs[j].lv ∧ rs2[j].pv = rs[j].pv) ∧ OwY h0 h' v rs2 l.length (mixY k l i)) l.length ?_ ?_ (Nat.zero_le _) ?_
  · rintro i T L h' hi ⟨g, M, t0, t1, t5, rs2, hsame, x⟩
    have hi2 : i < rs2.length := by rw [x.len]; exact hi
    have hi1 : i < rs.length := by rw [ho.out.len.trans (ho.out.len.symm.trans hl.out.len)]; exact hi
    have hsm := hsame i hi1 hi2
    have hlen := x.out.length
    rw [x.len] at hlen
    have hws : wsum cellsEY l (i + 1) ≤ cellsY l := wsum_le (by omega)
    have hwn := wsum_next (f := cellsEY) hi
    have hcl := hn.cells
    have hzlv := hn.list _ (List.getElem_mem hi)
    have hzpv := hn.pairs _ (List.getElem_mem hi)
    have hfi := mixY_at (k := k) hi
    have hel := x.el i hi2
    rw [hfi] at hel
    have wr1 : IntKind.i64.wrap ((k + ((wsum cellsEY l i : Nat) : Int)) + 1) = ((k + ((wsum cellsEY l i : Nat) : Int)) + 1) := (i64_wrap (by omega) (by omega)).trans (by omega)
    have ia0 := (x.out).iaddr (i := i) (by first | exact hi2 | (simp only [List.length_set]; exact hi2)) (kd := .i64)
    simp +contextual (maxSteps := 2000000) only [go_sem, Nat.reduceEqDiff, reduceCtorEq, Nat.reduceAdd, Nat.reduceLeDiff, t0, t1, t5, hlen, lt_true hi, wr1, bin_rem (k := .i64) (a := (k + ((wsum cellsEY l i : Nat) : Int))) (b := 3) (by decide), ia0]
    refine wp_set (x := (⟨(mBool (k + ((wsum cellsEY l i : Nat) : Int))), rs2[i].lv, rs2[i].pv⟩ : RSlot)) (off := 0) (vs := [.bool (mBool (k + ((wsum cellsEY l i : Nat) : Int)))]) lenY (x.out) (by first | exact hi2 | (simp only [List.length_set]; exact hi2)) rfl (by simp [encY, List.getElem_set_self]) (Nat.le_of_ble_eq_true rfl) g ?_
    intro ha0 ga0 na0 sa0
    have o0 : OwY h0 ha0 v _ _ (updY (mixY k l i) i (⟨(mBool (k + ((wsum cellsEY l i : Nat) : Int))), l[i].list, l[i].pairs⟩ : Slot)) := x.set hi2 (r := ⟨(mBool (k + ((wsum cellsEY l i : Nat) : Int))), rs2[i].lv, rs2[i].pv⟩) (a := (⟨(mBool (k + ((wsum cellsEY l i : Nat) : Int))), l[i].list, l[i].pairs⟩ : Slot)) na0 sa0 rfl rfl (by rw [hfi]) rfl (by rw [hfi])
    have M0 := M.trans (ho.out.out.mid sa0)
    have hi3 : i < (rs2.set i ⟨(mBool (k + ((wsum cellsEY l i : Nat) : Int))), rs2[i].lv, rs2[i].pv⟩).length := by simpa using hi2
    have hr3 : (rs2.set i ⟨(mBool (k + ((wsum cellsEY l i : Nat) : Int))), rs2[i].lv, rs2[i].pv⟩)[i] = ⟨(mBool (k + ((wsum cellsEY l i : Nat) : Int))), rs2[i].lv, rs2[i].pv⟩ := List.getElem_set_self _
    have f0 : updY (mixY k l i) i (⟨(mBool (k + ((wsum cellsEY l i : Nat) : Int))), l[i].list, l[i].pairs⟩ : Slot) i = (⟨(mBool (k + ((wsum cellsEY l i : Nat) : Int))), l[i].list, l[i].pairs⟩ : Slot) := updY_at
    have ib0 := o0.out.iaddr hi3 (kd := .i64)
    have e0 := o0.el i hi3
    rw [f0] at e0
    rw [hr3] at e0
    have hq0 := (o0.out.sl lenY).fieldO (off := 1) hi3 (by omega)
    rw [hr3] at hq0
    simp +contextual (maxSteps := 2000000) only [go_sem, Nat.reduceEqDiff, reduceCtorEq, Nat.reduceAdd, Nat.reduceLeDiff, t0, t1, t5, hlen, lt_true hi, wr1, bin_rem (k := .i64) (a := (k + ((wsum cellsEY l i : Nat) : Int))) (b := 3) (by decide), ib0, hq0]
    refine wp_call (c_markIntS l[i].list (.one rs2[i].lv) ((k + ((wsum cellsEY l i : Nat) : Int)) + 1) h0 ha0 e0.list ga0 (by omega) (by omega) (by have := hn.list _ (List.getElem_mem hi); omega)) ?_
    rintro r hc0 ⟨rfl, gc0, nc0, sc0⟩
    have o1 : OwY h0 hc0 v (rs2.set i ⟨(mBool (k + ((wsum cellsEY l i : Nat) : Int))), rs2[i].lv, rs2[i].pv⟩) l.length (updY (updY (mixY k l i) i (⟨(mBool (k + ((wsum cellsEY l i : Nat) : Int))), l[i].list, l[i].pairs⟩ : Slot)) i (⟨(mBool (k + ((wsum cellsEY l i : Nat) : Int))), markL mkI 1 ((k + ((wsum cellsEY l i : Nat) : Int)) + 1) l[i].list.length, l[i].pairs⟩ : Slot)) := by
      have z := o0.list hi3 (by rw [hr3]; exact nc0) (by rw [hr3]; exact sc0)
      rw [f0] at z
      exact z
    have M1 := M0.trans (((ho.out.el i hi1).list).mid (h1 := hc0) (by rw [← hsm.1]; exact sc0))
    have f1 : updY (updY (mixY k l i) i (⟨(mBool (k + ((wsum cellsEY l i : Nat) : Int))), l[i].list, l[i].pairs⟩ : Slot)) i (⟨(mBool (k + ((wsum cellsEY l i : Nat) : Int))), markL mkI 1 ((k + ((wsum cellsEY l i : Nat) : Int)) + 1) l[i].list.length, l[i].pairs⟩ : Slot) i = (⟨(mBool (k + ((wsum cellsEY l i : Nat) : Int))), markL mkI 1 ((k + ((wsum cellsEY l i : Nat) : Int)) + 1) l[i].list.length, l[i].pairs⟩ : Slot) := updY_at
    have ib1 := o1.out.iaddr hi3 (kd := .i64)
    have e1 := o1.el i hi3
    rw [f1] at e1
    rw [hr3] at e1
    have hq1 := (o1.out.sl lenY).fieldO (off := 2) hi3 (by omega)
    rw [hr3] at hq1
    simp +contextual (maxSteps := 2000000) only [go_sem, Nat.reduceEqDiff, reduceCtorEq, Nat.reduceAdd, Nat.reduceLeDiff, t0, t1, t5, hlen, lt_true hi, wr1, bin_rem (k := .i64) (a := (k + ((wsum cellsEY l i : Nat) : Int))) (b := 3) (by decide), ib1, hq1]
    refine wp_call (c_markPairS l[i].pairs (.one rs2[i].pv) (((k + ((wsum cellsEY l i : Nat) : Int)) + 1) + ((1 * l[i].list.length : Nat) : Int)) h0 hc0 e1.pairs gc0 (by omega) (by omega) (by have := hn.pairs _ (List.getElem_mem hi); omega)) ?_
    rintro r hc1 ⟨rfl, gc1, nc1, sc1⟩
    have o2 : OwY h0 hc1 v (rs2.set i ⟨(mBool (k + ((wsum cellsEY l i : Nat) : Int))), rs2[i].lv, rs2[i].pv⟩) l.length (updY (updY (updY (mixY k l i) i (⟨(mBool (k + ((wsum cellsEY l i : Nat) : Int))), l[i].list, l[i].pairs⟩ : Slot)) i (⟨(mBool (k + ((wsum cellsEY l i : Nat) : Int))), markL mkI 1 ((k + ((wsum cellsEY l i : Nat) : Int)) + 1) l[i].list.length, l[i].pairs⟩ : Slot)) i (⟨(mBool (k + ((wsum cellsEY l i : Nat) : Int))), markL mkI 1 ((k + ((wsum cellsEY l i : Nat) : Int)) + 1) l[i].list.length, markL mkP 2 (((k + ((wsum cellsEY l i : Nat) : Int)) + 1) + ((1 * l[i].list.length : Nat) : Int)) l[i].pairs.length⟩ : Slot)) := by
      have z := o1.pairs hi3 (by rw [hr3]; exact nc1) (by rw [hr3]; exact sc1)
      rw [f1] at z
      exact z
    have M2 := M1.trans (((ho.out.el i hi1).pairs).mid (h1 := hc1) (by rw [← hsm.2]; exact sc1))
    have f2 : updY (updY (updY (mixY k l i) i (⟨(mBool (k + ((wsum cellsEY l i : Nat) : Int))), l[i].list, l[i].pairs⟩ : Slot)) i (⟨(mBool (k + ((wsum cellsEY l i : Nat) : Int))), markL mkI 1 ((k + ((wsum cellsEY l i : Nat) : Int)) + 1) l[i].list.length, l[i].pairs⟩ : Slot)) i (⟨(mBool (k + ((wsum cellsEY l i : Nat) : Int))), markL mkI 1 ((k + ((wsum cellsEY l i : Nat) : Int)) + 1) l[i].list.length, markL mkP 2 (((k + ((wsum cellsEY l i : Nat) : Int)) + 1) + ((1 * l[i].list.length : Nat) : Int)) l[i].pairs.length⟩ : Slot) i = (⟨(mBool (k + ((wsum cellsEY l i : Nat) : Int))), markL mkI 1 ((k + ((wsum cellsEY l i : Nat) : Int)) + 1) l[i].list.length, markL mkP 2 (((k + ((wsum cellsEY l i : Nat) : Int)) + 1) + ((1 * l[i].list.length : Nat) : Int)) l[i].pairs.length⟩ : Slot) := updY_at
    simp +contextual (maxSteps := 2000000) only [go_sem, Nat.reduceEqDiff, reduceCtorEq, Nat.reduceAdd, Nat.reduceLeDiff, t0, t1, t5, hlen, lt_true hi, wr1, bin_rem (k := .i64) (a := (k + ((wsum cellsEY l i : Nat) : Int))) (b := 3) (by decide)]
    have ek : ((((k + ((wsum cellsEY l i : Nat) : Int)) + 1) + ((1 * l[i].list.length : Nat) : Int)) + ((2 * l[i].pairs.length : Nat) : Int)) = k + ((wsum cellsEY l (i + 1) : Nat) : Int) := by rw [hwn]; unfold cellsEY; omega
    have o9 := o2
    rw [updY_upd, updY_upd, show (⟨(mBool (k + ((wsum cellsEY l i : Nat) : Int))), markL mkI 1 ((k + ((wsum cellsEY l i : Nat) : Int)) + 1) l[i].list.length, markL mkP 2 (((k + ((wsum cellsEY l i : Nat) : Int)) + 1) + ((1 * l[i].list.length : Nat) : Int)) l[i].pairs.length⟩ : Slot) = mkEY (k + ((wsum cellsEY l i : Nat) : Int)) l[i] from rfl, mixY_next hi] at o9
    refine ⟨gc1, M2, ?_, ?_, _, fun j hj hj2 => by
      have z := hsame j hj (by simpa using hj2)
      rw [List.getElem_set]
      split
      · rename_i e; subst e; exact z
      · exact z, o9⟩
    · rw [ek]
    · rw [wrap_next hi (Nat.lt_of_le_of_lt hn.len (by decide))]
  · rintro T L h' ⟨g, M, t0, t1, t5, rs2, hsame, x⟩
    have hlen := x.out.length
    rw [x.len] at hlen
    simp +contextual (maxSteps := 2000000) only [go_sem, Nat.reduceEqDiff, reduceCtorEq, Nat.reduceAdd, Nat.reduceLeDiff, t0, t1, t5, hlen, lt_false]
    have y := x.congr (fun j hj => mixY_all hj)
    have yr : SlY h' v (mkY k l) := ⟨rs2, by rw [mkY_len]; exact y.rd⟩
    have back : Grow h h' → SlY h v (mkY k l) := fun gg => ⟨rs2, (y.out.back hl.out.out gg).sl lenY, by rw [mkY_len]; exact y.len, fun j hj => by
      have hj1 : j < rs.length := by rw [hl.out.len, ← y.len]; exact hj
      have z := hsame j hj1 hj
      exact ⟨(y.el j hj).given, ((y.el j hj).list.back (by rw [z.1]; exact (hl.out.el j hj1).list) gg).sl lenI, ((y.el j hj).pairs.back (by rw [z.2]; exact (hl.out.el j hj1).pairs) gg).sl lenP⟩⟩
    exact gcK_of ⟨rfl, g, yr, M, back⟩ (fun _ gg => ⟨rfl, ‹Grow h0 h›, back gg, (Grow.refl h).mid, fun _ => back gg⟩)
  · simp +contextual (maxSteps := 2000000) only [go_sem, Nat.reduceEqDiff, reduceCtorEq, Nat.reduceAdd, Nat.reduceLeDiff]
    exact ⟨g, (Grow.refl h).mid, by simp [wsum_zero], rfl, rs, fun j hj hj2 => by simp, hl.out.congr (fun j hj => mixY_zero.symm)⟩
/-! laws.heldSlotS -/
def L54_0 : List AStep := [⟨.mov (.c (.int .i64 0)), (some 4), none, []⟩]
theorem v54_0 : VS L54_0.eq_1 := rfl
def L54_1 : List AStep := [⟨.mov (.c (.int .i64 0)), (some 5), none, []⟩]
theorem v54_1 : VS L54_1.eq_1 := rfl
def L54_2 : List AStep := [⟨.len (.t 7), (some 8), none, []⟩, ⟨.bin .lss (.t 6) (.t 8), (some 9), none, []⟩]
theorem v54_2 : VS L54_2.eq_1 := rfl
def L54_3 : List AStep := ⟨.mov (.t 5), (some 6), none, []⟩ :: ⟨.mov (.t 0), (some 7), none, []⟩ :: L54_2
theorem v54_3 : VS L54_3.eq_1 := rfl
def L54_4 : List AStep := [⟨.eqb true (.t 16) (.t 19), (some 20), none, []⟩]
theorem v54_4 : VS L54_4.eq_1 := rfl
def L54_5 : List AStep := ⟨.bin .rem (.t 17) (.c (.int .i64 3)), (some 18), none, []⟩ :: ⟨.bin .eql (.t 18) (.c (.int .i64 0)), (some 19), none, []⟩ :: L54_4
theorem v54_5 : VS L54_5.eq_1 := rfl
def L54_6 : List AStep := ⟨.load 1 false (.t 15), (some 16), none, []⟩ :: ⟨.mov (.t 1), (some 17), none, []⟩ :: L54_5
theorem v54_6 : VS L54_6.eq_1 := rfl
def L54_7 : List AStep := ⟨.iaddr 3 (.t 12) (.t 13), (some 14), none, []⟩ :: ⟨.faddr 0 (.t 14), (some 15), none, []⟩ :: L54_6
theorem v54_7 : VS L54_7.eq_1 := rfl
def L54_8 : List AStep := ⟨.mov (.t 0), (some 12), none, []⟩ :: ⟨.mov (.t 5), (some 13), none, []⟩ :: L54_7
theorem v54_8 : VS L54_8.eq_1 := rfl
def L54_9 : List AStep := [⟨.mov (.c (.int .i64 (-1))), (some 4), none, []⟩]
theorem v54_9 : VS L54_9.eq_1 := rfl
def L54_10 : List AStep := [⟨.mov (.t 22), (some 1), none, []⟩]
theorem v54_10 : VS L54_10.eq_1 := rfl
def L54_11 : List AStep := ⟨.mov (.t 1), (some 21), none, []⟩ :: ⟨.bin .add (.t 21) (.c (.int .i64 1)), (some 22), none, []⟩ :: L54_10
theorem v54_11 : VS L54_11.eq_1 := rfl
def L54_12 : List AStep := [⟨.call 82 [(.t 27), (.t 28)], (some 29), none, []⟩, ⟨.mov (.t 29), (some 1), none, []⟩]
theorem v54_12 : VS L54_12.eq_1 := rfl
def L54_13 : List AStep := ⟨.load 1 false (.t 26), (some 27), none, []⟩ :: ⟨.mov (.t 1), (some 28), none, []⟩ :: L54_12
theorem v54_13 : VS L54_13.eq_1 := rfl
def L54_14 : List AStep := ⟨.iaddr 3 (.t 23) (.t 24), (some 25), none, []⟩ :: ⟨.faddr 1 (.t 25), (some 26), none, []⟩ :: L54_13
theorem v54_14 : VS L54_14.eq_1 := rfl
def L54_15 : List AStep := ⟨.mov (.t 0), (some 23), none, []⟩ :: ⟨.mov (.t 5), (some 24), none, []⟩ :: L54_14
theorem v54_15 : VS L54_15.eq_1 := rfl
def L54_16 : List AStep := [⟨.mov (.t 1), (some 30), none, []⟩, ⟨.bin .lss (.t 30) (.c (.int .i64 0)), (some 31), none, []⟩]
theorem v54_16 : VS L54_16.eq_1 := rfl
def L54_17 : List AStep := [⟨.mov (.c (.int .i64 (-1))), (some 4), none, []⟩]
theorem v54_17 : VS L54_17.eq_1 := rfl
def L54_18 : List AStep := [⟨.call 83 [(.t 36), (.t 37)], (some 38), none, []⟩, ⟨.mov (.t 38), (some 1), none, []⟩]
theorem v54_18 : VS L54_18.eq_1 := rfl
def L54_19 : List AStep := ⟨.load 1 false (.t 35), (some 36), none, []⟩ :: ⟨.mov (.t 1), (some 37), none, []⟩ :: L54_18
theorem v54_19 : VS L54_19.eq_1 := rfl
def L54_20 : List AStep := ⟨.iaddr 3 (.t 32) (.t 33), (some 34), none, []⟩ :: ⟨.faddr 2 (.t 34), (some 35), none, []⟩ :: L54_19
theorem v54_20 : VS L54_20.eq_1 := rfl
def L54_21 : List AStep := ⟨.mov (.t 0), (some 32), none, []⟩ :: ⟨.mov (.t 5), (some 33), none, []⟩ :: L54_20
theorem v54_21 : VS L54_21.eq_1 := rfl
def L54_22 : List AStep := [⟨.mov (.t 1), (some 39), none, []⟩, ⟨.bin .lss (.t 39) (.c (.int .i64 0)), (some 40), none, []⟩]
theorem v54_22 : VS L54_22.eq_1 := rfl
def L54_23 : List AStep := [⟨.mov (.c (.int .i64 (-1))), (some 4), none, []⟩]
theorem v54_23 : VS L54_23.eq_1 := rfl
def L54_24 : List AStep := [⟨.mov (.t 11), (some 5), none, []⟩]
theorem v54_24 : VS L54_24.eq_1 := rfl
def L54_25 : List AStep := ⟨.mov (.t 5), (some 10), none, []⟩ :: ⟨.bin .add (.t 10) (.c (.int .i64 1)), (some 11), none, []⟩ :: L54_24
theorem v54_25 : VS L54_25.eq_1 := rfl
def L54_26 : List AStep := [⟨.mov (.t 1), (some 41), none, []⟩, ⟨.mov (.t 41), (some 4), none, []⟩]
theorem v54_26 : VS L54_26.eq_1 := rfl
def C54_0 : ACode := .cond (.t 9) .skip (.exit 0)
theorem u54_0 : VC C54_0.eq_1 := rfl
def C54_1 : ACode := .seq (.reg L54_3) C54_0
theorem u54_1 : VC C54_1.eq_1 := rfl
def C54_2 : ACode := .seq (.reg L54_9) .ret
theorem u54_2 : VC C54_2.eq_1 := rfl
def C54_3 : ACode := .cond (.t 20) C54_2 .skip
theorem u54_3 : VC C54_3.eq_1 := rfl
def C54_4 : ACode := .seq (.reg L54_8) C54_3
theorem u54_4 : VC C54_4.eq_1 := rfl
def C54_5 : ACode := .seq (.reg L54_17) .ret
theorem u54_5 : VC C54_5.eq_1 := rfl
def C54_6 : ACode := .cond (.t 31) C54_5 .skip
theorem u54_6 : VC C54_6.eq_1 := rfl
def C54_7 : ACode := .seq (.reg L54_16) C54_6
theorem u54_7 : VC C54_7.eq_1 := rfl
def C54_8 : ACode := .seq (.reg L54_23) .ret
theorem u54_8 : VC C54_8.eq_1 := rfl
def C54_9 : ACode := .cond (.t 40) C54_8 .skip
theorem u54_9 : VC C54_9.eq_1 := rfl
def C54_10 : ACode := .seq (.reg L54_22) C54_9
theorem u54_10 : VC C54_10.eq_1 := rfl
def C54_11 : ACode := .seq (.reg L54_21) C54_10
theorem u54_11 : VC C54_11.eq_1 := rfl
def C54_12 : ACode := .seq C54_7 C54_11
theorem u54_12 : VC C54_12.eq_1 := rfl
def C54_13 : ACode := .seq (.reg L54_15) C54_12
theorem u54_13 : VC C54_13.eq_1 := rfl
def C54_14 : ACode := .seq (.reg L54_11) C54_13
theorem u54_14 : VC C54_14.eq_1 := rfl
def C54_15 : ACode := .seq C54_4 C54_14
theorem u54_15 : VC C54_15.eq_1 := rfl
def C54_16 : ACode := .block 1 C54_15
theorem u54_16 : VC C54_16.eq_1 := rfl
def C54_17 : ACode := .seq C54_16 (.reg L54_25)
theorem u54_17 : VC C54_17.eq_1 := rfl
def C54_18 : ACode := .seq C54_1 C54_17
theorem u54_18 : VC C54_18.eq_1 := rfl
def C54_19 : ACode := .block 0 (.loop C54_18)
theorem u54_19 : VC C54_19.eq_1 := rfl
def C54_20 : ACode := .seq (.reg L54_1) C54_19
theorem u54_20 : VC C54_20.eq_1 := rfl
def C54_21 : ACode := .seq (.reg L54_26) .ret
theorem u54_21 : VC C54_21.eq_1 := rfl
def C54_22 : ACode := .seq C54_20 C54_21
theorem u54_22 : VC C54_22.eq_1 := rfl
def C54_23 : ACode := .seq (.reg L54_0) C54_22
theorem u54_23 : VC C54_23.eq_1 := rfl
def F54 : AFunc := ⟨42, [.tmp 4], C54_23⟩
theorem cF54 : compB Try.prog 54 = some F54 := by kernel_rfl
attribute [local go_sem ↓] u54_0 u54_1 u54_2 u54_3 u54_4 u54_5 u54_6 u54_7 u54_8 u54_9 u54_10 u54_11 u54_12 u54_13 u54_14 u54_15 u54_16 u54_17 u54_18 u54_19 u54_20 u54_21 u54_22 u54_23 v54_0 v54_1 v54_2 v54_3 v54_4 v54_5 v54_6 v54_7 v54_8 v54_9 v54_10 v54_11 v54_12 v54_13 v54_14 v54_15 v54_16 v54_17 v54_18 v54_19 v54_20 v54_21 v54_22 v54_23 v54_24 v54_25 v54_26
theorem c_heldSlotS (l : List Slot) (v : CV) (k : Int) (h : H) (hl : SlY h v (mkY k l)) (k1 : 0 ≤ k) (k2 : k ≤ 2 ^ 32) (hn : miniY l) : bm Try.prog 54 [.one v, .one (.int .i64 k)] h = some (ii (k + (cellsY l : Nat)), h) := by
  refine bm_eq cF54 ?_
  obtain ⟨rs, x⟩ := hl.ex
  have hlen := x.out.len
  rw [x.len, mkY_len] at hlen
  simp +contextual (maxSteps := 2000000) only [go_sem, Nat.reduceEqDiff, reduceCtorEq, Nat.reduceAdd, Nat.reduceLeDiff, F54]
  refine wpC_loop (fun i T L h' => h' = h ∧ T 0 = .v (.one v) ∧ T 1 = .v (.one (.int .i64 (k + ((wsum cellsEY l i : Nat) : Int)))) ∧ T 5 = .v (.one (.int .i64 i))) l.length ?_ ?_ (Nat.zero_le _) ?_
  · rintro i T L h' hi ⟨rfl, t0, t1, t5⟩
    have hi2 : i < rs.length := by rw [x.len, mkY_len]; exact hi
    have hws : wsum cellsEY l (i + 1) ≤ cellsY l := wsum_le (by omega)
    have hwn := wsum_next (f := cellsEY) hi
    have hcl := hn.cells
    have hzlv := hn.list _ (List.getElem_mem hi)
    have hzpv := hn.pairs _ (List.getElem_mem hi)
    have el := x.el i hi2
    rw [mkY_get hi, getY_eq hi] at el
    have hia := x.out.iaddr hi2 (kd := .i64)
    have wr1 : IntKind.i64.wrap ((k + ((wsum cellsEY l i : Nat) : Int)) + 1) = ((k + ((wsum cellsEY l i : Nat) : Int)) + 1) := (i64_wrap (by omega) (by omega)).trans (by omega)
    have hf0 := x.out.fieldO (off := 0) hi2 (by omega)
    rw [encY_0] at hf0
    rw [show rs[i].given = (mBool (k + ((wsum cellsEY l i : Nat) : Int))) from el.given] at hf0
    have hf1 := x.out.fieldO (off := 1) hi2 (by omega)
    rw [encY_1] at hf1
    have he0 := c_heldIntS l[i].list.length (.one rs[i].lv) ((k + ((wsum cellsEY l i : Nat) : Int)) + 1) h' el.list (by omega) (by omega) (by omega)
    have hd0 : decide ((((k + ((wsum cellsEY l i : Nat) : Int)) + 1) + ((1 * l[i].list.length : Nat) : Int)) < 0) = false := decide_eq_false (by omega)
    have hf2 := x.out.fieldO (off := 2) hi2 (by omega)
    rw [encY_2] at hf2
    have he1 := c_heldPairS l[i].pairs.length (.one rs[i].pv) (((k + ((wsum cellsEY l i : Nat) : Int)) + 1) + ((1 * l[i].list.length : Nat) : Int)) h' el.pairs (by omega) (by omega) (by omega)
    have hd1 : decide (((((k + ((wsum cellsEY l i : Nat) : Int)) + 1) + ((1 * l[i].list.length : Nat) : Int)) + ((2 * l[i].pairs.length : Nat) : Int)) < 0) = false := decide_eq_false (by omega)
    simp +contextual (maxSteps := 2000000) only [go_sem, Nat.reduceEqDiff, reduceCtorEq, Nat.reduceAdd, Nat.reduceLeDiff, t0, t1, t5, hlen, hia, lt_true hi, wr1, bin_rem (k := .i64) (a := (k + ((wsum cellsEY l i : Nat) : Int))) (b := 3) (by decide), mBool, decide_true, hf0, hf1, he0, hd0, hf2, he1, hd1]
    rw [show ((((k + ((wsum cellsEY l i : Nat) : Int)) + 1) + ((1 * l[i].list.length : Nat) : Int)) + ((2 * l[i].pairs.length : Nat) : Int)) = k + ((wsum cellsEY l (i + 1) : Nat) : Int) by rw [hwn]; unfold cellsEY; omega, wrap_next hi (Nat.lt_of_le_of_lt hn.len (by decide))]
    try exact ⟨rfl, rfl⟩
  · rintro T L h' ⟨rfl, t0, t1, t5⟩
    simp +contextual (maxSteps := 2000000) only [go_sem, Nat.reduceEqDiff, reduceCtorEq, Nat.reduceAdd, Nat.reduceLeDiff, t0, t1, t5, hlen, lt_false]
    try rfl
  · simp +contextual (maxSteps := 2000000) only [go_sem, Nat.reduceEqDiff, reduceCtorEq, Nat.reduceAdd, Nat.reduceLeDiff]
    try simp [wsum_zero]
/-! laws.eqBinding -/
def L14_0 : List AStep := [⟨.mov (.c (.bool false)), (some 4), none, []⟩]
theorem v14_0 : VS L14_0.eq_1 := rfl
def L14_1 : List AStep := ⟨.box 33 (.t 0), (some 2), none, []⟩ :: ⟨.box 33 (.t 1), (some 3), none, []⟩ :: L14_0
theorem v14_1 : VS L14_1.eq_1 := rfl
def L14_2 : List AStep := [⟨.call 46 [(.t 6), (.t 8)], (some 9), none, []⟩, ⟨.not (.t 9), (some 10), none, []⟩]
theorem v14_2 : VS L14_2.eq_1 := rfl
def L14_3 : List AStep := ⟨.faddr 0 (.t 3), (some 7), none, []⟩ :: ⟨.load 1 false (.t 7), (some 8), none, []⟩ :: L14_2
theorem v14_3 : VS L14_3.eq_1 := rfl
def L14_4 : List AStep := ⟨.faddr 0 (.t 2), (some 5), none, []⟩ :: ⟨.load 1 false (.t 5), (some 6), none, []⟩ :: L14_3
theorem v14_4 : VS L14_4.eq_1 := rfl
def L14_5 : List AStep := [⟨.mov (.c (.bool false)), (some 4), none, []⟩]
theorem v14_5 : VS L14_5.eq_1 := rfl
def L14_6 : List AStep := [⟨.mov (.c (.bool true)), (some 4), none, []⟩]
theorem v14_6 : VS L14_6.eq_1 := rfl
def C14_0 : ACode := .seq (.reg L14_5) .ret
theorem u14_0 : VC C14_0.eq_1 := rfl
def C14_1 : ACode := .cond (.t 10) C14_0 .skip
theorem u14_1 : VC C14_1.eq_1 := rfl
def C14_2 : ACode := .seq (.reg L14_4) C14_1
theorem u14_2 : VC C14_2.eq_1 := rfl
def C14_3 : ACode := .seq (.reg L14_6) .ret
theorem u14_3 : VC C14_3.eq_1 := rfl
def C14_4 : ACode := .seq C14_2 C14_3
theorem u14_4 : VC C14_4.eq_1 := rfl
def C14_5 : ACode := .seq (.reg L14_1) C14_4
theorem u14_5 : VC C14_5.eq_1 := rfl
def F14 : AFunc := ⟨11, [.tmp 4], C14_5⟩
theorem cF14 : compB Try.prog 14 = some F14 := by kernel_rfl
attribute [local go_sem ↓] u14_0 u14_1 u14_2 u14_3 u14_4 u14_5 v14_0 v14_1 v14_2 v14_3 v14_4 v14_5 v14_6
theorem k_eqY (x y : List Slot) (p q : CV) (h : H) (a : SlY h p x) (b : SlY h q y) (m : miniY x) : bm Try.prog 14 [.agg [p], .agg [q]] h = some (ib (decide (x = y)), h) := by
  refine bm_eq cF14 ?_
  simp +contextual (maxSteps := 2000000) only [go_sem, Nat.reduceEqDiff, reduceCtorEq, Nat.reduceAdd, Nat.reduceLeDiff, F14, c_eqSlotS _ _ _ _ _ a b m]
  try (cases decide (x = y) <;> simp)
/-! laws.markBinding -/
def L19_0 : List AStep := [⟨.box 33 (.t 0), (some 2), none, []⟩, ⟨.mov (.c (.int .i64 0)), (some 4), none, []⟩]
theorem v19_0 : VS L19_0.eq_1 := rfl
def L19_1 : List AStep := [⟨.mov (.t 8), (some 1), none, []⟩]
theorem v19_1 : VS L19_1.eq_1 := rfl
def L19_2 : List AStep := ⟨.mov (.t 1), (some 7), none, []⟩ :: ⟨.call 53 [(.t 6), (.t 7)], (some 8), none, []⟩ :: L19_1
theorem v19_2 : VS L19_2.eq_1 := rfl
def L19_3 : List AStep := ⟨.faddr 0 (.t 2), (some 5), none, []⟩ :: ⟨.load 1 false (.t 5), (some 6), none, []⟩ :: L19_2
theorem v19_3 : VS L19_3.eq_1 := rfl
def L19_4 : List AStep := [⟨.mov (.t 1), (some 9), none, []⟩, ⟨.mov (.t 9), (some 4), none, []⟩]
theorem v19_4 : VS L19_4.eq_1 := rfl
def C19_0 : ACode := .seq (.reg L19_4) .ret
theorem u19_0 : VC C19_0.eq_1 := rfl
def C19_1 : ACode := .seq (.reg L19_3) C19_0
theorem u19_1 : VC C19_1.eq_1 := rfl
def C19_2 : ACode := .seq (.reg L19_0) C19_1
theorem u19_2 : VC C19_2.eq_1 := rfl
def F19 : AFunc := ⟨10, [.tmp 4], C19_2⟩
theorem cF19 : compB Try.prog 19 = some F19 := by kernel_rfl
attribute [local go_sem ↓] u19_0 u19_1 u19_2 v19_0 v19_1 v19_2 v19_3 v19_4
theorem k_markY (x : List Slot) (p : CV) (rs : List RSlot) (k : Int) (h0 hb h : H) {x0 : List Slot} (a : NwY h0 h p rs x) (b : NwY h0 hb p rs x0) (g : Grow h0 h) (k1 : 0 ≤ k) (k2 : k ≤ 2 ^ 32) (m : miniY x) :
    callK (bm Try.prog 19 [.agg [p], .one (.int .i64 k)] h) fun r h' => r = ii (k + (cellsY x : Nat)) ∧ Grow h0 h' ∧ SlY h' p (mkY k x) ∧ Mid h0.n hb.n h h' := by
  refine bm_of cF19 ?_
  simp +contextual (maxSteps := 2000000) only [go_sem, Nat.reduceEqDiff, reduceCtorEq, Nat.reduceAdd, Nat.reduceLeDiff, F19]
  refine wp_call (c_markSlotS x p rs k h0 hb h a b g k1 k2 m) ?_
  rintro r h1 ⟨rfl, g1, n1, M1, bk⟩
  simp +contextual (maxSteps := 2000000) only [go_sem, Nat.reduceEqDiff, reduceCtorEq, Nat.reduceAdd, Nat.reduceLeDiff]
  exact gcK_of ⟨rfl, g1, n1, M1⟩ (fun _ gg => ⟨rfl, g, bk gg, (Grow.refl h).mid⟩)
/-! laws.heldBinding -/
def L20_0 : List AStep := [⟨.box 33 (.t 0), (some 2), none, []⟩, ⟨.mov (.c (.int .i64 0)), (some 4), none, []⟩]
theorem v20_0 : VS L20_0.eq_1 := rfl
def L20_1 : List AStep := [⟨.mov (.t 8), (some 1), none, []⟩]
theorem v20_1 : VS L20_1.eq_1 := rfl
def L20_2 : List AStep := ⟨.mov (.t 1), (some 7), none, []⟩ :: ⟨.call 54 [(.t 6), (.t 7)], (some 8), none, []⟩ :: L20_1
theorem v20_2 : VS L20_2.eq_1 := rfl
def L20_3 : List AStep := ⟨.faddr 0 (.t 2), (some 5), none, []⟩ :: ⟨.load 1 false (.t 5), (some 6), none, []⟩ :: L20_2
theorem v20_3 : VS L20_3.eq_1 := rfl
def L20_4 : List AStep := [⟨.mov (.t 1), (some 9), none, []⟩, ⟨.bin .lss (.t 9) (.c (.int .i64 0)), (some 10), none, []⟩]
theorem v20_4 : VS L20_4.eq_1 := rfl
def L20_5 : List AStep := [⟨.mov (.c (.int .i64 (-1))), (some 4), none, []⟩]
theorem v20_5 : VS L20_5.eq_1 := rfl
def L20_6 : List AStep := [⟨.mov (.t 1), (some 11), none, []⟩, ⟨.mov (.t 11), (some 4), none, []⟩]
theorem v20_6 : VS L20_6.eq_1 := rfl
def C20_0 : ACode := .seq (.reg L20_5) .ret
theorem u20_0 : VC C20_0.eq_1 := rfl
def C20_1 : ACode := .cond (.t 10) C20_0 .skip
theorem u20_1 : VC C20_1.eq_1 := rfl
def C20_2 : ACode := .seq (.reg L20_4) C20_1
theorem u20_2 : VC C20_2.eq_1 := rfl
def C20_3 : ACode := .seq (.reg L20_6) .ret
theorem u20_3 : VC C20_3.eq_1 := rfl
def C20_4 : ACode := .seq C20_2 C20_3
theorem u20_4 : VC C20_4.eq_1 := rfl
def C20_5 : ACode := .seq (.reg L20_3) C20_4
theorem u20_5 : VC C20_5.eq_1 := rfl
def C20_6 : ACode := .seq (.reg L20_0) C20_5
theorem u20_6 : VC C20_6.eq_1 := rfl
def F20 : AFunc := ⟨12, [.tmp 4], C20_6⟩
theorem cF20 : compB Try.prog 20 = some F20 := by kernel_rfl
attribute [local go_sem ↓] u20_0 u20_1 u20_2 u20_3 u20_4 u20_5 u20_6 v20_0 v20_1 v20_2 v20_3 v20_4 v20_5 v20_6
theorem k_heldY (x : List Slot) (p : CV) (k : Int) (h : H) (a : SlY h p (mkY k x)) (k1 : 0 ≤ k) (k2 : k ≤ 2 ^ 32) (m : miniY x) : bm Try.prog 20 [.agg [p], .one (.int .i64 k)] h = some (ii (k + (cellsY x : Nat)), h) := by
  refine bm_eq cF20 ?_
  simp +contextual (maxSteps := 2000000) only [go_sem, Nat.reduceEqDiff, reduceCtorEq, Nat.reduceAdd, Nat.reduceLeDiff, F20, c_heldSlotS x p k h a k1 k2 m, decide_eq_false (show ¬ (k + (cellsY x : Nat) < 0) by omega)]
attribute [local go_sem] lenV encV_0
end Go.Proofs.Ytdalgphpacikkaa.Am
