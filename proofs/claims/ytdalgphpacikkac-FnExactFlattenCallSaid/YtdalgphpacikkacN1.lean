/- Contracts of the laws on lists whose elements hold slices: equal, marked, held. -/
import Derived.Test.YtdalgphpacikkacDN
import Derived.Test.YtdalgphpacikkacL1
import Derived.Test.YtdalgphpacikkacL3
namespace Go.Proofs.Ytdalgphpacikkac.Am
open Go
set_option maxRecDepth 100000
set_option maxHeartbeats 4000000
set_option linter.unusedSimpArgs false
set_option linter.unusedVariables false
attribute [local go_sem ↓] bv_t bv_c ev_t ev_c put_same put_ne put_none kill_at pro_at lb_same lb_ne start_zero start_succ wpC_seq wpC_reg wpC_cond wpC_block wpC_skip wpC_exit wpC_ret thenQ_normal thenQ_exit thenQ_ret inBlk_normal inBlk_exit inBlk_ret wpS_nil wpS_step wpS_again wpS_guard wpO_mov wpO_load wpO_faddr wpO_nilCheck wpO_pick wpO_build wpO_bin wpO_eqb wpO_eqst wpO_eqnil wpO_not wpO_conv wpO_bytesStr wpO_iaddr wpO_idxStr wpO_field wpO_extract wpO_len wpO_lenStr wpO_cap wpO_min wpO_slice wpO_sliceStr wpO_alloc wpO_box wpO_store wpO_call wpO_callv wpO_mkfn wpO_buildSlice wpO_mkslice wpO_append wpO_appz proA_nil proA_cons tmpX_nil tmpX_tmp tmpX_cell doneB_normal doneB_ret agK_cons agK_nil agK_guard agG_tt agG_ff agG_tf agG_ft agG_undef pureB_load results_one results_two results_nil resBs_cons resBs_nil resB_tmp resB_cell
attribute [local go_sem] kill_v kill_lp_ne kill_lp_same pro_v pro_lp_same pro_lp_ne av_v av_lp optB_some optX_some valX_eq ldX_lp ldX_v faX_lp faX_v ncX_lp ncX_ptr ncX_fn boxK_one boxK_agg stL_some stK_lp_one stK_lp_agg stK_v_one stK_v_agg proM_v proM_lp callG_mk callVG_mk callvK_fn fnG_mk ptrsA_nil ptrsA_cons callH_some whenA_true whenA_false guardH_tt guardH_ff guardH_tf guardH_ft guardH_undef agV_one agV_agg lenO_sl lenStrO_str notO_bool pickO_bool convO_int eqbO_bool eqnilO_sl extractO_tup capO_sl minO_int loadL_one loadL_all storeL_eq fillA_nil fillA_one fillA_agg nat_ge neg_ge nat_lt neg_lt buildO bin_add bin_sub bin_mul bin_eql bin_neq bin_lss bin_leq bin_gtr bin_geq str_eql str_neq str_lss str_leq str_gtr str_geq retK_some endK_mk gcK_same gcK_int gcK_bool tupO_one tupO_agg rdy_self ib ii Option.map_none Option.map_some Option.some.injEq exists_eq_left' exists_eq_left ne_eq not_false_eq_true if_true if_false List.map_cons List.map_nil List.getElem?_cons_zero List.getElem?_cons_succ List.length_cons List.length_nil List.take_succ_cons List.take_zero List.take_nil List.drop_succ_cons List.drop_zero List.drop_nil List.cons_append List.nil_append List.append_nil List.set_cons_zero List.set_cons_succ Nat.zero_add forall_const true_and and_true and_self Bool.false_eq_true false_implies true_implies implies_true Bool.not_true Bool.not_false Bool.not_eq_true' Bool.not_eq_false' beq_self_eq_true Bool.bne_true Bool.bne_false
attribute [local go_sem] lenI lenS lenP lenQ lenB lenL lenT encI_0 encS_0 encP_0 encP_1 encQ_0 encQ_1 encQ_2 encQ_3 encB_0 encB_1 encL_0 encL_1 encT_0 encT_1
attribute [local go_sem low] whenA_bool guardH_bool
attribute [local go_sem] lenC encC_0 encC_1 encC_2 encC_3
/-! laws.eqArg -/
def L111_0 : List AStep := [⟨.mov (.c (.bool false)), (some 4), none, []⟩]
theorem v111_0 : VS L111_0.eq_1 := rfl
def L111_1 : List AStep := ⟨.box 104 (.t 0), (some 2), none, []⟩ :: ⟨.box 104 (.t 1), (some 3), none, []⟩ :: L111_0
theorem v111_1 : VS L111_1.eq_1 := rfl
def L111_2 : List AStep := [⟨.bin .neq (.t 6) (.t 8), (some 9), none, []⟩]
theorem v111_2 : VS L111_2.eq_1 := rfl
def L111_3 : List AStep := ⟨.faddr 0 (.t 3), (some 7), none, []⟩ :: ⟨.load 1 false (.t 7), (some 8), none, []⟩ :: L111_2
theorem v111_3 : VS L111_3.eq_1 := rfl
def L111_4 : List AStep := ⟨.faddr 0 (.t 2), (some 5), none, []⟩ :: ⟨.load 1 false (.t 5), (some 6), none, []⟩ :: L111_3
theorem v111_4 : VS L111_4.eq_1 := rfl
def L111_5 : List AStep := [⟨.mov (.c (.bool false)), (some 4), none, []⟩]
theorem v111_5 : VS L111_5.eq_1 := rfl
def L111_6 : List AStep := [⟨.bin .neq (.t 11) (.t 13), (some 14), none, []⟩]
theorem v111_6 : VS L111_6.eq_1 := rfl
def L111_7 : List AStep := ⟨.faddr 1 (.t 3), (some 12), none, []⟩ :: ⟨.load 1 false (.t 12), (some 13), none, []⟩ :: L111_6
theorem v111_7 : VS L111_7.eq_1 := rfl
def L111_8 : List AStep := ⟨.faddr 1 (.t 2), (some 10), none, []⟩ :: ⟨.load 1 false (.t 10), (some 11), none, []⟩ :: L111_7
theorem v111_8 : VS L111_8.eq_1 := rfl
def L111_9 : List AStep := [⟨.mov (.c (.bool false)), (some 4), none, []⟩]
theorem v111_9 : VS L111_9.eq_1 := rfl
def L111_10 : List AStep := [⟨.call 51 [(.t 16), (.t 18)], (some 19), none, []⟩, ⟨.not (.t 19), (some 20), none, []⟩]
theorem v111_10 : VS L111_10.eq_1 := rfl
def L111_11 : List AStep := ⟨.faddr 2 (.t 3), (some 17), none, []⟩ :: ⟨.load 1 false (.t 17), (some 18), none, []⟩ :: L111_10
theorem v111_11 : VS L111_11.eq_1 := rfl
def L111_12 : List AStep := ⟨.faddr 2 (.t 2), (some 15), none, []⟩ :: ⟨.load 1 false (.t 15), (some 16), none, []⟩ :: L111_11
theorem v111_12 : VS L111_12.eq_1 := rfl
def L111_13 : List AStep := [⟨.mov (.c (.bool false)), (some 4), none, []⟩]
theorem v111_13 : VS L111_13.eq_1 := rfl
def L111_14 : List AStep := [⟨.call 52 [(.t 22), (.t 24)], (some 25), none, []⟩, ⟨.not (.t 25), (some 26), none, []⟩]
theorem v111_14 : VS L111_14.eq_1 := rfl
def L111_15 : List AStep := ⟨.faddr 3 (.t 3), (some 23), none, []⟩ :: ⟨.load 1 false (.t 23), (some 24), none, []⟩ :: L111_14
theorem v111_15 : VS L111_15.eq_1 := rfl
def L111_16 : List AStep := ⟨.faddr 3 (.t 2), (some 21), none, []⟩ :: ⟨.load 1 false (.t 21), (some 22), none, []⟩ :: L111_15
theorem v111_16 : VS L111_16.eq_1 := rfl
def L111_17 : List AStep := [⟨.mov (.c (.bool false)), (some 4), none, []⟩]
theorem v111_17 : VS L111_17.eq_1 := rfl
def L111_18 : List AStep := [⟨.mov (.c (.bool true)), (some 4), none, []⟩]
theorem v111_18 : VS L111_18.eq_1 := rfl
def C111_0 : ACode := .seq (.reg L111_5) .ret
theorem u111_0 : VC C111_0.eq_1 := rfl
def C111_1 : ACode := .cond (.t 9) C111_0 .skip
theorem u111_1 : VC C111_1.eq_1 := rfl
def C111_2 : ACode := .seq (.reg L111_4) C111_1
theorem u111_2 : VC C111_2.eq_1 := rfl
def C111_3 : ACode := .seq (.reg L111_9) .ret
theorem u111_3 : VC C111_3.eq_1 := rfl
def C111_4 : ACode := .cond (.t 14) C111_3 .skip
theorem u111_4 : VC C111_4.eq_1 := rfl
def C111_5 : ACode := .seq (.reg L111_8) C111_4
theorem u111_5 : VC C111_5.eq_1 := rfl
def C111_6 : ACode := .seq (.reg L111_13) .ret
theorem u111_6 : VC C111_6.eq_1 := rfl
def C111_7 : ACode := .cond (.t 20) C111_6 .skip
theorem u111_7 : VC C111_7.eq_1 := rfl
def C111_8 : ACode := .seq (.reg L111_12) C111_7
theorem u111_8 : VC C111_8.eq_1 := rfl
def C111_9 : ACode := .seq (.reg L111_17) .ret
theorem u111_9 : VC C111_9.eq_1 := rfl
def C111_10 : ACode := .cond (.t 26) C111_9 .skip
theorem u111_10 : VC C111_10.eq_1 := rfl
def C111_11 : ACode := .seq (.reg L111_16) C111_10
theorem u111_11 : VC C111_11.eq_1 := rfl
def C111_12 : ACode := .seq (.reg L111_18) .ret
theorem u111_12 : VC C111_12.eq_1 := rfl
def C111_13 : ACode := .seq C111_11 C111_12
theorem u111_13 : VC C111_13.eq_1 := rfl
def C111_14 : ACode := .seq C111_8 C111_13
theorem u111_14 : VC C111_14.eq_1 := rfl
def C111_15 : ACode := .seq C111_5 C111_14
theorem u111_15 : VC C111_15.eq_1 := rfl
def C111_16 : ACode := .seq C111_2 C111_15
theorem u111_16 : VC C111_16.eq_1 := rfl
def C111_17 : ACode := .seq (.reg L111_1) C111_16
theorem u111_17 : VC C111_17.eq_1 := rfl
def F111 : AFunc := ⟨27, [.tmp 4], C111_17⟩
theorem cF111 : compB Try.prog 111 = some F111 := by kernel_rfl
attribute [local go_sem ↓] u111_0 u111_1 u111_2 u111_3 u111_4 u111_5 u111_6 u111_7 u111_8 u111_9 u111_10 u111_11 u111_12 u111_13 u111_14 u111_15 u111_16 u111_17 v111_0 v111_1 v111_2 v111_3 v111_4 v111_5 v111_6 v111_7 v111_8 v111_9 v111_10 v111_11 v111_12 v111_13 v111_14 v111_15 v111_16 v111_17 v111_18
theorem c_eqArg (r q : RArg) (a b : Arg) (h : H) (x : AtC 3 106 h r a) (y : AtC 3 106 h q b) (k0 : a.list.length ≤ big) (k1 : a.pairs.length ≤ big) : bm Try.prog 111 [.agg (encC r), .agg (encC q)] h = some (ib (decide (a = b)), h) := by
  refine bm_eq cF111 ?_
  have e1 : encC r = [.int .i64 a.kind, .str a.name, r.lv, r.pv] := by simp only [encC, x.kind, x.name]
  have e2 : encC q = [.int .i64 b.kind, .str b.name, q.lv, q.pv] := by simp only [encC, y.kind, y.name]
  have ed : decide (a = b) = (decide (a.kind = b.kind) && (decide (a.name = b.name) && (decide (a.list = b.list) && decide (a.pairs = b.pairs)))) := by
    cases a
    cases b
    rw [Bool.eq_iff_iff]
    simp
  rw [e1, e2, ed]
  cases b0 : decide (a.kind = b.kind) with
  | false => simp +contextual (maxSteps := 2000000) only [go_sem, Nat.reduceEqDiff, reduceCtorEq, Nat.reduceAdd, Nat.reduceLeDiff, F111, c_eqIntS _ _ _ _ _ x.list y.list k0, c_eqPairS _ _ _ _ _ x.pairs y.pairs k1, b0, Bool.true_and, Bool.false_and]
  | true =>
  cases b1 : decide (a.name = b.name) with
  | false => simp +contextual (maxSteps := 2000000) only [go_sem, Nat.reduceEqDiff, reduceCtorEq, Nat.reduceAdd, Nat.reduceLeDiff, F111, c_eqIntS _ _ _ _ _ x.list y.list k0, c_eqPairS _ _ _ _ _ x.pairs y.pairs k1, b0, b1, Bool.true_and, Bool.false_and]
  | true =>
  cases b2 : decide (a.list = b.list) with
  | false => simp +contextual (maxSteps := 2000000) only [go_sem, Nat.reduceEqDiff, reduceCtorEq, Nat.reduceAdd, Nat.reduceLeDiff, F111, c_eqIntS _ _ _ _ _ x.list y.list k0, c_eqPairS _ _ _ _ _ x.pairs y.pairs k1, b0, b1, b2, Bool.true_and, Bool.false_and]
  | true =>
  cases b3 : decide (a.pairs = b.pairs) with
  | false => simp +contextual (maxSteps := 2000000) only [go_sem, Nat.reduceEqDiff, reduceCtorEq, Nat.reduceAdd, Nat.reduceLeDiff, F111, c_eqIntS _ _ _ _ _ x.list y.list k0, c_eqPairS _ _ _ _ _ x.pairs y.pairs k1, b0, b1, b2, b3, Bool.true_and, Bool.false_and]
  | true =>
  simp +contextual (maxSteps := 2000000) only [go_sem, Nat.reduceEqDiff, reduceCtorEq, Nat.reduceAdd, Nat.reduceLeDiff, F111, c_eqIntS _ _ _ _ _ x.list y.list k0, c_eqPairS _ _ _ _ _ x.pairs y.pairs k1, b0, b1, b2, b3, Bool.true_and]
/-! laws.eqArgS -/
def L65_0 : List AStep := [⟨.mov (.c (.bool false)), (some 4), none, []⟩]
theorem v65_0 : VS L65_0.eq_1 := rfl
def L65_1 : List AStep := [⟨.bin .neq (.t 7) (.t 9), (some 10), none, []⟩]
theorem v65_1 : VS L65_1.eq_1 := rfl
def L65_2 : List AStep := ⟨.mov (.t 1), (some 8), none, []⟩ :: ⟨.len (.t 8), (some 9), none, []⟩ :: L65_1
theorem v65_2 : VS L65_2.eq_1 := rfl
def L65_3 : List AStep := ⟨.mov (.t 0), (some 6), none, []⟩ :: ⟨.len (.t 6), (some 7), none, []⟩ :: L65_2
theorem v65_3 : VS L65_3.eq_1 := rfl
def L65_4 : List AStep := [⟨.mov (.c (.bool false)), (some 4), none, []⟩]
theorem v65_4 : VS L65_4.eq_1 := rfl
def L65_5 : List AStep := [⟨.mov (.c (.int .i64 0)), (some 5), none, []⟩]
theorem v65_5 : VS L65_5.eq_1 := rfl
def L65_6 : List AStep := [⟨.len (.t 12), (some 13), none, []⟩, ⟨.bin .lss (.t 11) (.t 13), (some 14), none, []⟩]
theorem v65_6 : VS L65_6.eq_1 := rfl
def L65_7 : List AStep := ⟨.mov (.t 5), (some 11), none, []⟩ :: ⟨.mov (.t 0), (some 12), none, []⟩ :: L65_6
theorem v65_7 : VS L65_7.eq_1 := rfl
def L65_8 : List AStep := [⟨.call 111 [(.t 20), (.t 24)], (some 25), none, []⟩, ⟨.not (.t 25), (some 26), none, []⟩]
theorem v65_8 : VS L65_8.eq_1 := rfl
def L65_9 : List AStep := ⟨.iaddr 4 (.t 21) (.t 22), (some 23), none, []⟩ :: ⟨.load 4 true (.t 23), (some 24), none, []⟩ :: L65_8
theorem v65_9 : VS L65_9.eq_1 := rfl
def L65_10 : List AStep := ⟨.mov (.t 1), (some 21), none, []⟩ :: ⟨.mov (.t 5), (some 22), none, []⟩ :: L65_9
theorem v65_10 : VS L65_10.eq_1 := rfl
def L65_11 : List AStep := ⟨.iaddr 4 (.t 17) (.t 18), (some 19), none, []⟩ :: ⟨.load 4 true (.t 19), (some 20), none, []⟩ :: L65_10
theorem v65_11 : VS L65_11.eq_1 := rfl
def L65_12 : List AStep := ⟨.mov (.t 0), (some 17), none, []⟩ :: ⟨.mov (.t 5), (some 18), none, []⟩ :: L65_11
theorem v65_12 : VS L65_12.eq_1 := rfl
def L65_13 : List AStep := [⟨.mov (.c (.bool false)), (some 4), none, []⟩]
theorem v65_13 : VS L65_13.eq_1 := rfl
def L65_14 : List AStep := [⟨.mov (.t 16), (some 5), none, []⟩]
theorem v65_14 : VS L65_14.eq_1 := rfl
def L65_15 : List AStep := ⟨.mov (.t 5), (some 15), none, []⟩ :: ⟨.bin .add (.t 15) (.c (.int .i64 1)), (some 16), none, []⟩ :: L65_14
theorem v65_15 : VS L65_15.eq_1 := rfl
def L65_16 : List AStep := [⟨.mov (.c (.bool true)), (some 4), none, []⟩]
theorem v65_16 : VS L65_16.eq_1 := rfl
def C65_0 : ACode := .seq (.reg L65_4) .ret
theorem u65_0 : VC C65_0.eq_1 := rfl
def C65_1 : ACode := .cond (.t 10) C65_0 .skip
theorem u65_1 : VC C65_1.eq_1 := rfl
def C65_2 : ACode := .seq (.reg L65_3) C65_1
theorem u65_2 : VC C65_2.eq_1 := rfl
def C65_3 : ACode := .cond (.t 14) .skip (.exit 0)
theorem u65_3 : VC C65_3.eq_1 := rfl
def C65_4 : ACode := .seq (.reg L65_7) C65_3
theorem u65_4 : VC C65_4.eq_1 := rfl
def C65_5 : ACode := .seq (.reg L65_13) .ret
theorem u65_5 : VC C65_5.eq_1 := rfl
def C65_6 : ACode := .cond (.t 26) C65_5 .skip
theorem u65_6 : VC C65_6.eq_1 := rfl
def C65_7 : ACode := .seq (.reg L65_12) C65_6
theorem u65_7 : VC C65_7.eq_1 := rfl
def C65_8 : ACode := .block 1 C65_7
theorem u65_8 : VC C65_8.eq_1 := rfl
def C65_9 : ACode := .seq C65_8 (.reg L65_15)
theorem u65_9 : VC C65_9.eq_1 := rfl
def C65_10 : ACode := .seq C65_4 C65_9
theorem u65_10 : VC C65_10.eq_1 := rfl
def C65_11 : ACode := .block 0 (.loop C65_10)
theorem u65_11 : VC C65_11.eq_1 := rfl
def C65_12 : ACode := .seq (.reg L65_5) C65_11
theorem u65_12 : VC C65_12.eq_1 := rfl
def C65_13 : ACode := .seq (.reg L65_16) .ret
theorem u65_13 : VC C65_13.eq_1 := rfl
def C65_14 : ACode := .seq C65_12 C65_13
theorem u65_14 : VC C65_14.eq_1 := rfl
def C65_15 : ACode := .seq C65_2 C65_14
theorem u65_15 : VC C65_15.eq_1 := rfl
def C65_16 : ACode := .seq (.reg L65_0) C65_15
theorem u65_16 : VC C65_16.eq_1 := rfl
def F65 : AFunc := ⟨27, [.tmp 4], C65_16⟩
theorem cF65 : compB Try.prog 65 = some F65 := by kernel_rfl
attribute [local go_sem ↓] u65_0 u65_1 u65_2 u65_3 u65_4 u65_5 u65_6 u65_7 u65_8 u65_9 u65_10 u65_11 u65_12 u65_13 u65_14 u65_15 u65_16 v65_0 v65_1 v65_2 v65_3 v65_4 v65_5 v65_6 v65_7 v65_8 v65_9 v65_10 v65_11 v65_12 v65_13 v65_14 v65_15 v65_16
theorem c_eqArgS (l m : List Arg) (v w : CV) (h : H) (hl : SlC h v l) (hm : SlC h w m) (hn : miniC l) : bm Try.prog 65 [.one v, .one w] h = some (ib (decide (l = m)), h) := by
  refine bm_eq cF65 ?_
  obtain ⟨rs, x⟩ := hl.ex
  obtain ⟨qs, y⟩ := hm.ex
  have len1 := x.out.len
  have len2 := y.out.len
  rw [x.len] at len1
  rw [y.len] at len2
  by_cases hlen : l.length = m.length
  case neg =>
    have e1 : decide ((l.length : Int) = (m.length : Int)) = false := decide_eq_false (by omega)
    simp +contextual (maxSteps := 2000000) only [go_sem, Nat.reduceEqDiff, reduceCtorEq, Nat.reduceAdd, Nat.reduceLeDiff, F65, len1, len2, e1]
    rw [ne_len e1]
  have e1 : decide ((l.length : Int) = (m.length : Int)) = true := decide_eq_true (by omega)
  simp +contextual (maxSteps := 2000000) only [go_sem, Nat.reduceEqDiff, reduceCtorEq, Nat.reduceAdd, Nat.reduceLeDiff, F65, len1, len2, e1]
  refine wpC_loop (fun i T L h' => h' = h ∧ T 0 = .v (.one v) ∧ T 1 = .v (.one w) ∧ T 5 = .v (.one (.int .i64 i)) ∧ Upto (eqAt l m) i) l.length ?_ ?_ (Nat.zero_le _) ?_
  · rintro i T L h' hi ⟨rfl, t0, t1, t5, hu⟩
    have him : i < m.length := by omega
    have hi1 : i < rs.length := by rw [x.len]; exact hi
    have hi2 : i < qs.length := by rw [y.len]; exact him
    have e2 := eqAt_eq hi him
    have hw1 := x.out.whole hi1
    have hw2 := y.out.whole hi2
    have ee := c_eqArg rs[i] qs[i] _ _ h' (x.el i hi1) (y.el i hi2) (by rw [getC_eq hi]; exact Nat.le_trans (hn.list _ (List.getElem_mem hi)) (by decide)) (by rw [getC_eq hi]; exact Nat.le_trans (hn.pairs _ (List.getElem_mem hi)) (by decide))
    rw [getC_eq hi, getC_eq him] at ee
    simp +contextual (maxSteps := 2000000) only [go_sem, Nat.reduceEqDiff, reduceCtorEq, Nat.reduceAdd, Nat.reduceLeDiff, t0, t1, t5, len1, len2, x.out.iaddr hi1, y.out.iaddr hi2, hw1, hw2, ee, lt_true hi]
    (repeat' (first | refine And.intro ?_ ?_ | intro _)) <;> first | rfl | rw [wrap_next hi (Nat.lt_of_le_of_lt hn.len (by decide))] | (refine hu.next ?_; rw [e2]; (simp_all; done)) | (rw [ne_at (l := l) (m := m) (i := i)]; rw [e2]; (simp_all; done))
  · rintro T L h' ⟨rfl, t0, t1, t5, hu⟩
    simp +contextual (maxSteps := 2000000) only [go_sem, Nat.reduceEqDiff, reduceCtorEq, Nat.reduceAdd, Nat.reduceLeDiff, t0, t1, t5, len1, len2, lt_false, decide_eq_true (eq_of_upto hlen hu)]
  · simp +contextual (maxSteps := 2000000) only [go_sem, Nat.reduceEqDiff, reduceCtorEq, Nat.reduceAdd, Nat.reduceLeDiff]
    (repeat' (first | refine And.intro ?_ ?_ | intro _)) <;> first | rfl | exact Upto.zero
/-! laws.markArgS -/
def L66_0 : List AStep := [⟨.mov (.c (.int .i64 0)), (some 4), none, []⟩]
theorem v66_0 : VS L66_0.eq_1 := rfl
def L66_1 : List AStep := [⟨.mov (.c (.int .i64 0)), (some 5), none, []⟩]
theorem v66_1 : VS L66_1.eq_1 := rfl
def L66_2 : List AStep := [⟨.len (.t 7), (some 8), none, []⟩, ⟨.bin .lss (.t 6) (.t 8), (some 9), none, []⟩]
theorem v66_2 : VS L66_2.eq_1 := rfl
def L66_3 : List AStep := ⟨.mov (.t 5), (some 6), none, []⟩ :: ⟨.mov (.t 0), (some 7), none, []⟩ :: L66_2
theorem v66_3 : VS L66_3.eq_1 := rfl
def L66_4 : List AStep := [⟨.faddr 0 (.t 15), (some 16), none, []⟩, ⟨.store 1 (.t 16) (.t 14), none, none, []⟩]
theorem v66_4 : VS L66_4.eq_1 := rfl
def L66_5 : List AStep := ⟨.mov (.t 1), (some 14), none, []⟩ :: ⟨.iaddr 4 (.t 12) (.t 13), (some 15), none, []⟩ :: L66_4
theorem v66_5 : VS L66_5.eq_1 := rfl
def L66_6 : List AStep := ⟨.mov (.t 0), (some 12), none, []⟩ :: ⟨.mov (.t 5), (some 13), none, []⟩ :: L66_5
theorem v66_6 : VS L66_6.eq_1 := rfl
def L66_7 : List AStep := [⟨.mov (.t 18), (some 1), none, []⟩]
theorem v66_7 : VS L66_7.eq_1 := rfl
def L66_8 : List AStep := ⟨.mov (.t 1), (some 17), none, []⟩ :: ⟨.bin .add (.t 17) (.c (.int .i64 1)), (some 18), none, []⟩ :: L66_7
theorem v66_8 : VS L66_8.eq_1 := rfl
def L66_9 : List AStep := [⟨.store 1 (.t 24) (.t 22), none, none, []⟩]
theorem v66_9 : VS L66_9.eq_1 := rfl
def L66_10 : List AStep := ⟨.iaddr 4 (.t 19) (.t 20), (some 23), none, []⟩ :: ⟨.faddr 1 (.t 23), (some 24), none, []⟩ :: L66_9
theorem v66_10 : VS L66_10.eq_1 := rfl
def L66_11 : List AStep := ⟨.mov (.t 1), (some 21), none, []⟩ :: ⟨.call 105 [(.t 21)], (some 22), none, []⟩ :: L66_10
theorem v66_11 : VS L66_11.eq_1 := rfl
def L66_12 : List AStep := ⟨.mov (.t 0), (some 19), none, []⟩ :: ⟨.mov (.t 5), (some 20), none, []⟩ :: L66_11
theorem v66_12 : VS L66_12.eq_1 := rfl
def L66_13 : List AStep := [⟨.mov (.t 26), (some 1), none, []⟩]
theorem v66_13 : VS L66_13.eq_1 := rfl
def L66_14 : List AStep := ⟨.mov (.t 1), (some 25), none, []⟩ :: ⟨.bin .add (.t 25) (.c (.int .i64 1)), (some 26), none, []⟩ :: L66_13
theorem v66_14 : VS L66_14.eq_1 := rfl
def L66_15 : List AStep := [⟨.call 56 [(.t 31), (.t 32)], (some 33), none, []⟩, ⟨.mov (.t 33), (some 1), none, []⟩]
theorem v66_15 : VS L66_15.eq_1 := rfl
def L66_16 : List AStep := ⟨.load 1 false (.t 30), (some 31), none, []⟩ :: ⟨.mov (.t 1), (some 32), none, []⟩ :: L66_15
theorem v66_16 : VS L66_16.eq_1 := rfl
def L66_17 : List AStep := ⟨.iaddr 4 (.t 27) (.t 28), (some 29), none, []⟩ :: ⟨.faddr 2 (.t 29), (some 30), none, []⟩ :: L66_16
theorem v66_17 : VS L66_17.eq_1 := rfl
def L66_18 : List AStep := ⟨.mov (.t 0), (some 27), none, []⟩ :: ⟨.mov (.t 5), (some 28), none, []⟩ :: L66_17
theorem v66_18 : VS L66_18.eq_1 := rfl
def L66_19 : List AStep := [⟨.call 55 [(.t 38), (.t 39)], (some 40), none, []⟩, ⟨.mov (.t 40), (some 1), none, []⟩]
theorem v66_19 : VS L66_19.eq_1 := rfl
def L66_20 : List AStep := ⟨.load 1 false (.t 37), (some 38), none, []⟩ :: ⟨.mov (.t 1), (some 39), none, []⟩ :: L66_19
theorem v66_20 : VS L66_20.eq_1 := rfl
def L66_21 : List AStep := ⟨.iaddr 4 (.t 34) (.t 35), (some 36), none, []⟩ :: ⟨.faddr 3 (.t 36), (some 37), none, []⟩ :: L66_20
theorem v66_21 : VS L66_21.eq_1 := rfl
def L66_22 : List AStep := ⟨.mov (.t 0), (some 34), none, []⟩ :: ⟨.mov (.t 5), (some 35), none, []⟩ :: L66_21
theorem v66_22 : VS L66_22.eq_1 := rfl
def L66_23 : List AStep := [⟨.mov (.t 11), (some 5), none, []⟩]
theorem v66_23 : VS L66_23.eq_1 := rfl
def L66_24 : List AStep := ⟨.mov (.t 5), (some 10), none, []⟩ :: ⟨.bin .add (.t 10) (.c (.int .i64 1)), (some 11), none, []⟩ :: L66_23
theorem v66_24 : VS L66_24.eq_1 := rfl
def L66_25 : List AStep := [⟨.mov (.t 1), (some 41), none, []⟩, ⟨.mov (.t 41), (some 4), none, []⟩]
theorem v66_25 : VS L66_25.eq_1 := rfl
def C66_0 : ACode := .cond (.t 9) .skip (.exit 0)
theorem u66_0 : VC C66_0.eq_1 := rfl
def C66_1 : ACode := .seq (.reg L66_3) C66_0
theorem u66_1 : VC C66_1.eq_1 := rfl
def C66_2 : ACode := .seq (.reg L66_18) (.reg L66_22)
theorem u66_2 : VC C66_2.eq_1 := rfl
def C66_3 : ACode := .seq (.reg L66_14) C66_2
theorem u66_3 : VC C66_3.eq_1 := rfl
def C66_4 : ACode := .seq (.reg L66_12) C66_3
theorem u66_4 : VC C66_4.eq_1 := rfl
def C66_5 : ACode := .seq (.reg L66_8) C66_4
theorem u66_5 : VC C66_5.eq_1 := rfl
def C66_6 : ACode := .seq (.reg L66_6) C66_5
theorem u66_6 : VC C66_6.eq_1 := rfl
def C66_7 : ACode := .block 1 C66_6
theorem u66_7 : VC C66_7.eq_1 := rfl
def C66_8 : ACode := .seq C66_7 (.reg L66_24)
theorem u66_8 : VC C66_8.eq_1 := rfl
def C66_9 : ACode := .seq C66_1 C66_8
theorem u66_9 : VC C66_9.eq_1 := rfl
def C66_10 : ACode := .block 0 (.loop C66_9)
theorem u66_10 : VC C66_10.eq_1 := rfl
def C66_11 : ACode := .seq (.reg L66_1) C66_10
theorem u66_11 : VC C66_11.eq_1 := rfl
def C66_12 : ACode := .seq (.reg L66_25) .ret
theorem u66_12 : VC C66_12.eq_1 := rfl
def C66_13 : ACode := .seq C66_11 C66_12
theorem u66_13 : VC C66_13.eq_1 := rfl
def C66_14 : ACode := .seq (.reg L66_0) C66_13
theorem u66_14 : VC C66_14.eq_1 := rfl
def F66 : AFunc := ⟨42, [.tmp 4], C66_14⟩
theorem cF66 : compB Try.prog 66 = some F66 := by kernel_rfl
attribute [local go_sem ↓] u66_0 u66_1 u66_2 u66_3 u66_4 u66_5 u66_6 u66_7 u66_8 u66_9 u66_10 u66_11 u66_12 u66_13 u66_14 v66_0 v66_1 v66_2 v66_3 v66_4 v66_5 v66_6 v66_7 v66_8 v66_9 v66_10 v66_11 v66_12 v66_13 v66_14 v66_15 v66_16 v66_17 v66_18 v66_19 v66_20 v66_21 v66_22 v66_23 v66_24 v66_25
theorem c_markArgS (l : List Arg) (v : CV) (rs : List RArg) (k : Int) (h0 hb h : H) {l0 : List Arg} (hl : NwC h0 h v rs l) (ho : NwC h0 hb v rs l0) (g : Grow h0 h) (k1 : 0 ≤ k) (k2 : k ≤ 2 ^ 32) (hn : miniC l) :
    callK (bm Try.prog 66 [.one v, .one (.int .i64 k)] h) fun r h' => r = ii (k + (cellsC l : Nat)) ∧ Grow h0 h' ∧ SlC h' v (mkC k l) ∧ Mid h0.n hb.n h h' ∧ (Grow h h' → SlC h v (mkC k l)) := by
  refine bm_of cF66 ?_
  simp +contextual (maxSteps := 2000000) only [go_sem, Nat.reduceEqDiff, reduceCtorEq, Nat.reduceAdd, Nat.reduceLeDiff, F66]
  refine wpC_loop (fun i T L h' => Grow h0 h' ∧ Mid h0.n hb.n h h' ∧ T 0 = .v (.one v) ∧ T 1 = .v (.one (.int .i64 (k + ((wsum cellsEC l i : Nat) : Int)))) ∧ T 5 = .v (.one (.int .i64 i)) ∧ ∃ rs2 : List RArg, (∀ j (hj : j < rs.length) (hj2 : j < rs2.length), rs2[j].lv = rs[j].lv ∧ rs2[j].pv = rs[j].pv) ∧ OwC h0 h' v rs2 l.length (mixC k l i)) l.length ?_ ?_ (Nat.zero_le _) ?_
  · rintro i T L h' hi ⟨g, M, t0, t1, t5, rs2, hsame, x⟩
    have hi2 : i < rs2.length := by rw [x.len]; exact hi
    have hi1 : i < rs.length := by rw [ho.out.len.trans (ho.out.len.symm.trans hl.out.len)]; exact hi
    have hsm := hsame i hi1 hi2
    have hlen := x.out.length
    rw [x.len] at hlen
    have hws : wsum cellsEC l (i + 1) ≤ cellsC l := wsum_le (by omega)
    have hwn := wsum_next (f := cellsEC) hi
    have hcl := hn.cells
    have hzlv := hn.list _ (List.getElem_mem hi)
    have hzpv := hn.pairs _ (List.getElem_mem hi)
    have hfi := mixC_at (k := k) hi
    have hel := x.el i hi2
    rw [hfi] at hel
    have wr1 : IntKind.i64.wrap ((k + ((wsum cellsEC l i : Nat) : Int)) + 1) = ((k + ((wsum cellsEC l i : Nat) : Int)) + 1) := (i64_wrap (by omega) (by omega)).trans (by omega)
    have wr2 : IntKind.i64.wrap (((k + ((wsum cellsEC l i : Nat) : Int)) + 1) + 1) = ((k + ((wsum cellsEC l i : Nat) : Int)) + 2) := (i64_wrap (by omega) (by omega)).trans (by omega)
    have ia0 := (x.out).iaddr (i := i) (by first | exact hi2 | (simp only [List.length_set]; exact hi2)) (kd := .i64)
    simp +contextual (maxSteps := 2000000) only [go_sem, Nat.reduceEqDiff, reduceCtorEq, Nat.reduceAdd, Nat.reduceLeDiff, t0, t1, t5, hlen, lt_true hi, wr1, wr2, c_markText ((k + ((wsum cellsEC l i : Nat) : Int)) + 1) _ (by omega), ia0]
    refine wp_set (x := (⟨(k + ((wsum cellsEC l i : Nat) : Int)), rs2[i].name, rs2[i].lv, rs2[i].pv⟩ : RArg)) (off := 0) (vs := [.int .i64 (k + ((wsum cellsEC l i : Nat) : Int))]) lenC (x.out) (by first | exact hi2 | (simp only [List.length_set]; exact hi2)) rfl (by simp [encC, List.getElem_set_self]) (Nat.le_of_ble_eq_true rfl) g ?_
    intro ha0 ga0 na0 sa0
    have ia1 := (na0).iaddr (i := i) (by first | exact hi2 | (simp only [List.length_set]; exact hi2)) (kd := .i64)
    simp +contextual (maxSteps := 2000000) only [go_sem, Nat.reduceEqDiff, reduceCtorEq, Nat.reduceAdd, Nat.reduceLeDiff, t0, t1, t5, hlen, lt_true hi, wr1, wr2, c_markText ((k + ((wsum cellsEC l i : Nat) : Int)) + 1) _ (by omega), ia1]
    refine wp_set (x := (⟨(k + ((wsum cellsEC l i : Nat) : Int)), (mtxt ((k + ((wsum cellsEC l i : Nat) : Int)) + 1)), rs2[i].lv, rs2[i].pv⟩ : RArg)) (off := 1) (vs := [.str (mtxt ((k + ((wsum cellsEC l i : Nat) : Int)) + 1))]) lenC (na0) (by first | exact hi2 | (simp only [List.length_set]; exact hi2)) rfl (by simp [encC, List.getElem_set_self]) (Nat.le_of_ble_eq_true rfl) ga0 ?_
    intro ha1 ga1 na1 sa1
    rw [List.set_set] at na1
    have o0 : OwC h0 ha1 v _ _ (updC (mixC k l i) i (⟨(k + ((wsum cellsEC l i : Nat) : Int)), (mtxt ((k + ((wsum cellsEC l i : Nat) : Int)) + 1)), l[i].list, l[i].pairs⟩ : Arg)) := x.set hi2 (r := ⟨(k + ((wsum cellsEC l i : Nat) : Int)), (mtxt ((k + ((wsum cellsEC l i : Nat) : Int)) + 1)), rs2[i].lv, rs2[i].pv⟩) (a := (⟨(k + ((wsum cellsEC l i : Nat) : Int)), (mtxt ((k + ((wsum cellsEC l i : Nat) : Int)) + 1)), l[i].list, l[i].pairs⟩ : Arg)) na1 (sa0.trans sa1) rfl rfl rfl (by rw [hfi]) rfl (by rw [hfi])
    have M0 := M.trans (ho.out.out.mid (sa0.trans sa1))
    have hi3 : i < (rs2.set i ⟨(k + ((wsum cellsEC l i : Nat) : Int)), (mtxt ((k + ((wsum cellsEC l i : Nat) : Int)) + 1)), rs2[i].lv, rs2[i].pv⟩).length := by simpa using hi2
    have hr3 : (rs2.set i ⟨(k + ((wsum cellsEC l i : Nat) : Int)), (mtxt ((k + ((wsum cellsEC l i : Nat) : Int)) + 1)), rs2[i].lv, rs2[i].pv⟩)[i] = ⟨(k + ((wsum cellsEC l i : Nat) : Int)), (mtxt ((k + ((wsum cellsEC l i : Nat) : Int)) + 1)), rs2[i].lv, rs2[i].pv⟩ := List.getElem_set_self _
    have f0 : updC (mixC k l i) i (⟨(k + ((wsum cellsEC l i : Nat) : Int)), (mtxt ((k + ((wsum cellsEC l i : Nat) : Int)) + 1)), l[i].list, l[i].pairs⟩ : Arg) i = (⟨(k + ((wsum cellsEC l i : Nat) : Int)), (mtxt ((k + ((wsum cellsEC l i : Nat) : Int)) + 1)), l[i].list, l[i].pairs⟩ : Arg) := updC_at
    have ib0 := o0.out.iaddr hi3 (kd := .i64)
    have e0 := o0.el i hi3
    rw [f0] at e0
    rw [hr3] at e0
    have hq0 := (o0.out.sl lenC).fieldO (off := 2) hi3 (by omega)
    rw [hr3] at hq0
    simp +contextual (maxSteps := 2000000) only [go_sem, Nat.reduceEqDiff, reduceCtorEq, Nat.reduceAdd, Nat.reduceLeDiff, t0, t1, t5, hlen, lt_true hi, wr1, wr2, c_markText ((k + ((wsum cellsEC l i : Nat) : Int)) + 1) _ (by omega), ib0, hq0]
    refine wp_call (c_markIntS l[i].list (.one rs2[i].lv) ((k + ((wsum cellsEC l i : Nat) : Int)) + 2) h0 ha1 e0.list ga1 (by omega) (by omega) (by have := hn.list _ (List.getElem_mem hi); omega)) ?_
    rintro r hc0 ⟨rfl, gc0, nc0, sc0⟩
    have o1 : OwC h0 hc0 v (rs2.set i ⟨(k + ((wsum cellsEC l i : Nat) : Int)), (mtxt ((k + ((wsum cellsEC l i : Nat) : Int)) + 1)), rs2[i].lv, rs2[i].pv⟩) l.length (updC (updC (mixC k l i) i (⟨(k + ((wsum cellsEC l i : Nat) : Int)), (mtxt ((k + ((wsum cellsEC l i : Nat) : Int)) + 1)), l[i].list, l[i].pairs⟩ : Arg)) i (⟨(k + ((wsum cellsEC l i : Nat) : Int)), (mtxt ((k + ((wsum cellsEC l i : Nat) : Int)) + 1)), markL mkI 1 ((k + ((wsum cellsEC l i : Nat) : Int)) + 2) l[i].list.length, l[i].pairs⟩ : Arg)) := by
      have z := o0.list hi3 (by rw [hr3]; exact nc0) (by rw [hr3]; exact sc0)
      rw [f0] at z
      exact z
    have M1 := M0.trans (((ho.out.el i hi1).list).mid (h1 := hc0) (by rw [← hsm.1]; exact sc0))
    have f1 : updC (updC (mixC k l i) i (⟨(k + ((wsum cellsEC l i : Nat) : Int)), (mtxt ((k + ((wsum cellsEC l i : Nat) : Int)) + 1)), l[i].list, l[i].pairs⟩ : Arg)) i (⟨(k + ((wsum cellsEC l i : Nat) : Int)), (mtxt ((k + ((wsum cellsEC l i : Nat) : Int)) + 1)), markL mkI 1 ((k + ((wsum cellsEC l i : Nat) : Int)) + 2) l[i].list.length, l[i].pairs⟩ : Arg) i = (⟨(k + ((wsum cellsEC l i : Nat) : Int)), (mtxt ((k + ((wsum cellsEC l i : Nat) : Int)) + 1)), markL mkI 1 ((k + ((wsum cellsEC l i : Nat) : Int)) + 2) l[i].list.length, l[i].pairs⟩ : Arg) := updC_at
    have ib1 := o1.out.iaddr hi3 (kd := .i64)
    have e1 := o1.el i hi3
    rw [f1] at e1
    rw [hr3] at e1
    have hq1 := (o1.out.sl lenC).fieldO (off := 3) hi3 (by omega)
    rw [hr3] at hq1
    simp +contextual (maxSteps := 2000000) only [go_sem, Nat.reduceEqDiff, reduceCtorEq, Nat.reduceAdd, Nat.reduceLeDiff, t0, t1, t5, hlen, lt_true hi, wr1, wr2, c_markText ((k + ((wsum cellsEC l i : Nat) : Int)) + 1) _ (by omega), ib1, hq1]
    refine wp_call (c_markPairS l[i].pairs (.one rs2[i].pv) (((k + ((wsum cellsEC l i : Nat) : Int)) + 2) + ((1 * l[i].list.length : Nat) : Int)) h0 hc0 e1.pairs gc0 (by omega) (by omega) (by have := hn.pairs _ (List.getElem_mem hi); omega)) ?_
    rintro r hc1 ⟨rfl, gc1, nc1, sc1⟩
    have o2 : OwC h0 hc1 v (rs2.set i ⟨(k + ((wsum cellsEC l i : Nat) : Int)), (mtxt ((k + ((wsum cellsEC l i : Nat) : Int)) + 1)), rs2[i].lv, rs2[i].pv⟩) l.length (updC (updC (updC (mixC k l i) i (⟨(k + ((wsum cellsEC l i : Nat) : Int)), (mtxt ((k + ((wsum cellsEC l i : Nat) : Int)) + 1)), l[i].list, l[i].pairs⟩ : Arg)) i (⟨(k + ((wsum cellsEC l i : Nat) : Int)), (mtxt ((k + ((wsum cellsEC l i : Nat) : Int)) + 1)), markL mkI 1 ((k + ((wsum cellsEC l i : Nat) : Int)) + 2) l[i].list.length, l[i].pairs⟩ : Arg)) i (⟨(k + ((wsum cellsEC l i : Nat) : Int)), (mtxt ((k + ((wsum cellsEC l i : Nat) : Int)) + 1)), markL mkI 1 ((k + ((wsum cellsEC l i : Nat) : Int)) + 2) l[i].list.length, markL mkP 2 (((k + ((wsum cellsEC l i : Nat) : Int)) + 2) + ((1 * l[i].list.length : Nat) : Int)) l[i].pairs.length⟩ : Arg)) := by
      have z := o1.pairs hi3 (by rw [hr3]; exact nc1) (by rw [hr3]; exact sc1)
      rw [f1] at z
      exact z
    have M2 := M1.trans (((ho.out.el i hi1).pairs).mid (h1 := hc1) (by rw [← hsm.2]; exact sc1))
    have f2 : updC (updC (updC (mixC k l i) i (⟨(k + ((wsum cellsEC l i : Nat) : Int)), (mtxt ((k + ((wsum cellsEC l i : Nat) : Int)) + 1)), l[i].list, l[i].pairs⟩ : Arg)) i (⟨(k + ((wsum cellsEC l i : Nat) : Int)), (mtxt ((k + ((wsum cellsEC l i : Nat) : Int)) + 1)), markL mkI 1 ((k + ((wsum cellsEC l i : Nat) : Int)) + 2) l[i].list.length, l[i].pairs⟩ : Arg)) i (⟨(k + ((wsum cellsEC l i : Nat) : Int)), (mtxt ((k + ((wsum cellsEC l i : Nat) : Int)) + 1)), markL mkI 1 ((k + ((wsum cellsEC l i : Nat) : Int)) + 2) l[i].list.length, markL mkP 2 (((k + ((wsum cellsEC l i : Nat) : Int)) + 2) + ((1 * l[i].list.length : Nat) : Int)) l[i].pairs.length⟩ : Arg) i = (⟨(k + ((wsum cellsEC l i : Nat) : Int)), (mtxt ((k + ((wsum cellsEC l i : Nat) : Int)) + 1)), markL mkI 1 ((k + ((wsum cellsEC l i : Nat) : Int)) + 2) l[i].list.length, markL mkP 2 (((k + ((wsum cellsEC l i : Nat) : Int)) + 2) + ((1 * l[i].list.length : Nat) : Int)) l[i].pairs.length⟩ : Arg) := updC_at
    simp +contextual (maxSteps := 2000000) only [go_sem, Nat.reduceEqDiff, reduceCtorEq, Nat.reduceAdd, Nat.reduceLeDiff, t0, t1, t5, hlen, lt_true hi, wr1, wr2, c_markText ((k + ((wsum cellsEC l i : Nat) : Int)) + 1) _ (by omega)]
    have ek : ((((k + ((wsum cellsEC l i : Nat) : Int)) + 2) + ((1 * l[i].list.length : Nat) : Int)) + ((2 * l[i].pairs.length : Nat) : Int)) = k + ((wsum cellsEC l (i + 1) : Nat) : Int) := by rw [hwn]; unfold cellsEC; omega
    have o9 := o2
    rw [updC_upd, updC_upd, show (⟨(k + ((wsum cellsEC l i : Nat) : Int)), (mtxt ((k + ((wsum cellsEC l i : Nat) : Int)) + 1)), markL mkI 1 ((k + ((wsum cellsEC l i : Nat) : Int)) + 2) l[i].list.length, markL mkP 2 (((k + ((wsum cellsEC l i : Nat) : Int)) + 2) + ((1 * l[i].list.length : Nat) : Int)) l[i].pairs.length⟩ : Arg) = mkEC (k + ((wsum cellsEC l i : Nat) : Int)) l[i] from rfl, mixC_next hi] at o9
    refine ⟨gc1, M2, ?_, ?_, _, fun j hj hj2 => by
      have z := hsame j hj (by simpa using hj2)
      rw [List.getElem_set]
      split
      · rename_i e; subst e; exact z
      · exact z, o9⟩
    · rw [ek]
    · rw [wrap_next hi (Nat.lt_of_le_of_lt hn.len (by decide))]
  · rintro T L h' ⟨g, M, t0, t1, t5, rs2, hsame, x⟩
    have hlen := x.out.length
    rw [x.len] at hlen
    simp +contextual (maxSteps := 2000000) only [go_sem, Nat.reduceEqDiff, reduceCtorEq, Nat.reduceAdd, Nat.reduceLeDiff, t0, t1, t5, hlen, lt_false]
    have y := x.congr (fun j hj => mixC_all hj)
    have yr : SlC h' v (mkC k l) := ⟨rs2, by rw [mkC_len]; exact y.rd⟩
    have back : Grow h h' → SlC h v (mkC k l) := fun gg => ⟨rs2, (y.out.back hl.out.out gg).sl lenC, by rw [mkC_len]; exact y.len, fun j hj => by
      have hj1 : j < rs.length := by rw [hl.out.len, ← y.len]; exact hj
      have z := hsame j hj1 hj
      exact ⟨(y.el j hj).kind, (y.el j hj).name, ((y.el j hj).list.back (by rw [z.1]; exact (hl.out.el j hj1).list) gg).sl lenI, ((y.el j hj).pairs.back (by rw [z.2]; exact (hl.out.el j hj1).pairs) gg).sl lenP⟩⟩
    exact gcK_of ⟨rfl, g, yr, M, back⟩ (fun _ gg => ⟨rfl, ‹Grow h0 h›, back gg, (Grow.refl h).mid, fun _ => back gg⟩)
  · simp +contextual (maxSteps := 2000000) only [go_sem, Nat.reduceEqDiff, reduceCtorEq, Nat.reduceAdd, Nat.reduceLeDiff]
    exact ⟨g, (Grow.refl h).mid, by simp [wsum_zero], rfl, rs, fun j hj hj2 => by simp, hl.out.congr (fun j hj => mixC_zero.symm)⟩
/-! laws.eqCall -/
def L23_0 : List AStep := [⟨.mov (.c (.bool false)), (some 4), none, []⟩]
theorem v23_0 : VS L23_0.eq_1 := rfl
def L23_1 : List AStep := ⟨.box 53 (.t 0), (some 2), none, []⟩ :: ⟨.box 53 (.t 1), (some 3), none, []⟩ :: L23_0
theorem v23_1 : VS L23_1.eq_1 := rfl
def L23_2 : List AStep := [⟨.call 65 [(.t 6), (.t 8)], (some 9), none, []⟩, ⟨.not (.t 9), (some 10), none, []⟩]
theorem v23_2 : VS L23_2.eq_1 := rfl
def L23_3 : List AStep := ⟨.faddr 0 (.t 3), (some 7), none, []⟩ :: ⟨.load 1 false (.t 7), (some 8), none, []⟩ :: L23_2
theorem v23_3 : VS L23_3.eq_1 := rfl
def L23_4 : List AStep := ⟨.faddr 0 (.t 2), (some 5), none, []⟩ :: ⟨.load 1 false (.t 5), (some 6), none, []⟩ :: L23_3
theorem v23_4 : VS L23_4.eq_1 := rfl
def L23_5 : List AStep := [⟨.mov (.c (.bool false)), (some 4), none, []⟩]
theorem v23_5 : VS L23_5.eq_1 := rfl
def L23_6 : List AStep := [⟨.mov (.c (.bool true)), (some 4), none, []⟩]
theorem v23_6 : VS L23_6.eq_1 := rfl
def C23_0 : ACode := .seq (.reg L23_5) .ret
theorem u23_0 : VC C23_0.eq_1 := rfl
def C23_1 : ACode := .cond (.t 10) C23_0 .skip
theorem u23_1 : VC C23_1.eq_1 := rfl
def C23_2 : ACode := .seq (.reg L23_4) C23_1
theorem u23_2 : VC C23_2.eq_1 := rfl
def C23_3 : ACode := .seq (.reg L23_6) .ret
theorem u23_3 : VC C23_3.eq_1 := rfl
def C23_4 : ACode := .seq C23_2 C23_3
theorem u23_4 : VC C23_4.eq_1 := rfl
def C23_5 : ACode := .seq (.reg L23_1) C23_4
theorem u23_5 : VC C23_5.eq_1 := rfl
def F23 : AFunc := ⟨11, [.tmp 4], C23_5⟩
theorem cF23 : compB Try.prog 23 = some F23 := by kernel_rfl
attribute [local go_sem ↓] u23_0 u23_1 u23_2 u23_3 u23_4 u23_5 v23_0 v23_1 v23_2 v23_3 v23_4 v23_5 v23_6
theorem k_eqC (x y : List Arg) (p q : CV) (h : H) (a : SlC h p x) (b : SlC h q y) (m : miniC x) : bm Try.prog 23 [.agg [p], .agg [q]] h = some (ib (decide (x = y)), h) := by
  refine bm_eq cF23 ?_
  simp +contextual (maxSteps := 2000000) only [go_sem, Nat.reduceEqDiff, reduceCtorEq, Nat.reduceAdd, Nat.reduceLeDiff, F23, c_eqArgS _ _ _ _ _ a b m]
  try (cases decide (x = y) <;> simp)
/-! laws.markCall -/
def L24_0 : List AStep := [⟨.box 53 (.t 0), (some 2), none, []⟩, ⟨.mov (.c (.int .i64 0)), (some 4), none, []⟩]
theorem v24_0 : VS L24_0.eq_1 := rfl
def L24_1 : List AStep := [⟨.mov (.t 8), (some 1), none, []⟩]
theorem v24_1 : VS L24_1.eq_1 := rfl
def L24_2 : List AStep := ⟨.mov (.t 1), (some 7), none, []⟩ :: ⟨.call 66 [(.t 6), (.t 7)], (some 8), none, []⟩ :: L24_1
theorem v24_2 : VS L24_2.eq_1 := rfl
def L24_3 : List AStep := ⟨.faddr 0 (.t 2), (some 5), none, []⟩ :: ⟨.load 1 false (.t 5), (some 6), none, []⟩ :: L24_2
theorem v24_3 : VS L24_3.eq_1 := rfl
def L24_4 : List AStep := [⟨.mov (.t 1), (some 9), none, []⟩, ⟨.mov (.t 9), (some 4), none, []⟩]
theorem v24_4 : VS L24_4.eq_1 := rfl
def C24_0 : ACode := .seq (.reg L24_4) .ret
theorem u24_0 : VC C24_0.eq_1 := rfl
def C24_1 : ACode := .seq (.reg L24_3) C24_0
theorem u24_1 : VC C24_1.eq_1 := rfl
def C24_2 : ACode := .seq (.reg L24_0) C24_1
theorem u24_2 : VC C24_2.eq_1 := rfl
def F24 : AFunc := ⟨10, [.tmp 4], C24_2⟩
theorem cF24 : compB Try.prog 24 = some F24 := by kernel_rfl
attribute [local go_sem ↓] u24_0 u24_1 u24_2 v24_0 v24_1 v24_2 v24_3 v24_4
theorem k_markC (x : List Arg) (p : CV) (rs : List RArg) (k : Int) (h0 hb h : H) {x0 : List Arg} (a : NwC h0 h p rs x) (b : NwC h0 hb p rs x0) (g : Grow h0 h) (k1 : 0 ≤ k) (k2 : k ≤ 2 ^ 32) (m : miniC x) :
    callK (bm Try.prog 24 [.agg [p], .one (.int .i64 k)] h) fun r h' => r = ii (k + (cellsC x : Nat)) ∧ Grow h0 h' ∧ SlC h' p (mkC k x) ∧ Mid h0.n hb.n h h' := by
  refine bm_of cF24 ?_
  simp +contextual (maxSteps := 2000000) only [go_sem, Nat.reduceEqDiff, reduceCtorEq, Nat.reduceAdd, Nat.reduceLeDiff, F24]
  refine wp_call (c_markArgS x p rs k h0 hb h a b g k1 k2 m) ?_
  rintro r h1 ⟨rfl, g1, n1, M1, bk⟩
  simp +contextual (maxSteps := 2000000) only [go_sem, Nat.reduceEqDiff, reduceCtorEq, Nat.reduceAdd, Nat.reduceLeDiff]
  exact gcK_of ⟨rfl, g1, n1, M1⟩ (fun _ gg => ⟨rfl, g, bk gg, (Grow.refl h).mid⟩)
attribute [local go_sem] lenY encY_0 encY_1 encY_2
attribute [local go_sem] lenV encV_0
end Go.Proofs.Ytdalgphpacikkac.Am
