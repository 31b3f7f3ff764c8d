/- Contracts of the laws on lists whose elements hold slices: equal, marked, held. -/
import Derived.Test.YtoeceafibmafpaaDoorDN
import Derived.Test.YtoeceafibmafpaaDoorL1
import Derived.Test.YtoeceafibmafpaaDoorL3
namespace Go.Proofs.YtoeceafibmafpaaDoor.Am
open Go
set_option maxRecDepth 100000
set_option maxHeartbeats 4000000
set_option linter.unusedSimpArgs false
set_option linter.unusedVariables false
attribute [local go_sem ↓] bv_t bv_c ev_t ev_c put_same put_ne put_none kill_at pro_at lb_same lb_ne start_zero start_succ wpC_seq wpC_reg wpC_cond wpC_block wpC_skip wpC_exit wpC_ret thenQ_normal thenQ_exit thenQ_ret inBlk_normal inBlk_exit inBlk_ret wpS_nil wpS_step wpS_again wpS_guard wpO_mov wpO_load wpO_faddr wpO_nilCheck wpO_pick wpO_build wpO_bin wpO_eqb wpO_eqst wpO_eqnil wpO_not wpO_conv wpO_bytesStr wpO_iaddr wpO_idxStr wpO_field wpO_extract wpO_len wpO_lenStr wpO_cap wpO_min wpO_slice wpO_sliceStr wpO_alloc wpO_box wpO_store wpO_call wpO_callv wpO_mkfn wpO_buildSlice wpO_mkslice wpO_append wpO_appz proA_nil proA_cons tmpX_nil tmpX_tmp tmpX_cell doneB_normal doneB_ret agK_cons agK_nil agK_guard agG_tt agG_ff agG_tf agG_ft agG_undef pureB_load results_one results_two results_nil resBs_cons resBs_nil resB_tmp resB_cell
attribute [local go_sem] kill_v kill_lp_ne kill_lp_same pro_v pro_lp_same pro_lp_ne av_v av_lp optB_some optX_some valX_eq ldX_lp ldX_v faX_lp faX_v ncX_lp ncX_ptr ncX_fn boxK_one boxK_agg stL_some stK_lp_one stK_lp_agg stK_v_one stK_v_agg proM_v proM_lp callG_mk callVG_mk callvK_fn fnG_mk ptrsA_nil ptrsA_cons callH_some whenA_true whenA_false guardH_tt guardH_ff guardH_tf guardH_ft guardH_undef agV_one agV_agg lenO_sl lenStrO_str notO_bool pickO_bool convO_int eqbO_bool eqnilO_sl extractO_tup capO_sl minO_int loadL_one loadL_all storeL_eq fillA_nil fillA_one fillA_agg nat_ge neg_ge nat_lt neg_lt buildO bin_add bin_sub bin_mul bin_eql bin_neq bin_lss bin_leq bin_gtr bin_geq str_eql str_neq str_lss str_leq str_gtr str_geq retK_some endK_mk gcK_same gcK_int gcK_bool tupO_one tupO_agg rdy_self ib ii Option.map_none Option.map_some Option.some.injEq exists_eq_left' exists_eq_left ne_eq not_false_eq_true if_true if_false List.map_cons List.map_nil List.getElem?_cons_zero List.getElem?_cons_succ List.length_cons List.length_nil List.take_succ_cons List.take_zero List.take_nil List.drop_succ_cons List.drop_zero List.drop_nil List.cons_append List.nil_append List.append_nil List.set_cons_zero List.set_cons_succ Nat.zero_add forall_const true_and and_true and_self Bool.false_eq_true false_implies true_implies implies_true Bool.not_true Bool.not_false Bool.not_eq_true' Bool.not_eq_false' beq_self_eq_true Bool.bne_true Bool.bne_false
attribute [local go_sem] lenI lenS lenP lenQ lenB lenL lenT encI_0 encS_0 encP_0 encP_1 encQ_0 encQ_1 encQ_2 encQ_3 encB_0 encB_1 encL_0 encL_1 encT_0 encT_1
attribute [local go_sem low] whenA_bool guardH_bool
attribute [local go_sem] lenC encC_0 encC_1 encC_2 encC_3
/-! laws.eqArg -/
def L101_0 : List AStep := [⟨.mov (.c (.bool false)), (some 4), none, []⟩]
theorem v101_0 : VS L101_0.eq_1 := rfl
def L101_1 : List AStep := ⟨.box 99 (.t 0), (some 2), none, []⟩ :: ⟨.box 99 (.t 1), (some 3), none, []⟩ :: L101_0
theorem v101_1 : VS L101_1.eq_1 := rfl
def L101_2 : List AStep := [⟨.bin .neq (.t 6) (.t 8), (some 9), none, []⟩]
theorem v101_2 : VS L101_2.eq_1 := rfl
def L101_3 : List AStep := ⟨.faddr 0 (.t 3), (some 7), none, []⟩ :: ⟨.load 1 false (.t 7), (some 8), none, []⟩ :: L101_2
theorem v101_3 : VS L101_3.eq_1 := rfl
def L101_4 : List AStep := ⟨.faddr 0 (.t 2), (some 5), none, []⟩ :: ⟨.load 1 false (.t 5), (some 6), none, []⟩ :: L101_3
theorem v101_4 : VS L101_4.eq_1 := rfl
def L101_5 : List AStep := [⟨.mov (.c (.bool false)), (some 4), none, []⟩]
theorem v101_5 : VS L101_5.eq_1 := rfl
def L101_6 : List AStep := [⟨.bin .neq (.t 11) (.t 13), (some 14), none, []⟩]
theorem v101_6 : VS L101_6.eq_1 := rfl
def L101_7 : List AStep := ⟨.faddr 1 (.t 3), (some 12), none, []⟩ :: ⟨.load 1 false (.t 12), (some 13), none, []⟩ :: L101_6
theorem v101_7 : VS L101_7.eq_1 := rfl
def L101_8 : List AStep := ⟨.faddr 1 (.t 2), (some 10), none, []⟩ :: ⟨.load 1 false (.t 10), (some 11), none, []⟩ :: L101_7
theorem v101_8 : VS L101_8.eq_1 := rfl
def L101_9 : List AStep := [⟨.mov (.c (.bool false)), (some 4), none, []⟩]
theorem v101_9 : VS L101_9.eq_1 := rfl
def L101_10 : List AStep := [⟨.call 127 [(.t 16), (.t 18)], (some 19), none, []⟩, ⟨.not (.t 19), (some 20), none, []⟩]
theorem v101_10 : VS L101_10.eq_1 := rfl
def L101_11 : List AStep := ⟨.faddr 2 (.t 3), (some 17), none, []⟩ :: ⟨.load 1 false (.t 17), (some 18), none, []⟩ :: L101_10
theorem v101_11 : VS L101_11.eq_1 := rfl
def L101_12 : List AStep := ⟨.faddr 2 (.t 2), (some 15), none, []⟩ :: ⟨.load 1 false (.t 15), (some 16), none, []⟩ :: L101_11
theorem v101_12 : VS L101_12.eq_1 := rfl
def L101_13 : List AStep := [⟨.mov (.c (.bool false)), (some 4), none, []⟩]
theorem v101_13 : VS L101_13.eq_1 := rfl
def L101_14 : List AStep := [⟨.call 128 [(.t 22), (.t 24)], (some 25), none, []⟩, ⟨.not (.t 25), (some 26), none, []⟩]
theorem v101_14 : VS L101_14.eq_1 := rfl
def L101_15 : List AStep := ⟨.faddr 3 (.t 3), (some 23), none, []⟩ :: ⟨.load 1 false (.t 23), (some 24), none, []⟩ :: L101_14
theorem v101_15 : VS L101_15.eq_1 := rfl
def L101_16 : List AStep := ⟨.faddr 3 (.t 2), (some 21), none, []⟩ :: ⟨.load 1 false (.t 21), (some 22), none, []⟩ :: L101_15
theorem v101_16 : VS L101_16.eq_1 := rfl
def L101_17 : List AStep := [⟨.mov (.c (.bool false)), (some 4), none, []⟩]
theorem v101_17 : VS L101_17.eq_1 := rfl
def L101_18 : List AStep := [⟨.mov (.c (.bool true)), (some 4), none, []⟩]
theorem v101_18 : VS L101_18.eq_1 := rfl
def C101_0 : ACode := .seq (.reg L101_5) .ret
theorem u101_0 : VC C101_0.eq_1 := rfl
def C101_1 : ACode := .cond (.t 9) C101_0 .skip
theorem u101_1 : VC C101_1.eq_1 := rfl
def C101_2 : ACode := .seq (.reg L101_4) C101_1
theorem u101_2 : VC C101_2.eq_1 := rfl
def C101_3 : ACode := .seq (.reg L101_9) .ret
theorem u101_3 : VC C101_3.eq_1 := rfl
def C101_4 : ACode := .cond (.t 14) C101_3 .skip
theorem u101_4 : VC C101_4.eq_1 := rfl
def C101_5 : ACode := .seq (.reg L101_8) C101_4
theorem u101_5 : VC C101_5.eq_1 := rfl
def C101_6 : ACode := .seq (.reg L101_13) .ret
theorem u101_6 : VC C101_6.eq_1 := rfl
def C101_7 : ACode := .cond (.t 20) C101_6 .skip
theorem u101_7 : VC C101_7.eq_1 := rfl
def C101_8 : ACode := .seq (.reg L101_12) C101_7
theorem u101_8 : VC C101_8.eq_1 := rfl
def C101_9 : ACode := .seq (.reg L101_17) .ret
theorem u101_9 : VC C101_9.eq_1 := rfl
def C101_10 : ACode := .cond (.t 26) C101_9 .skip
theorem u101_10 : VC C101_10.eq_1 := rfl
def C101_11 : ACode := .seq (.reg L101_16) C101_10
theorem u101_11 : VC C101_11.eq_1 := rfl
def C101_12 : ACode := .seq (.reg L101_18) .ret
theorem u101_12 : VC C101_12.eq_1 := rfl
def C101_13 : ACode := .seq C101_11 C101_12
theorem u101_13 : VC C101_13.eq_1 := rfl
def C101_14 : ACode := .seq C101_8 C101_13
theorem u101_14 : VC C101_14.eq_1 := rfl
def C101_15 : ACode := .seq C101_5 C101_14
theorem u101_15 : VC C101_15.eq_1 := rfl
def C101_16 : ACode := .seq C101_2 C101_15
theorem u101_16 : VC C101_16.eq_1 := rfl
def C101_17 : ACode := .seq (.reg L101_1) C101_16
theorem u101_17 : VC C101_17.eq_1 := rfl
def F101 : AFunc := ⟨27, [.tmp 4], C101_17⟩
theorem cF101 : compB Tryd.prog 101 = some F101 := by kernel_rfl
attribute [local go_sem ↓] u101_0 u101_1 u101_2 u101_3 u101_4 u101_5 u101_6 u101_7 u101_8 u101_9 u101_10 u101_11 u101_12 u101_13 u101_14 u101_15 u101_16 u101_17 v101_0 v101_1 v101_2 v101_3 v101_4 v101_5 v101_6 v101_7 v101_8 v101_9 v101_10 v101_11 v101_12 v101_13 v101_14 v101_15 v101_16 v101_17 v101_18
theorem c_eqArg (r q : RArg) (a b : Arg) (h : H) (x : AtC 3 151 h r a) (y : AtC 3 151 h q b) (k0 : a.list.length ≤ big) (k1 : a.pairs.length ≤ big) : bm Tryd.prog 101 [.agg (encC r), .agg (encC q)] h = some (ib (decide (a = b)), h) := by
  refine bm_eq cF101 ?_
  have e1 : encC r = [.int .i64 a.kind, .str a.name, r.lv, r.pv] := by simp only [encC, x.kind, x.name]
  have e2 : encC q = [.int .i64 b.kind, .str b.name, q.lv, q.pv] := by simp only [encC, y.kind, y.name]
  have ed : decide (a = b) = (decide (a.kind = b.kind) && (decide (a.name = b.name) && (decide (a.list = b.list) && decide (a.pairs = b.pairs)))) := by
    cases a
    cases b
    rw [Bool.eq_iff_iff]
    simp
  rw [e1, e2, ed]
  cases b0 : decide (a.kind = b.kind) with
  | false => simp +contextual (maxSteps := 2000000) only [go_sem, Nat.reduceEqDiff, reduceCtorEq, Nat.reduceAdd, Nat.reduceLeDiff, F101, c_eqIntS _ _ _ _ _ x.list y.list k0, c_eqPairS _ _ _ _ _ x.pairs y.pairs k1, b0, Bool.true_and, Bool.false_and]
  | true =>
  cases b1 : decide (a.name = b.name) with
  | false => simp +contextual (maxSteps := 2000000) only [go_sem, Nat.reduceEqDiff, reduceCtorEq, Nat.reduceAdd, Nat.reduceLeDiff, F101, c_eqIntS _ _ _ _ _ x.list y.list k0, c_eqPairS _ _ _ _ _ x.pairs y.pairs k1, b0, b1, Bool.true_and, Bool.false_and]
  | true =>
  cases b2 : decide (a.list = b.list) with
  | false => simp +contextual (maxSteps := 2000000) only [go_sem, Nat.reduceEqDiff, reduceCtorEq, Nat.reduceAdd, Nat.reduceLeDiff, F101, c_eqIntS _ _ _ _ _ x.list y.list k0, c_eqPairS _ _ _ _ _ x.pairs y.pairs k1, b0, b1, b2, Bool.true_and, Bool.false_and]
  | true =>
  cases b3 : decide (a.pairs = b.pairs) with
  | false => simp +contextual (maxSteps := 2000000) only [go_sem, Nat.reduceEqDiff, reduceCtorEq, Nat.reduceAdd, Nat.reduceLeDiff, F101, c_eqIntS _ _ _ _ _ x.list y.list k0, c_eqPairS _ _ _ _ _ x.pairs y.pairs k1, b0, b1, b2, b3, Bool.true_and, Bool.false_and]
  | true =>
  simp +contextual (maxSteps := 2000000) only [go_sem, Nat.reduceEqDiff, reduceCtorEq, Nat.reduceAdd, Nat.reduceLeDiff, F101, c_eqIntS _ _ _ _ _ x.list y.list k0, c_eqPairS _ _ _ _ _ x.pairs y.pairs k1, b0, b1, b2, b3, Bool.true_and]
/-! laws.eqArgS -/
def L65_0 : List AStep := [⟨.mov (.c (.bool false)), (some 4), none, []⟩]
theorem v65_0 : VS L65_0.eq_1 := rfl
def L65_1 : List AStep := [⟨.bin .neq (.t 7) (.t 9), (some 10), none, []⟩]
theorem v65_1 : VS L65_1.eq_1 := rfl
def L65_2 : List AStep := ⟨.mov (.t 1), (some 8), none, []⟩ :: ⟨.len (.t 8), (some 9), none, []⟩ :: L65_1
theorem v65_2 : VS L65_2.eq_1 := rfl
def L65_3 : List AStep := ⟨.mov (.t 0), (some 6), none, []⟩ :: ⟨.len (.t 6), (some 7), none, []⟩ :: L65_2
theorem v65_3 : VS L65_3.eq_1 := rfl
def L65_4 : List AStep := [⟨.mov (.c (.bool false)), (some 4), none, []⟩]
theorem v65_4 : VS L65_4.eq_1 := rfl
def L65_5 : List AStep := [⟨.mov (.c (.int .i64 0)), (some 5), none, []⟩]
theorem v65_5 : VS L65_5.eq_1 := rfl
def L65_6 : List AStep := [⟨.len (.t 12), (some 13), none, []⟩, ⟨.bin .lss (.t 11) (.t 13), (some 14), none, []⟩]
theorem v65_6 : VS L65_6.eq_1 := rfl
def L65_7 : List AStep := ⟨.mov (.t 5), (some 11), none, []⟩ :: ⟨.mov (.t 0), (some 12), none, []⟩ :: L65_6
theorem v65_7 : VS L65_7.eq_1 := rfl
def L65_8 : List AStep := [⟨.call 101 [(.t 20), (.t 24)], (some 25), none, []⟩, ⟨.not (.t 25), (some 26), none, []⟩]
theorem v65_8 : VS L65_8.eq_1 := rfl
def L65_9 : List AStep := ⟨.iaddr 4 (.t 21) (.t 22), (some 23), none, []⟩ :: ⟨.load 4 true (.t 23), (some 24), none, []⟩ :: L65_8
theorem v65_9 : VS L65_9.eq_1 := rfl
def L65_10 : List AStep := ⟨.mov (.t 1), (some 21), none, []⟩ :: ⟨.mov (.t 5), (some 22), none, []⟩ :: L65_9
theorem v65_10 : VS L65_10.eq_1 := rfl
def L65_11 : List AStep := ⟨.iaddr 4 (.t 17) (.t 18), (some 19), none, []⟩ :: ⟨.load 4 true (.t 19), (some 20), none, []⟩ :: L65_10
theorem v65_11 : VS L65_11.eq_1 := rfl
def L65_12 : List AStep := ⟨.mov (.t 0), (some 17), none, []⟩ :: ⟨.mov (.t 5), (some 18), none, []⟩ :: L65_11
theorem v65_12 : VS L65_12.eq_1 := rfl
def L65_13 : List AStep := [⟨.mov (.c (.bool false)), (some 4), none, []⟩]
theorem v65_13 : VS L65_13.eq_1 := rfl
def L65_14 : List AStep := [⟨.mov (.t 16), (some 5), none, []⟩]
theorem v65_14 : VS L65_14.eq_1 := rfl
def L65_15 : List AStep := ⟨.mov (.t 5), (some 15), none, []⟩ :: ⟨.bin .add (.t 15) (.c (.int .i64 1)), (some 16), none, []⟩ :: L65_14
theorem v65_15 : VS L65_15.eq_1 := rfl
def L65_16 : List AStep := [⟨.mov (.c (.bool true)), (some 4), none, []⟩]
theorem v65_16 : VS L65_16.eq_1 := rfl
def C65_0 : ACode := .seq (.reg L65_4) .ret
theorem u65_0 : VC C65_0.eq_1 := rfl
def C65_1 : ACode := .cond (.t 10) C65_0 .skip
theorem u65_1 : VC C65_1.eq_1 := rfl
def C65_2 : ACode := .seq (.reg L65_3) C65_1
theorem u65_2 : VC C65_2.eq_1 := rfl
def C65_3 : ACode := .cond (.t 14) .skip (.exit 0)
theorem u65_3 : VC C65_3.eq_1 := rfl
def C65_4 : ACode := .seq (.reg L65_7) C65_3
theorem u65_4 : VC C65_4.eq_1 := rfl
def C65_5 : ACode := .seq (.reg L65_13) .ret
theorem u65_5 : VC C65_5.eq_1 := rfl
def C65_6 : ACode := .cond (.t 26) C65_5 .skip
theorem u65_6 : VC C65_6.eq_1 := rfl
def C65_7 : ACode := .seq (.reg L65_12) C65_6
theorem u65_7 : VC C65_7.eq_1 := rfl
def C65_8 : ACode := .block 1 C65_7
theorem u65_8 : VC C65_8.eq_1 := rfl
def C65_9 : ACode := .seq C65_8 (.reg L65_15)
theorem u65_9 : VC C65_9.eq_1 := rfl
def C65_10 : ACode := .seq C65_4 C65_9
theorem u65_10 : VC C65_10.eq_1 := rfl
def C65_11 : ACode := .block 0 (.loop C65_10)
theorem u65_11 : VC C65_11.eq_1 := rfl
def C65_12 : ACode := .seq (.reg L65_5) C65_11
theorem u65_12 : VC C65_12.eq_1 := rfl
def C65_13 : ACode := .seq (.reg L65_16) .ret
theorem u65_13 : VC C65_13.eq_1 := rfl
def C65_14 : ACode := .seq C65_12 C65_13
theorem u65_14 : VC C65_14.eq_1 := rfl
def C65_15 : ACode := .seq C65_2 C65_14
theorem u65_15 : VC C65_15.eq_1 := rfl
def C65_16 : ACode := .seq (.reg L65_0) C65_15
theorem u65_16 : VC C65_16.eq_1 := rfl
def F65 : AFunc := ⟨27, [.tmp 4], C65_16⟩
theorem cF65 : compB Tryd.prog 65 = some F65 := by kernel_rfl
attribute [local go_sem ↓] u65_0 u65_1 u65_2 u65_3 u65_4 u65_5 u65_6 u65_7 u65_8 u65_9 u65_10 u65_11 u65_12 u65_13 u65_14 u65_15 u65_16 v65_0 v65_1 v65_2 v65_3 v65_4 v65_5 v65_6 v65_7 v65_8 v65_9 v65_10 v65_11 v65_12 v65_13 v65_14 v65_15 v65_16
theorem c_eqArgS (l m : List Arg) (v w : CV) (h : H) (hl : SlC h v l) (hm : SlC h w m) (hn : miniC l) : bm Tryd.prog 65 [.one v, .one w] h = some (ib (decide (l = m)), h) := by
  refine bm_eq cF65 ?_
  obtain ⟨rs, x⟩ := hl.ex
  obtain ⟨qs, y⟩ := hm.ex
  have len1 := x.out.len
  have len2 := y.out.len
  rw [x.len] at len1
  rw [y.len] at len2
  by_cases hlen : l.length = m.length
  case neg =>
    have e1 : decide ((l.length : Int) = (m.length : Int)) = false := decide_eq_false (by omega)
    simp +contextual (maxSteps := 2000000) only [go_sem, Nat.reduceEqDiff, reduceCtorEq, Nat.reduceAdd, Nat.reduceLeDiff, F65, len1, len2, e1]
    rw [ne_len e1]
  have e1 : decide ((l.length : Int) = (m.length : Int)) = true := decide_eq_true (by omega)
  simp +contextual (maxSteps := 2000000) only [go_sem, Nat.reduceEqDiff, reduceCtorEq, Nat.reduceAdd, Nat.reduceLeDiff, F65, len1, len2, e1]
  refine wpC_loop (fun i T L h' => h' = h ∧ T 0 = .v (.one v) ∧ T 1 = .v (.one w) ∧ T 5 = .v (.one (.int .i64 i)) ∧ Upto (eqAt l m) i) l.length ?_ ?_ (Nat.zero_le _) ?_
  · rintro i T L h' hi ⟨rfl, t0, t1, t5, hu⟩
    have him : i < m.length := by omega
    have hi1 : i < rs.length := by rw [x.len]; exact hi
    have hi2 : i < qs.length := by rw [y.len]; exact him
    have e2 := eqAt_eq hi him
    have hw1 := x.out.whole hi1
    have hw2 := y.out.whole hi2
    have ee := c_eqArg rs[i] qs[i] _ _ h' (x.el i hi1) (y.el i hi2) (by rw [getC_eq hi]; exact Nat.le_trans (hn.list _ (List.getElem_mem hi)) (by decide)) (by rw [getC_eq hi]; exact Nat.le_trans (hn.pairs _ (List.getElem_mem hi)) (by decide))
    rw [getC_eq hi, getC_eq him] at ee
    simp +contextual (maxSteps := 2000000) only [go_sem, Nat.reduceEqDiff, reduceCtorEq, Nat.reduceAdd, Nat.reduceLeDiff, t0, t1, t5, len1, len2, x.out.iaddr hi1, y.out.iaddr hi2, hw1, hw2, ee, lt_true hi]
    (repeat' (first | refine And.intro ?_ ?_ | intro _)) <;> first | rfl | rw [wrap_next hi (Nat.lt_of_le_of_lt hn.len (by decide))] | (refine hu.next ?_; rw [e2]; (simp_all; done)) | (rw [ne_at (l := l) (m := m) (i := i)]; rw [e2]; (simp_all; done))
  · rintro T L h' ⟨rfl, t0, t1, t5, hu⟩
    simp +contextual (maxSteps := 2000000) only [go_sem, Nat.reduceEqDiff, reduceCtorEq, Nat.reduceAdd, Nat.reduceLeDiff, t0, t1, t5, len1, len2, lt_false, decide_eq_true (eq_of_upto hlen hu)]
  · simp +contextual (maxSteps := 2000000) only [go_sem, Nat.reduceEqDiff, reduceCtorEq, Nat.reduceAdd, Nat.reduceLeDiff]
    (repeat' (first | refine And.intro ?_ ?_ | intro _)) <;> first | rfl | exact Upto.zero
/-! laws.eqCall -/
def L34_0 : List AStep := [⟨.mov (.c (.bool false)), (some 4), none, []⟩]
theorem v34_0 : VS L34_0.eq_1 := rfl
def L34_1 : List AStep := ⟨.box 68 (.t 0), (some 2), none, []⟩ :: ⟨.box 68 (.t 1), (some 3), none, []⟩ :: L34_0
theorem v34_1 : VS L34_1.eq_1 := rfl
def L34_2 : List AStep := [⟨.call 65 [(.t 6), (.t 8)], (some 9), none, []⟩, ⟨.not (.t 9), (some 10), none, []⟩]
theorem v34_2 : VS L34_2.eq_1 := rfl
def L34_3 : List AStep := ⟨.faddr 0 (.t 3), (some 7), none, []⟩ :: ⟨.load 1 false (.t 7), (some 8), none, []⟩ :: L34_2
theorem v34_3 : VS L34_3.eq_1 := rfl
def L34_4 : List AStep := ⟨.faddr 0 (.t 2), (some 5), none, []⟩ :: ⟨.load 1 false (.t 5), (some 6), none, []⟩ :: L34_3
theorem v34_4 : VS L34_4.eq_1 := rfl
def L34_5 : List AStep := [⟨.mov (.c (.bool false)), (some 4), none, []⟩]
theorem v34_5 : VS L34_5.eq_1 := rfl
def L34_6 : List AStep := [⟨.mov (.c (.bool true)), (some 4), none, []⟩]
theorem v34_6 : VS L34_6.eq_1 := rfl
def C34_0 : ACode := .seq (.reg L34_5) .ret
theorem u34_0 : VC C34_0.eq_1 := rfl
def C34_1 : ACode := .cond (.t 10) C34_0 .skip
theorem u34_1 : VC C34_1.eq_1 := rfl
def C34_2 : ACode := .seq (.reg L34_4) C34_1
theorem u34_2 : VC C34_2.eq_1 := rfl
def C34_3 : ACode := .seq (.reg L34_6) .ret
theorem u34_3 : VC C34_3.eq_1 := rfl
def C34_4 : ACode := .seq C34_2 C34_3
theorem u34_4 : VC C34_4.eq_1 := rfl
def C34_5 : ACode := .seq (.reg L34_1) C34_4
theorem u34_5 : VC C34_5.eq_1 := rfl
def F34 : AFunc := ⟨11, [.tmp 4], C34_5⟩
theorem cF34 : compB Tryd.prog 34 = some F34 := by kernel_rfl
attribute [local go_sem ↓] u34_0 u34_1 u34_2 u34_3 u34_4 u34_5 v34_0 v34_1 v34_2 v34_3 v34_4 v34_5 v34_6
theorem k_eqC (x y : List Arg) (p q : CV) (h : H) (a : SlC h p x) (b : SlC h q y) (m : miniC x) : bm Tryd.prog 34 [.agg [p], .agg [q]] h = some (ib (decide (x = y)), h) := by
  refine bm_eq cF34 ?_
  simp +contextual (maxSteps := 2000000) only [go_sem, Nat.reduceEqDiff, reduceCtorEq, Nat.reduceAdd, Nat.reduceLeDiff, F34, c_eqArgS _ _ _ _ _ a b m]
  try (cases decide (x = y) <;> simp)
attribute [local go_sem] lenV encV_0
attribute [local go_sem] lenW encW_0 encW_1
attribute [local go_sem] loadL_agg
/-! laws.eqFunc -/
def L26_0 : List AStep := [⟨.mov (.c (.bool false)), (some 4), none, []⟩]
theorem v26_0 : VS L26_0.eq_1 := rfl
def L26_1 : List AStep := ⟨.box 48 (.t 0), (some 2), none, []⟩ :: ⟨.box 48 (.t 1), (some 3), none, []⟩ :: L26_0
theorem v26_1 : VS L26_1.eq_1 := rfl
def L26_2 : List AStep := [⟨.bin .neq (.t 6) (.t 8), (some 9), none, []⟩]
theorem v26_2 : VS L26_2.eq_1 := rfl
def L26_3 : List AStep := ⟨.faddr 0 (.t 3), (some 7), none, []⟩ :: ⟨.load 1 false (.t 7), (some 8), none, []⟩ :: L26_2
theorem v26_3 : VS L26_3.eq_1 := rfl
def L26_4 : List AStep := ⟨.faddr 0 (.t 2), (some 5), none, []⟩ :: ⟨.load 1 false (.t 5), (some 6), none, []⟩ :: L26_3
theorem v26_4 : VS L26_4.eq_1 := rfl
def L26_5 : List AStep := [⟨.mov (.c (.bool false)), (some 4), none, []⟩]
theorem v26_5 : VS L26_5.eq_1 := rfl
def L26_6 : List AStep := [⟨.call 18 [(.t 11), (.t 13)], (some 14), none, []⟩, ⟨.not (.t 14), (some 15), none, []⟩]
theorem v26_6 : VS L26_6.eq_1 := rfl
def L26_7 : List AStep := ⟨.faddr 1 (.t 3), (some 12), none, []⟩ :: ⟨.load 1 true (.t 12), (some 13), none, []⟩ :: L26_6
theorem v26_7 : VS L26_7.eq_1 := rfl
def L26_8 : List AStep := ⟨.faddr 1 (.t 2), (some 10), none, []⟩ :: ⟨.load 1 true (.t 10), (some 11), none, []⟩ :: L26_7
theorem v26_8 : VS L26_8.eq_1 := rfl
def L26_9 : List AStep := [⟨.mov (.c (.bool false)), (some 4), none, []⟩]
theorem v26_9 : VS L26_9.eq_1 := rfl
def L26_10 : List AStep := [⟨.mov (.c (.bool true)), (some 4), none, []⟩]
theorem v26_10 : VS L26_10.eq_1 := rfl
def C26_0 : ACode := .seq (.reg L26_5) .ret
theorem u26_0 : VC C26_0.eq_1 := rfl
def C26_1 : ACode := .cond (.t 9) C26_0 .skip
theorem u26_1 : VC C26_1.eq_1 := rfl
def C26_2 : ACode := .seq (.reg L26_4) C26_1
theorem u26_2 : VC C26_2.eq_1 := rfl
def C26_3 : ACode := .seq (.reg L26_9) .ret
theorem u26_3 : VC C26_3.eq_1 := rfl
def C26_4 : ACode := .cond (.t 15) C26_3 .skip
theorem u26_4 : VC C26_4.eq_1 := rfl
def C26_5 : ACode := .seq (.reg L26_8) C26_4
theorem u26_5 : VC C26_5.eq_1 := rfl
def C26_6 : ACode := .seq (.reg L26_10) .ret
theorem u26_6 : VC C26_6.eq_1 := rfl
def C26_7 : ACode := .seq C26_5 C26_6
theorem u26_7 : VC C26_7.eq_1 := rfl
def C26_8 : ACode := .seq C26_2 C26_7
theorem u26_8 : VC C26_8.eq_1 := rfl
def C26_9 : ACode := .seq (.reg L26_1) C26_8
theorem u26_9 : VC C26_9.eq_1 := rfl
def F26 : AFunc := ⟨16, [.tmp 4], C26_9⟩
theorem cF26 : compB Tryd.prog 26 = some F26 := by kernel_rfl
attribute [local go_sem ↓] u26_0 u26_1 u26_2 u26_3 u26_4 u26_5 u26_6 u26_7 u26_8 u26_9 v26_0 v26_1 v26_2 v26_3 v26_4 v26_5 v26_6 v26_7 v26_8 v26_9 v26_10
theorem c_eqFunc (r q : RFunc) (a b : Func) (h : H) (x : AtW 83 h r a) (y : AtW 83 h q b) (k0 : a.params.length ≤ big) : bm Tryd.prog 26 [.agg (encW r), .agg (encW q)] h = some (ib (decide (a = b)), h) := by
  refine bm_eq cF26 ?_
  have e1 : encW r = [.str a.name, r.qv] := by simp only [encW, x.name]
  have e2 : encW q = [.str b.name, q.qv] := by simp only [encW, y.name]
  have ed : decide (a = b) = (decide (a.name = b.name) && decide (a.params = b.params)) := by
    cases a
    cases b
    rw [Bool.eq_iff_iff]
    simp
  rw [e1, e2, ed]
  cases b0 : decide (a.name = b.name) with
  | false => simp +contextual (maxSteps := 2000000) only [go_sem, Nat.reduceEqDiff, reduceCtorEq, Nat.reduceAdd, Nat.reduceLeDiff, F26, c_eqSignature _ _ _ _ _ x.params y.params k0, b0, Bool.true_and, Bool.false_and]
  | true =>
  cases b1 : decide (a.params = b.params) with
  | false => simp +contextual (maxSteps := 2000000) only [go_sem, Nat.reduceEqDiff, reduceCtorEq, Nat.reduceAdd, Nat.reduceLeDiff, F26, c_eqSignature _ _ _ _ _ x.params y.params k0, b0, b1, Bool.true_and, Bool.false_and]
  | true =>
  simp +contextual (maxSteps := 2000000) only [go_sem, Nat.reduceEqDiff, reduceCtorEq, Nat.reduceAdd, Nat.reduceLeDiff, F26, c_eqSignature _ _ _ _ _ x.params y.params k0, b0, b1, Bool.true_and]
end Go.Proofs.YtoeceafibmafpaaDoor.Am
