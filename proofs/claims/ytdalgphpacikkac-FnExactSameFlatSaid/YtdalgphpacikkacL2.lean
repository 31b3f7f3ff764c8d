/- Contracts of the laws: sizes. -/
import Derived.Test.YtdalgphpacikkacDat
namespace Go.Proofs.Ytdalgphpacikkac.Am
open Go
set_option maxRecDepth 100000
set_option maxHeartbeats 4000000
set_option linter.unusedSimpArgs false
set_option linter.unusedVariables false
attribute [local go_sem ↓] bv_t bv_c ev_t ev_c put_same put_ne put_none kill_at pro_at lb_same lb_ne start_zero start_succ wpC_seq wpC_reg wpC_cond wpC_block wpC_skip wpC_exit wpC_ret thenQ_normal thenQ_exit thenQ_ret inBlk_normal inBlk_exit inBlk_ret wpS_nil wpS_step wpS_again wpS_guard wpO_mov wpO_load wpO_faddr wpO_nilCheck wpO_pick wpO_build wpO_bin wpO_eqb wpO_eqst wpO_eqnil wpO_not wpO_conv wpO_bytesStr wpO_iaddr wpO_idxStr wpO_field wpO_extract wpO_len wpO_lenStr wpO_cap wpO_min wpO_slice wpO_sliceStr wpO_alloc wpO_box wpO_store wpO_call wpO_callv wpO_mkfn wpO_buildSlice wpO_mkslice wpO_append wpO_appz proA_nil proA_cons tmpX_nil tmpX_tmp tmpX_cell doneB_normal doneB_ret agK_cons agK_nil agK_guard agG_tt agG_ff agG_tf agG_ft agG_undef pureB_load results_one results_two results_nil resBs_cons resBs_nil resB_tmp resB_cell
attribute [local go_sem] kill_v kill_lp_ne kill_lp_same pro_v pro_lp_same pro_lp_ne av_v av_lp optB_some optX_some valX_eq ldX_lp ldX_v faX_lp faX_v ncX_lp ncX_ptr ncX_fn boxK_one boxK_agg stL_some stK_lp_one stK_lp_agg stK_v_one stK_v_agg proM_v proM_lp callG_mk callVG_mk callvK_fn fnG_mk ptrsA_nil ptrsA_cons callH_some whenA_true whenA_false guardH_tt guardH_ff guardH_tf guardH_ft guardH_undef agV_one agV_agg lenO_sl lenStrO_str notO_bool pickO_bool convO_int eqbO_bool eqnilO_sl extractO_tup capO_sl minO_int loadL_one loadL_all storeL_eq fillA_nil fillA_one fillA_agg nat_ge neg_ge nat_lt neg_lt buildO bin_add bin_sub bin_mul bin_eql bin_neq bin_lss bin_leq bin_gtr bin_geq str_eql str_neq str_lss str_leq str_gtr str_geq retK_some endK_mk gcK_same gcK_int gcK_bool tupO_one tupO_agg rdy_self ib ii Option.map_none Option.map_some Option.some.injEq exists_eq_left' exists_eq_left ne_eq not_false_eq_true if_true if_false List.map_cons List.map_nil List.getElem?_cons_zero List.getElem?_cons_succ List.length_cons List.length_nil List.take_succ_cons List.take_zero List.take_nil List.drop_succ_cons List.drop_zero List.drop_nil List.cons_append List.nil_append List.append_nil List.set_cons_zero List.set_cons_succ Nat.zero_add forall_const true_and and_true and_self Bool.false_eq_true false_implies true_implies implies_true Bool.not_true Bool.not_false Bool.not_eq_true' Bool.not_eq_false' beq_self_eq_true Bool.bne_true Bool.bne_false
attribute [local go_sem] lenI lenS lenP lenQ lenB lenL lenT encI_0 encS_0 encP_0 encP_1 encQ_0 encQ_1 encQ_2 encQ_3 encB_0 encB_1 encL_0 encL_1 encT_0 encT_1
attribute [local go_sem low] whenA_bool guardH_bool
theorem i64_sub {a : Int} {n : Nat} (h1 : 0 ≤ a) (h2 : a ≤ 1048576) (h3 : n ≤ far) : IntKind.i64.wrap (a - n) = a - n := by unfold far at h3; rw [i64_wrap (by omega) (by omega)]
/-! laws.szPair -/
def L86_0 : List AStep := [⟨.box 124 (.t 0), (some 2), none, []⟩, ⟨.mov (.c (.int .i64 0)), (some 4), none, []⟩]
theorem v86_0 : VS L86_0.eq_1 := rfl
def L86_1 : List AStep := [⟨.bin .sub (.t 5) (.t 8), (some 9), none, []⟩, ⟨.mov (.t 9), (some 1), none, []⟩]
theorem v86_1 : VS L86_1.eq_1 := rfl
def L86_2 : List AStep := ⟨.load 1 false (.t 6), (some 7), none, []⟩ :: ⟨.lenStr (.t 7), (some 8), none, []⟩ :: L86_1
theorem v86_2 : VS L86_2.eq_1 := rfl
def L86_3 : List AStep := ⟨.mov (.t 1), (some 5), none, []⟩ :: ⟨.faddr 0 (.t 2), (some 6), none, []⟩ :: L86_2
theorem v86_3 : VS L86_3.eq_1 := rfl
def L86_4 : List AStep := [⟨.mov (.t 1), (some 10), none, []⟩, ⟨.bin .lss (.t 10) (.c (.int .i64 0)), (some 11), none, []⟩]
theorem v86_4 : VS L86_4.eq_1 := rfl
def L86_5 : List AStep := [⟨.mov (.c (.int .i64 (-1))), (some 4), none, []⟩]
theorem v86_5 : VS L86_5.eq_1 := rfl
def L86_6 : List AStep := [⟨.mov (.t 1), (some 12), none, []⟩, ⟨.mov (.t 12), (some 4), none, []⟩]
theorem v86_6 : VS L86_6.eq_1 := rfl
def C86_0 : ACode := .seq (.reg L86_5) .ret
theorem u86_0 : VC C86_0.eq_1 := rfl
def C86_1 : ACode := .cond (.t 11) C86_0 .skip
theorem u86_1 : VC C86_1.eq_1 := rfl
def C86_2 : ACode := .seq (.reg L86_4) C86_1
theorem u86_2 : VC C86_2.eq_1 := rfl
def C86_3 : ACode := .seq (.reg L86_6) .ret
theorem u86_3 : VC C86_3.eq_1 := rfl
def C86_4 : ACode := .seq C86_2 C86_3
theorem u86_4 : VC C86_4.eq_1 := rfl
def C86_5 : ACode := .seq (.reg L86_3) C86_4
theorem u86_5 : VC C86_5.eq_1 := rfl
def C86_6 : ACode := .seq (.reg L86_0) C86_5
theorem u86_6 : VC C86_6.eq_1 := rfl
def F86 : AFunc := ⟨13, [.tmp 4], C86_6⟩
theorem cF86 : compB Try.prog 86 = some F86 := by kernel_rfl
attribute [local go_sem ↓] u86_0 u86_1 u86_2 u86_3 u86_4 u86_5 u86_6 v86_0 v86_1 v86_2 v86_3 v86_4 v86_5 v86_6
theorem c_szPair (p : Pair) (left : Int) (h : H) (h1 : 0 ≤ left) (h2 : left ≤ 1048576) (k0 : p.name.size ≤ far) : bm Try.prog 86 [.agg (encP p), .one (.int .i64 left)] h = some (ii (szr left (wtP p)), h) := by
  refine bm_eq cF86 ?_
  simp +contextual (maxSteps := 2000000) only [go_sem, Nat.reduceEqDiff, reduceCtorEq, Nat.reduceAdd, Nat.reduceLeDiff, F86, i64_sub h1 h2 k0]
  unfold szr wtP
  (repeat' (first | refine And.intro ?_ ?_ | intro _)) <;> first | (simp_all; done) | (simp_all; omega)
/-! laws.szIntS -/
def L39_0 : List AStep := [⟨.mov (.c (.int .i64 0)), (some 4), none, []⟩]
theorem v39_0 : VS L39_0.eq_1 := rfl
def L39_1 : List AStep := [⟨.mov (.t 8), (some 1), none, []⟩]
theorem v39_1 : VS L39_1.eq_1 := rfl
def L39_2 : List AStep := ⟨.len (.t 6), (some 7), none, []⟩ :: ⟨.bin .sub (.t 5) (.t 7), (some 8), none, []⟩ :: L39_1
theorem v39_2 : VS L39_2.eq_1 := rfl
def L39_3 : List AStep := ⟨.mov (.t 1), (some 5), none, []⟩ :: ⟨.mov (.t 0), (some 6), none, []⟩ :: L39_2
theorem v39_3 : VS L39_3.eq_1 := rfl
def L39_4 : List AStep := [⟨.mov (.t 1), (some 9), none, []⟩, ⟨.bin .lss (.t 9) (.c (.int .i64 0)), (some 10), none, []⟩]
theorem v39_4 : VS L39_4.eq_1 := rfl
def L39_5 : List AStep := [⟨.mov (.c (.int .i64 (-1))), (some 4), none, []⟩]
theorem v39_5 : VS L39_5.eq_1 := rfl
def L39_6 : List AStep := [⟨.mov (.t 1), (some 11), none, []⟩, ⟨.mov (.t 11), (some 4), none, []⟩]
theorem v39_6 : VS L39_6.eq_1 := rfl
def C39_0 : ACode := .seq (.reg L39_5) .ret
theorem u39_0 : VC C39_0.eq_1 := rfl
def C39_1 : ACode := .cond (.t 10) C39_0 .skip
theorem u39_1 : VC C39_1.eq_1 := rfl
def C39_2 : ACode := .seq (.reg L39_4) C39_1
theorem u39_2 : VC C39_2.eq_1 := rfl
def C39_3 : ACode := .seq (.reg L39_6) .ret
theorem u39_3 : VC C39_3.eq_1 := rfl
def C39_4 : ACode := .seq C39_2 C39_3
theorem u39_4 : VC C39_4.eq_1 := rfl
def C39_5 : ACode := .seq (.reg L39_3) C39_4
theorem u39_5 : VC C39_5.eq_1 := rfl
def C39_6 : ACode := .seq (.reg L39_0) C39_5
theorem u39_6 : VC C39_6.eq_1 := rfl
def F39 : AFunc := ⟨12, [.tmp 4], C39_6⟩
theorem cF39 : compB Try.prog 39 = some F39 := by kernel_rfl
attribute [local go_sem ↓] u39_0 u39_1 u39_2 u39_3 u39_4 u39_5 u39_6 v39_0 v39_1 v39_2 v39_3 v39_4 v39_5 v39_6
theorem c_szIntS {ty : Nat} (l : List Int) (v : AV) (left : Int) (h : H) (h1 : 0 ≤ left) (h2 : left ≤ 1048576) (hl : Sl encI 1 ty h v l) (k0 : l.length ≤ far) : bm Try.prog 39 [v, .one (.int .i64 left)] h = some (ii (szr left l.length), h) := by
  refine bm_eq cF39 ?_
  simp +contextual (maxSteps := 2000000) only [go_sem, Nat.reduceEqDiff, reduceCtorEq, Nat.reduceAdd, Nat.reduceLeDiff, F39, hl.len, i64_sub h1 h2 k0]
  unfold szr
  (repeat' (first | refine And.intro ?_ ?_ | intro _)) <;> first | (simp_all; done) | (simp_all; omega)
/-! laws.szPairS -/
def L38_0 : List AStep := [⟨.mov (.c (.int .i64 0)), (some 4), none, []⟩]
theorem v38_0 : VS L38_0.eq_1 := rfl
def L38_1 : List AStep := [⟨.mov (.t 9), (some 1), none, []⟩]
theorem v38_1 : VS L38_1.eq_1 := rfl
def L38_2 : List AStep := ⟨.len (.t 7), (some 8), none, []⟩ :: ⟨.bin .sub (.t 6) (.t 8), (some 9), none, []⟩ :: L38_1
theorem v38_2 : VS L38_2.eq_1 := rfl
def L38_3 : List AStep := ⟨.mov (.t 1), (some 6), none, []⟩ :: ⟨.mov (.t 0), (some 7), none, []⟩ :: L38_2
theorem v38_3 : VS L38_3.eq_1 := rfl
def L38_4 : List AStep := [⟨.mov (.t 1), (some 10), none, []⟩, ⟨.bin .lss (.t 10) (.c (.int .i64 0)), (some 11), none, []⟩]
theorem v38_4 : VS L38_4.eq_1 := rfl
def L38_5 : List AStep := [⟨.mov (.c (.int .i64 (-1))), (some 4), none, []⟩]
theorem v38_5 : VS L38_5.eq_1 := rfl
def L38_6 : List AStep := [⟨.mov (.c (.int .i64 0)), (some 5), none, []⟩]
theorem v38_6 : VS L38_6.eq_1 := rfl
def L38_7 : List AStep := [⟨.len (.t 13), (some 14), none, []⟩, ⟨.bin .lss (.t 12) (.t 14), (some 15), none, []⟩]
theorem v38_7 : VS L38_7.eq_1 := rfl
def L38_8 : List AStep := ⟨.mov (.t 5), (some 12), none, []⟩ :: ⟨.mov (.t 0), (some 13), none, []⟩ :: L38_7
theorem v38_8 : VS L38_8.eq_1 := rfl
def L38_9 : List AStep := [⟨.mov (.t 23), (some 1), none, []⟩]
theorem v38_9 : VS L38_9.eq_1 := rfl
def L38_10 : List AStep := ⟨.mov (.t 1), (some 22), none, []⟩ :: ⟨.call 86 [(.t 21), (.t 22)], (some 23), none, []⟩ :: L38_9
theorem v38_10 : VS L38_10.eq_1 := rfl
def L38_11 : List AStep := ⟨.iaddr 2 (.t 18) (.t 19), (some 20), none, []⟩ :: ⟨.load 2 true (.t 20), (some 21), none, []⟩ :: L38_10
theorem v38_11 : VS L38_11.eq_1 := rfl
def L38_12 : List AStep := ⟨.mov (.t 0), (some 18), none, []⟩ :: ⟨.mov (.t 5), (some 19), none, []⟩ :: L38_11
theorem v38_12 : VS L38_12.eq_1 := rfl
def L38_13 : List AStep := [⟨.mov (.t 1), (some 24), none, []⟩, ⟨.bin .lss (.t 24) (.c (.int .i64 0)), (some 25), none, []⟩]
theorem v38_13 : VS L38_13.eq_1 := rfl
def L38_14 : List AStep := [⟨.mov (.c (.int .i64 (-1))), (some 4), none, []⟩]
theorem v38_14 : VS L38_14.eq_1 := rfl
def L38_15 : List AStep := [⟨.mov (.t 17), (some 5), none, []⟩]
theorem v38_15 : VS L38_15.eq_1 := rfl
def L38_16 : List AStep := ⟨.mov (.t 5), (some 16), none, []⟩ :: ⟨.bin .add (.t 16) (.c (.int .i64 1)), (some 17), none, []⟩ :: L38_15
theorem v38_16 : VS L38_16.eq_1 := rfl
def L38_17 : List AStep := [⟨.mov (.t 1), (some 26), none, []⟩, ⟨.mov (.t 26), (some 4), none, []⟩]
theorem v38_17 : VS L38_17.eq_1 := rfl
def C38_0 : ACode := .seq (.reg L38_5) .ret
theorem u38_0 : VC C38_0.eq_1 := rfl
def C38_1 : ACode := .cond (.t 11) C38_0 .skip
theorem u38_1 : VC C38_1.eq_1 := rfl
def C38_2 : ACode := .seq (.reg L38_4) C38_1
theorem u38_2 : VC C38_2.eq_1 := rfl
def C38_3 : ACode := .cond (.t 15) .skip (.exit 0)
theorem u38_3 : VC C38_3.eq_1 := rfl
def C38_4 : ACode := .seq (.reg L38_8) C38_3
theorem u38_4 : VC C38_4.eq_1 := rfl
def C38_5 : ACode := .seq (.reg L38_14) .ret
theorem u38_5 : VC C38_5.eq_1 := rfl
def C38_6 : ACode := .cond (.t 25) C38_5 .skip
theorem u38_6 : VC C38_6.eq_1 := rfl
def C38_7 : ACode := .seq (.reg L38_13) C38_6
theorem u38_7 : VC C38_7.eq_1 := rfl
def C38_8 : ACode := .seq (.reg L38_12) C38_7
theorem u38_8 : VC C38_8.eq_1 := rfl
def C38_9 : ACode := .block 1 C38_8
theorem u38_9 : VC C38_9.eq_1 := rfl
def C38_10 : ACode := .seq C38_9 (.reg L38_16)
theorem u38_10 : VC C38_10.eq_1 := rfl
def C38_11 : ACode := .seq C38_4 C38_10
theorem u38_11 : VC C38_11.eq_1 := rfl
def C38_12 : ACode := .block 0 (.loop C38_11)
theorem u38_12 : VC C38_12.eq_1 := rfl
def C38_13 : ACode := .seq (.reg L38_6) C38_12
theorem u38_13 : VC C38_13.eq_1 := rfl
def C38_14 : ACode := .seq (.reg L38_17) .ret
theorem u38_14 : VC C38_14.eq_1 := rfl
def C38_15 : ACode := .seq C38_13 C38_14
theorem u38_15 : VC C38_15.eq_1 := rfl
def C38_16 : ACode := .seq C38_2 C38_15
theorem u38_16 : VC C38_16.eq_1 := rfl
def C38_17 : ACode := .seq (.reg L38_3) C38_16
theorem u38_17 : VC C38_17.eq_1 := rfl
def C38_18 : ACode := .seq (.reg L38_0) C38_17
theorem u38_18 : VC C38_18.eq_1 := rfl
def F38 : AFunc := ⟨27, [.tmp 4], C38_18⟩
theorem cF38 : compB Try.prog 38 = some F38 := by kernel_rfl
attribute [local go_sem ↓] u38_0 u38_1 u38_2 u38_3 u38_4 u38_5 u38_6 u38_7 u38_8 u38_9 u38_10 u38_11 u38_12 u38_13 u38_14 u38_15 u38_16 u38_17 u38_18 v38_0 v38_1 v38_2 v38_3 v38_4 v38_5 v38_6 v38_7 v38_8 v38_9 v38_10 v38_11 v38_12 v38_13 v38_14 v38_15 v38_16 v38_17
theorem c_szPairS {ty : Nat} (l : List Pair) (v : AV) (left : Int) (h : H) (h1 : 0 ≤ left) (h2 : left ≤ 1048576) (hl : Sl encP 2 ty h v l) (k0 : l.length ≤ far) (k1 : ∀ x ∈ l, x.name.size ≤ far) : bm Try.prog 38 [v, .one (.int .i64 left)] h = some (ii (szr left (wtL wtP l)), h) := by
  refine bm_eq cF38 ?_
  by_cases e : left - (l.length : Int) < 0
  · simp +contextual (maxSteps := 2000000) only [go_sem, Nat.reduceEqDiff, reduceCtorEq, Nat.reduceAdd, Nat.reduceLeDiff, F38, hl.len, i64_sub h1 h2 k0, decide_eq_true e]
    unfold szr wtL
    rw [if_pos (by omega)]
  simp +contextual (maxSteps := 2000000) only [go_sem, Nat.reduceEqDiff, reduceCtorEq, Nat.reduceAdd, Nat.reduceLeDiff, F38, hl.len, i64_sub h1 h2 k0, decide_eq_false e]
  refine wpC_loop (fun i T L h' => h' = h ∧ T 0 = .v v ∧ T 5 = .v (.one (.int .i64 i)) ∧ T 1 = .v (.one (.int .i64 (left - (l.length : Int) - (wsum wtP l i : Int)))) ∧ 0 ≤ left - (l.length : Int) - (wsum wtP l i : Int)) l.length ?_ ?_ (Nat.zero_le _) ?_
  · rintro i T L h' hi ⟨rfl, t0, t5, t1, hw⟩
    have hm := List.getElem_mem hi
    have e2 := wsum_next (f := wtP) hi
    have e3 := wsum_le (f := wtP) (l := l) (show i + 1 ≤ l.length by omega)
    have e1 := c_szPair l[i] (left - (l.length : Int) - (wsum wtP l i : Int)) h' hw (by omega) (k1 _ hm)
    by_cases e4 : left - (l.length : Int) - (wsum wtP l i : Int) - (wtP l[i] : Int) < 0
    · simp +contextual (maxSteps := 2000000) only [go_sem, Nat.reduceEqDiff, reduceCtorEq, Nat.reduceAdd, Nat.reduceLeDiff, t0, t1, t5, hl.len, hl.iaddr hi, hl.whole hi, e1, lt_true hi, decide_eq_true (szr_lt.2 e4)]
      unfold szr wtL
      rw [if_pos (by omega)]
    · simp +contextual (maxSteps := 2000000) only [go_sem, Nat.reduceEqDiff, reduceCtorEq, Nat.reduceAdd, Nat.reduceLeDiff, t0, t1, t5, hl.len, hl.iaddr hi, hl.whole hi, e1, lt_true hi, decide_eq_false (show ¬ szr (left - (l.length : Int) - (wsum wtP l i : Int)) (wtP l[i]) < 0 by rw [szr_lt]; exact e4)]
      have e5 : szr (left - (l.length : Int) - (wsum wtP l i : Int)) (wtP l[i]) = left - (l.length : Int) - (wsum wtP l (i + 1) : Int) := by
        unfold szr
        rw [if_neg e4, e2]
        omega
      rw [wrap_next hi (by omega), e5]
      exact ⟨rfl, rfl, by omega⟩
  · rintro T L h' ⟨rfl, t0, t5, t1, hw⟩
    simp +contextual (maxSteps := 2000000) only [go_sem, Nat.reduceEqDiff, reduceCtorEq, Nat.reduceAdd, Nat.reduceLeDiff, t0, t1, t5, hl.len, lt_false]
    unfold szr wtL
    rw [if_neg (by omega)]
    rw [show left - (l.length : Int) - (wsum wtP l l.length : Int) = left - ((l.length + wsum wtP l l.length : Nat) : Int) by omega]
  · simp +contextual (maxSteps := 2000000) only [go_sem, Nat.reduceEqDiff, reduceCtorEq, Nat.reduceAdd, Nat.reduceLeDiff, wsum_zero]
    (repeat' (first | refine And.intro ?_ ?_ | intro _)) <;> first | rfl | (simp; done) | (simp; omega)
/-! laws.szFlat -/
def L9_0 : List AStep := [⟨.box 28 (.t 0), (some 2), none, []⟩, ⟨.mov (.c (.int .i64 0)), (some 4), none, []⟩]
theorem v9_0 : VS L9_0.eq_1 := rfl
def L9_1 : List AStep := [⟨.mov (.t 8), (some 1), none, []⟩]
theorem v9_1 : VS L9_1.eq_1 := rfl
def L9_2 : List AStep := ⟨.mov (.t 1), (some 7), none, []⟩ :: ⟨.call 39 [(.t 6), (.t 7)], (some 8), none, []⟩ :: L9_1
theorem v9_2 : VS L9_2.eq_1 := rfl
def L9_3 : List AStep := ⟨.faddr 0 (.t 2), (some 5), none, []⟩ :: ⟨.load 1 false (.t 5), (some 6), none, []⟩ :: L9_2
theorem v9_3 : VS L9_3.eq_1 := rfl
def L9_4 : List AStep := [⟨.mov (.t 1), (some 9), none, []⟩, ⟨.bin .lss (.t 9) (.c (.int .i64 0)), (some 10), none, []⟩]
theorem v9_4 : VS L9_4.eq_1 := rfl
def L9_5 : List AStep := [⟨.mov (.c (.int .i64 (-1))), (some 4), none, []⟩]
theorem v9_5 : VS L9_5.eq_1 := rfl
def L9_6 : List AStep := [⟨.mov (.t 14), (some 1), none, []⟩]
theorem v9_6 : VS L9_6.eq_1 := rfl
def L9_7 : List AStep := ⟨.mov (.t 1), (some 13), none, []⟩ :: ⟨.call 38 [(.t 12), (.t 13)], (some 14), none, []⟩ :: L9_6
theorem v9_7 : VS L9_7.eq_1 := rfl
def L9_8 : List AStep := ⟨.faddr 1 (.t 2), (some 11), none, []⟩ :: ⟨.load 1 false (.t 11), (some 12), none, []⟩ :: L9_7
theorem v9_8 : VS L9_8.eq_1 := rfl
def L9_9 : List AStep := [⟨.mov (.t 1), (some 15), none, []⟩, ⟨.bin .lss (.t 15) (.c (.int .i64 0)), (some 16), none, []⟩]
theorem v9_9 : VS L9_9.eq_1 := rfl
def L9_10 : List AStep := [⟨.mov (.c (.int .i64 (-1))), (some 4), none, []⟩]
theorem v9_10 : VS L9_10.eq_1 := rfl
def L9_11 : List AStep := [⟨.mov (.t 1), (some 17), none, []⟩, ⟨.mov (.t 17), (some 4), none, []⟩]
theorem v9_11 : VS L9_11.eq_1 := rfl
def C9_0 : ACode := .seq (.reg L9_5) .ret
theorem u9_0 : VC C9_0.eq_1 := rfl
def C9_1 : ACode := .cond (.t 10) C9_0 .skip
theorem u9_1 : VC C9_1.eq_1 := rfl
def C9_2 : ACode := .seq (.reg L9_4) C9_1
theorem u9_2 : VC C9_2.eq_1 := rfl
def C9_3 : ACode := .seq (.reg L9_10) .ret
theorem u9_3 : VC C9_3.eq_1 := rfl
def C9_4 : ACode := .cond (.t 16) C9_3 .skip
theorem u9_4 : VC C9_4.eq_1 := rfl
def C9_5 : ACode := .seq (.reg L9_9) C9_4
theorem u9_5 : VC C9_5.eq_1 := rfl
def C9_6 : ACode := .seq (.reg L9_11) .ret
theorem u9_6 : VC C9_6.eq_1 := rfl
def C9_7 : ACode := .seq C9_5 C9_6
theorem u9_7 : VC C9_7.eq_1 := rfl
def C9_8 : ACode := .seq (.reg L9_8) C9_7
theorem u9_8 : VC C9_8.eq_1 := rfl
def C9_9 : ACode := .seq C9_2 C9_8
theorem u9_9 : VC C9_9.eq_1 := rfl
def C9_10 : ACode := .seq (.reg L9_3) C9_9
theorem u9_10 : VC C9_10.eq_1 := rfl
def C9_11 : ACode := .seq (.reg L9_0) C9_10
theorem u9_11 : VC C9_11.eq_1 := rfl
def F9 : AFunc := ⟨18, [.tmp 4], C9_11⟩
theorem cF9 : compB Try.prog 9 = some F9 := by kernel_rfl
attribute [local go_sem ↓] u9_0 u9_1 u9_2 u9_3 u9_4 u9_5 u9_6 u9_7 u9_8 u9_9 u9_10 u9_11 v9_0 v9_1 v9_2 v9_3 v9_4 v9_5 v9_6 v9_7 v9_8 v9_9 v9_10 v9_11
theorem c_szFlat {t1 t2 : Nat} (f : Flat) (pv nv : CV) (left : Int) (h : H) (h1 : 0 ≤ left) (h2 : left ≤ 1048576) (hp : Sl encI 1 t1 h (.one pv) f.pl) (hq : Sl encP 2 t2 h (.one nv) f.nl) (k0 : f.pl.length ≤ far) (k1 : f.nl.length ≤ far) (k2 : ∀ x ∈ f.nl, x.name.size ≤ far) :
    bm Try.prog 9 [.agg [pv, nv], .one (.int .i64 left)] h = some (ii (szr left (wtF f)), h) := by
  refine bm_eq cF9 ?_
  by_cases e : left - (f.pl.length : Int) < 0
  · simp +contextual (maxSteps := 2000000) only [go_sem, Nat.reduceEqDiff, reduceCtorEq, Nat.reduceAdd, Nat.reduceLeDiff, F9, c_szIntS _ _ _ _ h1 h2 hp k0, decide_eq_true (szr_lt.2 e)]
    unfold szr wtF
    rw [if_pos (by omega)]
  · have e1 : szr left f.pl.length = left - (f.pl.length : Int) := by unfold szr; rw [if_neg e]
    simp +contextual (maxSteps := 2000000) only [go_sem, Nat.reduceEqDiff, reduceCtorEq, Nat.reduceAdd, Nat.reduceLeDiff, F9, c_szIntS _ _ _ _ h1 h2 hp k0, e1, decide_eq_false e, c_szPairS _ _ (left - (f.pl.length : Int)) _ (by omega) (by omega) hq k1 k2]
    unfold szr wtF
    (repeat' (first | refine And.intro ?_ ?_ | intro _)) <;> first | (split <;> simp_all <;> omega)
end Go.Proofs.Ytdalgphpacikkac.Am
