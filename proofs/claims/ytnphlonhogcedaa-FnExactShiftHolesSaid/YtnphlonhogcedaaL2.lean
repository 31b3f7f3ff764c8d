/- Contracts of the laws: sizes. -/
import Derived.Test.YtnphlonhogcedaaDat
namespace Go.Proofs.Ytnphlonhogcedaa.Am
open Go
set_option maxRecDepth 100000
set_option maxHeartbeats 4000000
set_option linter.unusedSimpArgs false
set_option linter.unusedVariables false
attribute [local go_sem ↓] bv_t bv_c ev_t ev_c put_same put_ne put_none kill_at pro_at lb_same lb_ne start_zero start_succ wpC_seq wpC_reg wpC_cond wpC_block wpC_skip wpC_exit wpC_ret thenQ_normal thenQ_exit thenQ_ret inBlk_normal inBlk_exit inBlk_ret wpS_nil wpS_step wpS_again wpS_guard wpO_mov wpO_load wpO_faddr wpO_nilCheck wpO_pick wpO_build wpO_bin wpO_eqb wpO_eqst wpO_eqnil wpO_not wpO_conv wpO_bytesStr wpO_iaddr wpO_idxStr wpO_field wpO_extract wpO_len wpO_lenStr wpO_cap wpO_min wpO_slice wpO_sliceStr wpO_alloc wpO_box wpO_store wpO_call wpO_callv wpO_mkfn wpO_buildSlice wpO_mkslice wpO_append wpO_appz proA_nil proA_cons tmpX_nil tmpX_tmp tmpX_cell doneB_normal doneB_ret agK_cons agK_nil agK_guard agG_tt agG_ff agG_tf agG_ft agG_undef pureB_load results_one results_two results_nil resBs_cons resBs_nil resB_tmp resB_cell
attribute [local go_sem] kill_v kill_lp_ne kill_lp_same pro_v pro_lp_same pro_lp_ne av_v av_lp optB_some optX_some valX_eq ldX_lp ldX_v faX_lp faX_v ncX_lp ncX_ptr ncX_fn boxK_one boxK_agg stL_some stK_lp_one stK_lp_agg stK_v_one stK_v_agg proM_v proM_lp callG_mk callVG_mk callvK_fn fnG_mk ptrsA_nil ptrsA_cons callH_some whenA_true whenA_false guardH_tt guardH_ff guardH_tf guardH_ft guardH_undef agV_one agV_agg lenO_sl lenStrO_str notO_bool pickO_bool convO_int eqbO_bool eqnilO_sl extractO_tup capO_sl minO_int loadL_one loadL_all storeL_eq fillA_nil fillA_one fillA_agg nat_ge neg_ge nat_lt neg_lt buildO bin_add bin_sub bin_mul bin_eql bin_neq bin_lss bin_leq bin_gtr bin_geq str_eql str_neq str_lss str_leq str_gtr str_geq retK_some endK_mk gcK_same gcK_int gcK_bool tupO_one tupO_agg rdy_self ib ii Option.map_none Option.map_some Option.some.injEq exists_eq_left' exists_eq_left ne_eq not_false_eq_true if_true if_false List.map_cons List.map_nil List.getElem?_cons_zero List.getElem?_cons_succ List.length_cons List.length_nil List.take_succ_cons List.take_zero List.take_nil List.drop_succ_cons List.drop_zero List.drop_nil List.cons_append List.nil_append List.append_nil List.set_cons_zero List.set_cons_succ Nat.zero_add forall_const true_and and_true and_self Bool.false_eq_true false_implies true_implies implies_true Bool.not_true Bool.not_false Bool.not_eq_true' Bool.not_eq_false' beq_self_eq_true Bool.bne_true Bool.bne_false
attribute [local go_sem] lenI lenS lenP lenQ lenB lenL lenT encI_0 encS_0 encP_0 encP_1 encQ_0 encQ_1 encQ_2 encQ_3 encB_0 encB_1 encL_0 encL_1 encT_0 encT_1
attribute [local go_sem low] whenA_bool guardH_bool
theorem i64_sub {a : Int} {n : Nat} (h1 : 0 ≤ a) (h2 : a ≤ 1048576) (h3 : n ≤ far) : IntKind.i64.wrap (a - n) = a - n := by unfold far at h3; rw [i64_wrap (by omega) (by omega)]
/-! laws.szPair -/
def L181_0 : List AStep := [⟨.box 194 (.t 0), (some 2), none, []⟩, ⟨.mov (.c (.int .i64 0)), (some 4), none, []⟩]
theorem v181_0 : VS L181_0.eq_1 := rfl
def L181_1 : List AStep := [⟨.bin .sub (.t 5) (.t 8), (some 9), none, []⟩, ⟨.mov (.t 9), (some 1), none, []⟩]
theorem v181_1 : VS L181_1.eq_1 := rfl
def L181_2 : List AStep := ⟨.load 1 false (.t 6), (some 7), none, []⟩ :: ⟨.lenStr (.t 7), (some 8), none, []⟩ :: L181_1
theorem v181_2 : VS L181_2.eq_1 := rfl
def L181_3 : List AStep := ⟨.mov (.t 1), (some 5), none, []⟩ :: ⟨.faddr 0 (.t 2), (some 6), none, []⟩ :: L181_2
theorem v181_3 : VS L181_3.eq_1 := rfl
def L181_4 : List AStep := [⟨.mov (.t 1), (some 10), none, []⟩, ⟨.bin .lss (.t 10) (.c (.int .i64 0)), (some 11), none, []⟩]
theorem v181_4 : VS L181_4.eq_1 := rfl
def L181_5 : List AStep := [⟨.mov (.c (.int .i64 (-1))), (some 4), none, []⟩]
theorem v181_5 : VS L181_5.eq_1 := rfl
def L181_6 : List AStep := [⟨.mov (.t 1), (some 12), none, []⟩, ⟨.mov (.t 12), (some 4), none, []⟩]
theorem v181_6 : VS L181_6.eq_1 := rfl
def C181_0 : ACode := .seq (.reg L181_5) .ret
theorem u181_0 : VC C181_0.eq_1 := rfl
def C181_1 : ACode := .cond (.t 11) C181_0 .skip
theorem u181_1 : VC C181_1.eq_1 := rfl
def C181_2 : ACode := .seq (.reg L181_4) C181_1
theorem u181_2 : VC C181_2.eq_1 := rfl
def C181_3 : ACode := .seq (.reg L181_6) .ret
theorem u181_3 : VC C181_3.eq_1 := rfl
def C181_4 : ACode := .seq C181_2 C181_3
theorem u181_4 : VC C181_4.eq_1 := rfl
def C181_5 : ACode := .seq (.reg L181_3) C181_4
theorem u181_5 : VC C181_5.eq_1 := rfl
def C181_6 : ACode := .seq (.reg L181_0) C181_5
theorem u181_6 : VC C181_6.eq_1 := rfl
def F181 : AFunc := ⟨13, [.tmp 4], C181_6⟩
theorem cF181 : compB Try.prog 181 = some F181 := by kernel_rfl
attribute [local go_sem ↓] u181_0 u181_1 u181_2 u181_3 u181_4 u181_5 u181_6 v181_0 v181_1 v181_2 v181_3 v181_4 v181_5 v181_6
theorem c_szPair (p : Pair) (left : Int) (h : H) (h1 : 0 ≤ left) (h2 : left ≤ 1048576) (k0 : p.name.size ≤ far) : bm Try.prog 181 [.agg (encP p), .one (.int .i64 left)] h = some (ii (szr left (wtP p)), h) := by
  refine bm_eq cF181 ?_
  simp +contextual (maxSteps := 2000000) only [go_sem, Nat.reduceEqDiff, reduceCtorEq, Nat.reduceAdd, Nat.reduceLeDiff, F181, i64_sub h1 h2 k0]
  unfold szr wtP
  (repeat' (first | refine And.intro ?_ ?_ | intro _)) <;> first | (simp_all; done) | (simp_all; omega)
/-! laws.szPlaceS -/
def L130_0 : List AStep := [⟨.mov (.c (.int .i64 0)), (some 4), none, []⟩]
theorem v130_0 : VS L130_0.eq_1 := rfl
def L130_1 : List AStep := [⟨.mov (.t 8), (some 1), none, []⟩]
theorem v130_1 : VS L130_1.eq_1 := rfl
def L130_2 : List AStep := ⟨.len (.t 6), (some 7), none, []⟩ :: ⟨.bin .sub (.t 5) (.t 7), (some 8), none, []⟩ :: L130_1
theorem v130_2 : VS L130_2.eq_1 := rfl
def L130_3 : List AStep := ⟨.mov (.t 1), (some 5), none, []⟩ :: ⟨.mov (.t 0), (some 6), none, []⟩ :: L130_2
theorem v130_3 : VS L130_3.eq_1 := rfl
def L130_4 : List AStep := [⟨.mov (.t 1), (some 9), none, []⟩, ⟨.bin .lss (.t 9) (.c (.int .i64 0)), (some 10), none, []⟩]
theorem v130_4 : VS L130_4.eq_1 := rfl
def L130_5 : List AStep := [⟨.mov (.c (.int .i64 (-1))), (some 4), none, []⟩]
theorem v130_5 : VS L130_5.eq_1 := rfl
def L130_6 : List AStep := [⟨.mov (.t 1), (some 11), none, []⟩, ⟨.mov (.t 11), (some 4), none, []⟩]
theorem v130_6 : VS L130_6.eq_1 := rfl
def C130_0 : ACode := .seq (.reg L130_5) .ret
theorem u130_0 : VC C130_0.eq_1 := rfl
def C130_1 : ACode := .cond (.t 10) C130_0 .skip
theorem u130_1 : VC C130_1.eq_1 := rfl
def C130_2 : ACode := .seq (.reg L130_4) C130_1
theorem u130_2 : VC C130_2.eq_1 := rfl
def C130_3 : ACode := .seq (.reg L130_6) .ret
theorem u130_3 : VC C130_3.eq_1 := rfl
def C130_4 : ACode := .seq C130_2 C130_3
theorem u130_4 : VC C130_4.eq_1 := rfl
def C130_5 : ACode := .seq (.reg L130_3) C130_4
theorem u130_5 : VC C130_5.eq_1 := rfl
def C130_6 : ACode := .seq (.reg L130_0) C130_5
theorem u130_6 : VC C130_6.eq_1 := rfl
def F130 : AFunc := ⟨12, [.tmp 4], C130_6⟩
theorem cF130 : compB Try.prog 130 = some F130 := by kernel_rfl
attribute [local go_sem ↓] u130_0 u130_1 u130_2 u130_3 u130_4 u130_5 u130_6 v130_0 v130_1 v130_2 v130_3 v130_4 v130_5 v130_6
theorem c_szPlaceS {ty : Nat} (l : List Place) (v : AV) (left : Int) (h : H) (h1 : 0 ≤ left) (h2 : left ≤ 1048576) (hl : Sl encL 2 ty h v l) (k0 : l.length ≤ far) : bm Try.prog 130 [v, .one (.int .i64 left)] h = some (ii (szr left l.length), h) := by
  refine bm_eq cF130 ?_
  simp +contextual (maxSteps := 2000000) only [go_sem, Nat.reduceEqDiff, reduceCtorEq, Nat.reduceAdd, Nat.reduceLeDiff, F130, hl.len, i64_sub h1 h2 k0]
  unfold szr
  (repeat' (first | refine And.intro ?_ ?_ | intro _)) <;> first | (simp_all; done) | (simp_all; omega)
/-! laws.szPairS -/
def L104_0 : List AStep := [⟨.mov (.c (.int .i64 0)), (some 4), none, []⟩]
theorem v104_0 : VS L104_0.eq_1 := rfl
def L104_1 : List AStep := [⟨.mov (.t 9), (some 1), none, []⟩]
theorem v104_1 : VS L104_1.eq_1 := rfl
def L104_2 : List AStep := ⟨.len (.t 7), (some 8), none, []⟩ :: ⟨.bin .sub (.t 6) (.t 8), (some 9), none, []⟩ :: L104_1
theorem v104_2 : VS L104_2.eq_1 := rfl
def L104_3 : List AStep := ⟨.mov (.t 1), (some 6), none, []⟩ :: ⟨.mov (.t 0), (some 7), none, []⟩ :: L104_2
theorem v104_3 : VS L104_3.eq_1 := rfl
def L104_4 : List AStep := [⟨.mov (.t 1), (some 10), none, []⟩, ⟨.bin .lss (.t 10) (.c (.int .i64 0)), (some 11), none, []⟩]
theorem v104_4 : VS L104_4.eq_1 := rfl
def L104_5 : List AStep := [⟨.mov (.c (.int .i64 (-1))), (some 4), none, []⟩]
theorem v104_5 : VS L104_5.eq_1 := rfl
def L104_6 : List AStep := [⟨.mov (.c (.int .i64 0)), (some 5), none, []⟩]
theorem v104_6 : VS L104_6.eq_1 := rfl
def L104_7 : List AStep := [⟨.len (.t 13), (some 14), none, []⟩, ⟨.bin .lss (.t 12) (.t 14), (some 15), none, []⟩]
theorem v104_7 : VS L104_7.eq_1 := rfl
def L104_8 : List AStep := ⟨.mov (.t 5), (some 12), none, []⟩ :: ⟨.mov (.t 0), (some 13), none, []⟩ :: L104_7
theorem v104_8 : VS L104_8.eq_1 := rfl
def L104_9 : List AStep := [⟨.mov (.t 23), (some 1), none, []⟩]
theorem v104_9 : VS L104_9.eq_1 := rfl
def L104_10 : List AStep := ⟨.mov (.t 1), (some 22), none, []⟩ :: ⟨.call 181 [(.t 21), (.t 22)], (some 23), none, []⟩ :: L104_9
theorem v104_10 : VS L104_10.eq_1 := rfl
def L104_11 : List AStep := ⟨.iaddr 2 (.t 18) (.t 19), (some 20), none, []⟩ :: ⟨.load 2 true (.t 20), (some 21), none, []⟩ :: L104_10
theorem v104_11 : VS L104_11.eq_1 := rfl
def L104_12 : List AStep := ⟨.mov (.t 0), (some 18), none, []⟩ :: ⟨.mov (.t 5), (some 19), none, []⟩ :: L104_11
theorem v104_12 : VS L104_12.eq_1 := rfl
def L104_13 : List AStep := [⟨.mov (.t 1), (some 24), none, []⟩, ⟨.bin .lss (.t 24) (.c (.int .i64 0)), (some 25), none, []⟩]
theorem v104_13 : VS L104_13.eq_1 := rfl
def L104_14 : List AStep := [⟨.mov (.c (.int .i64 (-1))), (some 4), none, []⟩]
theorem v104_14 : VS L104_14.eq_1 := rfl
def L104_15 : List AStep := [⟨.mov (.t 17), (some 5), none, []⟩]
theorem v104_15 : VS L104_15.eq_1 := rfl
def L104_16 : List AStep := ⟨.mov (.t 5), (some 16), none, []⟩ :: ⟨.bin .add (.t 16) (.c (.int .i64 1)), (some 17), none, []⟩ :: L104_15
theorem v104_16 : VS L104_16.eq_1 := rfl
def L104_17 : List AStep := [⟨.mov (.t 1), (some 26), none, []⟩, ⟨.mov (.t 26), (some 4), none, []⟩]
theorem v104_17 : VS L104_17.eq_1 := rfl
def C104_0 : ACode := .seq (.reg L104_5) .ret
theorem u104_0 : VC C104_0.eq_1 := rfl
def C104_1 : ACode := .cond (.t 11) C104_0 .skip
theorem u104_1 : VC C104_1.eq_1 := rfl
def C104_2 : ACode := .seq (.reg L104_4) C104_1
theorem u104_2 : VC C104_2.eq_1 := rfl
def C104_3 : ACode := .cond (.t 15) .skip (.exit 0)
theorem u104_3 : VC C104_3.eq_1 := rfl
def C104_4 : ACode := .seq (.reg L104_8) C104_3
theorem u104_4 : VC C104_4.eq_1 := rfl
def C104_5 : ACode := .seq (.reg L104_14) .ret
theorem u104_5 : VC C104_5.eq_1 := rfl
def C104_6 : ACode := .cond (.t 25) C104_5 .skip
theorem u104_6 : VC C104_6.eq_1 := rfl
def C104_7 : ACode := .seq (.reg L104_13) C104_6
theorem u104_7 : VC C104_7.eq_1 := rfl
def C104_8 : ACode := .seq (.reg L104_12) C104_7
theorem u104_8 : VC C104_8.eq_1 := rfl
def C104_9 : ACode := .block 1 C104_8
theorem u104_9 : VC C104_9.eq_1 := rfl
def C104_10 : ACode := .seq C104_9 (.reg L104_16)
theorem u104_10 : VC C104_10.eq_1 := rfl
def C104_11 : ACode := .seq C104_4 C104_10
theorem u104_11 : VC C104_11.eq_1 := rfl
def C104_12 : ACode := .block 0 (.loop C104_11)
theorem u104_12 : VC C104_12.eq_1 := rfl
def C104_13 : ACode := .seq (.reg L104_6) C104_12
theorem u104_13 : VC C104_13.eq_1 := rfl
def C104_14 : ACode := .seq (.reg L104_17) .ret
theorem u104_14 : VC C104_14.eq_1 := rfl
def C104_15 : ACode := .seq C104_13 C104_14
theorem u104_15 : VC C104_15.eq_1 := rfl
def C104_16 : ACode := .seq C104_2 C104_15
theorem u104_16 : VC C104_16.eq_1 := rfl
def C104_17 : ACode := .seq (.reg L104_3) C104_16
theorem u104_17 : VC C104_17.eq_1 := rfl
def C104_18 : ACode := .seq (.reg L104_0) C104_17
theorem u104_18 : VC C104_18.eq_1 := rfl
def F104 : AFunc := ⟨27, [.tmp 4], C104_18⟩
theorem cF104 : compB Try.prog 104 = some F104 := by kernel_rfl
attribute [local go_sem ↓] u104_0 u104_1 u104_2 u104_3 u104_4 u104_5 u104_6 u104_7 u104_8 u104_9 u104_10 u104_11 u104_12 u104_13 u104_14 u104_15 u104_16 u104_17 u104_18 v104_0 v104_1 v104_2 v104_3 v104_4 v104_5 v104_6 v104_7 v104_8 v104_9 v104_10 v104_11 v104_12 v104_13 v104_14 v104_15 v104_16 v104_17
theorem c_szPairS {ty : Nat} (l : List Pair) (v : AV) (left : Int) (h : H) (h1 : 0 ≤ left) (h2 : left ≤ 1048576) (hl : Sl encP 2 ty h v l) (k0 : l.length ≤ far) (k1 : ∀ x ∈ l, x.name.size ≤ far) : bm Try.prog 104 [v, .one (.int .i64 left)] h = some (ii (szr left (wtL wtP l)), h) := by
  refine bm_eq cF104 ?_
  by_cases e : left - (l.length : Int) < 0
  · simp +contextual (maxSteps := 2000000) only [go_sem, Nat.reduceEqDiff, reduceCtorEq, Nat.reduceAdd, Nat.reduceLeDiff, F104, hl.len, i64_sub h1 h2 k0, decide_eq_true e]
    unfold szr wtL
    rw [if_pos (by omega)]
  simp +contextual (maxSteps := 2000000) only [go_sem, Nat.reduceEqDiff, reduceCtorEq, Nat.reduceAdd, Nat.reduceLeDiff, F104, hl.len, i64_sub h1 h2 k0, decide_eq_false e]
  refine wpC_loop (fun i T L h' => h' = h ∧ T 0 = .v v ∧ T 5 = .v (.one (.int .i64 i)) ∧ T 1 = .v (.one (.int .i64 (left - (l.length : Int) - (wsum wtP l i : Int)))) ∧ 0 ≤ left - (l.length : Int) - (wsum wtP l i : Int)) l.length ?_ ?_ (Nat.zero_le _) ?_
  · rintro i T L h' hi ⟨rfl, t0, t5, t1, hw⟩
    have hm := List.getElem_mem hi
    have e2 := wsum_next (f := wtP) hi
    have e3 := wsum_le (f := wtP) (l := l) (show i + 1 ≤ l.length by omega)
    have e1 := c_szPair l[i] (left - (l.length : Int) - (wsum wtP l i : Int)) h' hw (by omega) (k1 _ hm)
    by_cases e4 : left - (l.length : Int) - (wsum wtP l i : Int) - (wtP l[i] : Int) < 0
    · simp +contextual (maxSteps := 2000000) only [go_sem, Nat.reduceEqDiff, reduceCtorEq, Nat.reduceAdd, Nat.reduceLeDiff, t0, t1, t5, hl.len, hl.iaddr hi, hl.whole hi, e1, lt_true hi, decide_eq_true (szr_lt.2 e4)]
      unfold szr wtL
      rw [if_pos (by omega)]
    · simp +contextual (maxSteps := 2000000) only [go_sem, Nat.reduceEqDiff, reduceCtorEq, Nat.reduceAdd, Nat.reduceLeDiff, t0, t1, t5, hl.len, hl.iaddr hi, hl.whole hi, e1, lt_true hi, decide_eq_false (show ¬ szr (left - (l.length : Int) - (wsum wtP l i : Int)) (wtP l[i]) < 0 by rw [szr_lt]; exact e4)]
      have e5 : szr (left - (l.length : Int) - (wsum wtP l i : Int)) (wtP l[i]) = left - (l.length : Int) - (wsum wtP l (i + 1) : Int) := by
        unfold szr
        rw [if_neg e4, e2]
        omega
      rw [wrap_next hi (by omega), e5]
      exact ⟨rfl, rfl, by omega⟩
  · rintro T L h' ⟨rfl, t0, t5, t1, hw⟩
    simp +contextual (maxSteps := 2000000) only [go_sem, Nat.reduceEqDiff, reduceCtorEq, Nat.reduceAdd, Nat.reduceLeDiff, t0, t1, t5, hl.len, lt_false]
    unfold szr wtL
    rw [if_neg (by omega)]
    rw [show left - (l.length : Int) - (wsum wtP l l.length : Int) = left - ((l.length + wsum wtP l l.length : Nat) : Int) by omega]
  · simp +contextual (maxSteps := 2000000) only [go_sem, Nat.reduceEqDiff, reduceCtorEq, Nat.reduceAdd, Nat.reduceLeDiff, wsum_zero]
    (repeat' (first | refine And.intro ?_ ?_ | intro _)) <;> first | rfl | (simp; done) | (simp; omega)
/-! laws.szHoles -/
def L55_0 : List AStep := [⟨.box 89 (.t 0), (some 2), none, []⟩, ⟨.mov (.c (.int .i64 0)), (some 4), none, []⟩]
theorem v55_0 : VS L55_0.eq_1 := rfl
def L55_1 : List AStep := [⟨.mov (.t 8), (some 1), none, []⟩]
theorem v55_1 : VS L55_1.eq_1 := rfl
def L55_2 : List AStep := ⟨.mov (.t 1), (some 7), none, []⟩ :: ⟨.call 130 [(.t 6), (.t 7)], (some 8), none, []⟩ :: L55_1
theorem v55_2 : VS L55_2.eq_1 := rfl
def L55_3 : List AStep := ⟨.faddr 0 (.t 2), (some 5), none, []⟩ :: ⟨.load 1 false (.t 5), (some 6), none, []⟩ :: L55_2
theorem v55_3 : VS L55_3.eq_1 := rfl
def L55_4 : List AStep := [⟨.mov (.t 1), (some 9), none, []⟩, ⟨.bin .lss (.t 9) (.c (.int .i64 0)), (some 10), none, []⟩]
theorem v55_4 : VS L55_4.eq_1 := rfl
def L55_5 : List AStep := [⟨.mov (.c (.int .i64 (-1))), (some 4), none, []⟩]
theorem v55_5 : VS L55_5.eq_1 := rfl
def L55_6 : List AStep := [⟨.mov (.t 14), (some 1), none, []⟩]
theorem v55_6 : VS L55_6.eq_1 := rfl
def L55_7 : List AStep := ⟨.mov (.t 1), (some 13), none, []⟩ :: ⟨.call 104 [(.t 12), (.t 13)], (some 14), none, []⟩ :: L55_6
theorem v55_7 : VS L55_7.eq_1 := rfl
def L55_8 : List AStep := ⟨.faddr 1 (.t 2), (some 11), none, []⟩ :: ⟨.load 1 false (.t 11), (some 12), none, []⟩ :: L55_7
theorem v55_8 : VS L55_8.eq_1 := rfl
def L55_9 : List AStep := [⟨.mov (.t 1), (some 15), none, []⟩, ⟨.bin .lss (.t 15) (.c (.int .i64 0)), (some 16), none, []⟩]
theorem v55_9 : VS L55_9.eq_1 := rfl
def L55_10 : List AStep := [⟨.mov (.c (.int .i64 (-1))), (some 4), none, []⟩]
theorem v55_10 : VS L55_10.eq_1 := rfl
def L55_11 : List AStep := [⟨.mov (.t 1), (some 17), none, []⟩, ⟨.mov (.t 17), (some 4), none, []⟩]
theorem v55_11 : VS L55_11.eq_1 := rfl
def C55_0 : ACode := .seq (.reg L55_5) .ret
theorem u55_0 : VC C55_0.eq_1 := rfl
def C55_1 : ACode := .cond (.t 10) C55_0 .skip
theorem u55_1 : VC C55_1.eq_1 := rfl
def C55_2 : ACode := .seq (.reg L55_4) C55_1
theorem u55_2 : VC C55_2.eq_1 := rfl
def C55_3 : ACode := .seq (.reg L55_10) .ret
theorem u55_3 : VC C55_3.eq_1 := rfl
def C55_4 : ACode := .cond (.t 16) C55_3 .skip
theorem u55_4 : VC C55_4.eq_1 := rfl
def C55_5 : ACode := .seq (.reg L55_9) C55_4
theorem u55_5 : VC C55_5.eq_1 := rfl
def C55_6 : ACode := .seq (.reg L55_11) .ret
theorem u55_6 : VC C55_6.eq_1 := rfl
def C55_7 : ACode := .seq C55_5 C55_6
theorem u55_7 : VC C55_7.eq_1 := rfl
def C55_8 : ACode := .seq (.reg L55_8) C55_7
theorem u55_8 : VC C55_8.eq_1 := rfl
def C55_9 : ACode := .seq C55_2 C55_8
theorem u55_9 : VC C55_9.eq_1 := rfl
def C55_10 : ACode := .seq (.reg L55_3) C55_9
theorem u55_10 : VC C55_10.eq_1 := rfl
def C55_11 : ACode := .seq (.reg L55_0) C55_10
theorem u55_11 : VC C55_11.eq_1 := rfl
def F55 : AFunc := ⟨18, [.tmp 4], C55_11⟩
theorem cF55 : compB Try.prog 55 = some F55 := by kernel_rfl
attribute [local go_sem ↓] u55_0 u55_1 u55_2 u55_3 u55_4 u55_5 u55_6 u55_7 u55_8 u55_9 u55_10 u55_11 v55_0 v55_1 v55_2 v55_3 v55_4 v55_5 v55_6 v55_7 v55_8 v55_9 v55_10 v55_11
theorem c_szHoles {t1 t2 : Nat} (f : Holes) (pv nv : CV) (left : Int) (h : H) (h1 : 0 ≤ left) (h2 : left ≤ 1048576) (hp : Sl encL 2 t1 h (.one pv) f.pl) (hq : Sl encP 2 t2 h (.one nv) f.nl) (k0 : f.pl.length ≤ far) (k1 : f.nl.length ≤ far) (k2 : ∀ x ∈ f.nl, x.name.size ≤ far) :
    bm Try.prog 55 [.agg [pv, nv], .one (.int .i64 left)] h = some (ii (szr left (wtH f)), h) := by
  refine bm_eq cF55 ?_
  by_cases e : left - (f.pl.length : Int) < 0
  · simp +contextual (maxSteps := 2000000) only [go_sem, Nat.reduceEqDiff, reduceCtorEq, Nat.reduceAdd, Nat.reduceLeDiff, F55, c_szPlaceS _ _ _ _ h1 h2 hp k0, decide_eq_true (szr_lt.2 e)]
    unfold szr wtH
    rw [if_pos (by omega)]
  · have e1 : szr left f.pl.length = left - (f.pl.length : Int) := by unfold szr; rw [if_neg e]
    simp +contextual (maxSteps := 2000000) only [go_sem, Nat.reduceEqDiff, reduceCtorEq, Nat.reduceAdd, Nat.reduceLeDiff, F55, c_szPlaceS _ _ _ _ h1 h2 hp k0, e1, decide_eq_false e, c_szPairS _ _ (left - (f.pl.length : Int)) _ (by omega) (by omega) hq k1 k2]
    unfold szr wtH
    (repeat' (first | refine And.intro ?_ ?_ | intro _)) <;> first | (split <;> simp_all <;> omega)
end Go.Proofs.Ytnphlonhogcedaa.Am
