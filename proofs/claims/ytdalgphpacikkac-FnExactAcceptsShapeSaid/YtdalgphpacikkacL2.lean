/- Contracts of the laws: sizes. -/
import Derived.Test.YtdalgphpacikkacDat
namespace Go.Proofs.Ytdalgphpacikkac.Am
open Go
set_option maxRecDepth 100000
set_option maxHeartbeats 4000000
set_option linter.unusedSimpArgs false
set_option linter.unusedVariables false
attribute [local go_sem ↓] bv_t bv_c ev_t ev_c put_same put_ne put_none kill_at pro_at lb_same lb_ne start_zero start_succ wpC_seq wpC_reg wpC_cond wpC_block wpC_skip wpC_exit wpC_ret thenQ_normal thenQ_exit thenQ_ret inBlk_normal inBlk_exit inBlk_ret wpS_nil wpS_step wpS_again wpS_guard wpO_mov wpO_load wpO_faddr wpO_nilCheck wpO_pick wpO_build wpO_bin wpO_eqb wpO_eqst wpO_eqnil wpO_not wpO_conv wpO_bytesStr wpO_iaddr wpO_idxStr wpO_field wpO_extract wpO_len wpO_lenStr wpO_cap wpO_min wpO_slice wpO_sliceStr wpO_alloc wpO_box wpO_store wpO_call wpO_callv wpO_mkfn wpO_buildSlice wpO_mkslice wpO_append wpO_appz proA_nil proA_cons tmpX_nil tmpX_tmp tmpX_cell doneB_normal doneB_ret agK_cons agK_nil agK_guard agG_tt agG_ff agG_tf agG_ft agG_undef pureB_load results_one results_two results_nil resBs_cons resBs_nil resB_tmp resB_cell
attribute [local go_sem] kill_v kill_lp_ne kill_lp_same pro_v pro_lp_same pro_lp_ne av_v av_lp optB_some optX_some valX_eq ldX_lp ldX_v faX_lp faX_v ncX_lp ncX_ptr ncX_fn boxK_one boxK_agg stL_some stK_lp_one stK_lp_agg stK_v_one stK_v_agg proM_v proM_lp callG_mk callVG_mk callvK_fn fnG_mk ptrsA_nil ptrsA_cons callH_some whenA_true whenA_false guardH_tt guardH_ff guardH_tf guardH_ft guardH_undef agV_one agV_agg lenO_sl lenStrO_str notO_bool pickO_bool convO_int eqbO_bool eqnilO_sl extractO_tup capO_sl minO_int loadL_one loadL_all storeL_eq fillA_nil fillA_one fillA_agg nat_ge neg_ge nat_lt neg_lt buildO bin_add bin_sub bin_mul bin_eql bin_neq bin_lss bin_leq bin_gtr bin_geq str_eql str_neq str_lss str_leq str_gtr str_geq retK_some endK_mk gcK_same gcK_int gcK_bool tupO_one tupO_agg rdy_self ib ii Option.map_none Option.map_some Option.some.injEq exists_eq_left' exists_eq_left ne_eq not_false_eq_true if_true if_false List.map_cons List.map_nil List.getElem?_cons_zero List.getElem?_cons_succ List.length_cons List.length_nil List.take_succ_cons List.take_zero List.take_nil List.drop_succ_cons List.drop_zero List.drop_nil List.cons_append List.nil_append List.append_nil List.set_cons_zero List.set_cons_succ Nat.zero_add forall_const true_and and_true and_self Bool.false_eq_true false_implies true_implies implies_true Bool.not_true Bool.not_false Bool.not_eq_true' Bool.not_eq_false' beq_self_eq_true Bool.bne_true Bool.bne_false
attribute [local go_sem] lenI lenS lenP lenQ lenB lenL lenT encI_0 encS_0 encP_0 encP_1 encQ_0 encQ_1 encQ_2 encQ_3 encB_0 encB_1 encL_0 encL_1 encT_0 encT_1
attribute [local go_sem low] whenA_bool guardH_bool
theorem i64_sub {a : Int} {n : Nat} (h1 : 0 ≤ a) (h2 : a ≤ 1048576) (h3 : n ≤ far) : IntKind.i64.wrap (a - n) = a - n := by unfold far at h3; rw [i64_wrap (by omega) (by omega)]
/-! laws.szParam -/
def L112_0 : List AStep := [⟨.box 149 (.t 0), (some 2), none, []⟩, ⟨.mov (.c (.int .i64 0)), (some 4), none, []⟩]
theorem v112_0 : VS L112_0.eq_1 := rfl
def L112_1 : List AStep := [⟨.bin .sub (.t 5) (.t 8), (some 9), none, []⟩, ⟨.mov (.t 9), (some 1), none, []⟩]
theorem v112_1 : VS L112_1.eq_1 := rfl
def L112_2 : List AStep := ⟨.load 1 false (.t 6), (some 7), none, []⟩ :: ⟨.lenStr (.t 7), (some 8), none, []⟩ :: L112_1
theorem v112_2 : VS L112_2.eq_1 := rfl
def L112_3 : List AStep := ⟨.mov (.t 1), (some 5), none, []⟩ :: ⟨.faddr 0 (.t 2), (some 6), none, []⟩ :: L112_2
theorem v112_3 : VS L112_3.eq_1 := rfl
def L112_4 : List AStep := [⟨.mov (.t 1), (some 10), none, []⟩, ⟨.bin .lss (.t 10) (.c (.int .i64 0)), (some 11), none, []⟩]
theorem v112_4 : VS L112_4.eq_1 := rfl
def L112_5 : List AStep := [⟨.mov (.c (.int .i64 (-1))), (some 4), none, []⟩]
theorem v112_5 : VS L112_5.eq_1 := rfl
def L112_6 : List AStep := [⟨.mov (.t 1), (some 12), none, []⟩, ⟨.mov (.t 12), (some 4), none, []⟩]
theorem v112_6 : VS L112_6.eq_1 := rfl
def C112_0 : ACode := .seq (.reg L112_5) .ret
theorem u112_0 : VC C112_0.eq_1 := rfl
def C112_1 : ACode := .cond (.t 11) C112_0 .skip
theorem u112_1 : VC C112_1.eq_1 := rfl
def C112_2 : ACode := .seq (.reg L112_4) C112_1
theorem u112_2 : VC C112_2.eq_1 := rfl
def C112_3 : ACode := .seq (.reg L112_6) .ret
theorem u112_3 : VC C112_3.eq_1 := rfl
def C112_4 : ACode := .seq C112_2 C112_3
theorem u112_4 : VC C112_4.eq_1 := rfl
def C112_5 : ACode := .seq (.reg L112_3) C112_4
theorem u112_5 : VC C112_5.eq_1 := rfl
def C112_6 : ACode := .seq (.reg L112_0) C112_5
theorem u112_6 : VC C112_6.eq_1 := rfl
def F112 : AFunc := ⟨13, [.tmp 4], C112_6⟩
theorem cF112 : compB Try.prog 112 = some F112 := by kernel_rfl
attribute [local go_sem ↓] u112_0 u112_1 u112_2 u112_3 u112_4 u112_5 u112_6 v112_0 v112_1 v112_2 v112_3 v112_4 v112_5 v112_6
theorem c_szParam (p : Param) (left : Int) (h : H) (h1 : 0 ≤ left) (h2 : left ≤ 1048576) (k0 : p.name.size ≤ far) : bm Try.prog 112 [.agg (encQ p), .one (.int .i64 left)] h = some (ii (szr left (wtQ p)), h) := by
  refine bm_eq cF112 ?_
  simp +contextual (maxSteps := 2000000) only [go_sem, Nat.reduceEqDiff, reduceCtorEq, Nat.reduceAdd, Nat.reduceLeDiff, F112, i64_sub h1 h2 k0]
  unfold szr wtQ
  (repeat' (first | refine And.intro ?_ ?_ | intro _)) <;> first | (simp_all; done) | (simp_all; omega)
/-! laws.szParamS -/
def L67_0 : List AStep := [⟨.mov (.c (.int .i64 0)), (some 4), none, []⟩]
theorem v67_0 : VS L67_0.eq_1 := rfl
def L67_1 : List AStep := [⟨.mov (.t 9), (some 1), none, []⟩]
theorem v67_1 : VS L67_1.eq_1 := rfl
def L67_2 : List AStep := ⟨.len (.t 7), (some 8), none, []⟩ :: ⟨.bin .sub (.t 6) (.t 8), (some 9), none, []⟩ :: L67_1
theorem v67_2 : VS L67_2.eq_1 := rfl
def L67_3 : List AStep := ⟨.mov (.t 1), (some 6), none, []⟩ :: ⟨.mov (.t 0), (some 7), none, []⟩ :: L67_2
theorem v67_3 : VS L67_3.eq_1 := rfl
def L67_4 : List AStep := [⟨.mov (.t 1), (some 10), none, []⟩, ⟨.bin .lss (.t 10) (.c (.int .i64 0)), (some 11), none, []⟩]
theorem v67_4 : VS L67_4.eq_1 := rfl
def L67_5 : List AStep := [⟨.mov (.c (.int .i64 (-1))), (some 4), none, []⟩]
theorem v67_5 : VS L67_5.eq_1 := rfl
def L67_6 : List AStep := [⟨.mov (.c (.int .i64 0)), (some 5), none, []⟩]
theorem v67_6 : VS L67_6.eq_1 := rfl
def L67_7 : List AStep := [⟨.len (.t 13), (some 14), none, []⟩, ⟨.bin .lss (.t 12) (.t 14), (some 15), none, []⟩]
theorem v67_7 : VS L67_7.eq_1 := rfl
def L67_8 : List AStep := ⟨.mov (.t 5), (some 12), none, []⟩ :: ⟨.mov (.t 0), (some 13), none, []⟩ :: L67_7
theorem v67_8 : VS L67_8.eq_1 := rfl
def L67_9 : List AStep := [⟨.mov (.t 23), (some 1), none, []⟩]
theorem v67_9 : VS L67_9.eq_1 := rfl
def L67_10 : List AStep := ⟨.mov (.t 1), (some 22), none, []⟩ :: ⟨.call 112 [(.t 21), (.t 22)], (some 23), none, []⟩ :: L67_9
theorem v67_10 : VS L67_10.eq_1 := rfl
def L67_11 : List AStep := ⟨.iaddr 4 (.t 18) (.t 19), (some 20), none, []⟩ :: ⟨.load 4 true (.t 20), (some 21), none, []⟩ :: L67_10
theorem v67_11 : VS L67_11.eq_1 := rfl
def L67_12 : List AStep := ⟨.mov (.t 0), (some 18), none, []⟩ :: ⟨.mov (.t 5), (some 19), none, []⟩ :: L67_11
theorem v67_12 : VS L67_12.eq_1 := rfl
def L67_13 : List AStep := [⟨.mov (.t 1), (some 24), none, []⟩, ⟨.bin .lss (.t 24) (.c (.int .i64 0)), (some 25), none, []⟩]
theorem v67_13 : VS L67_13.eq_1 := rfl
def L67_14 : List AStep := [⟨.mov (.c (.int .i64 (-1))), (some 4), none, []⟩]
theorem v67_14 : VS L67_14.eq_1 := rfl
def L67_15 : List AStep := [⟨.mov (.t 17), (some 5), none, []⟩]
theorem v67_15 : VS L67_15.eq_1 := rfl
def L67_16 : List AStep := ⟨.mov (.t 5), (some 16), none, []⟩ :: ⟨.bin .add (.t 16) (.c (.int .i64 1)), (some 17), none, []⟩ :: L67_15
theorem v67_16 : VS L67_16.eq_1 := rfl
def L67_17 : List AStep := [⟨.mov (.t 1), (some 26), none, []⟩, ⟨.mov (.t 26), (some 4), none, []⟩]
theorem v67_17 : VS L67_17.eq_1 := rfl
def C67_0 : ACode := .seq (.reg L67_5) .ret
theorem u67_0 : VC C67_0.eq_1 := rfl
def C67_1 : ACode := .cond (.t 11) C67_0 .skip
theorem u67_1 : VC C67_1.eq_1 := rfl
def C67_2 : ACode := .seq (.reg L67_4) C67_1
theorem u67_2 : VC C67_2.eq_1 := rfl
def C67_3 : ACode := .cond (.t 15) .skip (.exit 0)
theorem u67_3 : VC C67_3.eq_1 := rfl
def C67_4 : ACode := .seq (.reg L67_8) C67_3
theorem u67_4 : VC C67_4.eq_1 := rfl
def C67_5 : ACode := .seq (.reg L67_14) .ret
theorem u67_5 : VC C67_5.eq_1 := rfl
def C67_6 : ACode := .cond (.t 25) C67_5 .skip
theorem u67_6 : VC C67_6.eq_1 := rfl
def C67_7 : ACode := .seq (.reg L67_13) C67_6
theorem u67_7 : VC C67_7.eq_1 := rfl
def C67_8 : ACode := .seq (.reg L67_12) C67_7
theorem u67_8 : VC C67_8.eq_1 := rfl
def C67_9 : ACode := .block 1 C67_8
theorem u67_9 : VC C67_9.eq_1 := rfl
def C67_10 : ACode := .seq C67_9 (.reg L67_16)
theorem u67_10 : VC C67_10.eq_1 := rfl
def C67_11 : ACode := .seq C67_4 C67_10
theorem u67_11 : VC C67_11.eq_1 := rfl
def C67_12 : ACode := .block 0 (.loop C67_11)
theorem u67_12 : VC C67_12.eq_1 := rfl
def C67_13 : ACode := .seq (.reg L67_6) C67_12
theorem u67_13 : VC C67_13.eq_1 := rfl
def C67_14 : ACode := .seq (.reg L67_17) .ret
theorem u67_14 : VC C67_14.eq_1 := rfl
def C67_15 : ACode := .seq C67_13 C67_14
theorem u67_15 : VC C67_15.eq_1 := rfl
def C67_16 : ACode := .seq C67_2 C67_15
theorem u67_16 : VC C67_16.eq_1 := rfl
def C67_17 : ACode := .seq (.reg L67_3) C67_16
theorem u67_17 : VC C67_17.eq_1 := rfl
def C67_18 : ACode := .seq (.reg L67_0) C67_17
theorem u67_18 : VC C67_18.eq_1 := rfl
def F67 : AFunc := ⟨27, [.tmp 4], C67_18⟩
theorem cF67 : compB Try.prog 67 = some F67 := by kernel_rfl
attribute [local go_sem ↓] u67_0 u67_1 u67_2 u67_3 u67_4 u67_5 u67_6 u67_7 u67_8 u67_9 u67_10 u67_11 u67_12 u67_13 u67_14 u67_15 u67_16 u67_17 u67_18 v67_0 v67_1 v67_2 v67_3 v67_4 v67_5 v67_6 v67_7 v67_8 v67_9 v67_10 v67_11 v67_12 v67_13 v67_14 v67_15 v67_16 v67_17
theorem c_szParamS {ty : Nat} (l : List Param) (v : AV) (left : Int) (h : H) (h1 : 0 ≤ left) (h2 : left ≤ 1048576) (hl : Sl encQ 4 ty h v l) (k0 : l.length ≤ far) (k1 : ∀ x ∈ l, x.name.size ≤ far) : bm Try.prog 67 [v, .one (.int .i64 left)] h = some (ii (szr left (wtL wtQ l)), h) := by
  refine bm_eq cF67 ?_
  by_cases e : left - (l.length : Int) < 0
  · simp +contextual (maxSteps := 2000000) only [go_sem, Nat.reduceEqDiff, reduceCtorEq, Nat.reduceAdd, Nat.reduceLeDiff, F67, hl.len, i64_sub h1 h2 k0, decide_eq_true e]
    unfold szr wtL
    rw [if_pos (by omega)]
  simp +contextual (maxSteps := 2000000) only [go_sem, Nat.reduceEqDiff, reduceCtorEq, Nat.reduceAdd, Nat.reduceLeDiff, F67, hl.len, i64_sub h1 h2 k0, decide_eq_false e]
  refine wpC_loop (fun i T L h' => h' = h ∧ T 0 = .v v ∧ T 5 = .v (.one (.int .i64 i)) ∧ T 1 = .v (.one (.int .i64 (left - (l.length : Int) - (wsum wtQ l i : Int)))) ∧ 0 ≤ left - (l.length : Int) - (wsum wtQ l i : Int)) l.length ?_ ?_ (Nat.zero_le _) ?_
  · rintro i T L h' hi ⟨rfl, t0, t5, t1, hw⟩
    have hm := List.getElem_mem hi
    have e2 := wsum_next (f := wtQ) hi
    have e3 := wsum_le (f := wtQ) (l := l) (show i + 1 ≤ l.length by omega)
    have e1 := c_szParam l[i] (left - (l.length : Int) - (wsum wtQ l i : Int)) h' hw (by omega) (k1 _ hm)
    by_cases e4 : left - (l.length : Int) - (wsum wtQ l i : Int) - (wtQ l[i] : Int) < 0
    · simp +contextual (maxSteps := 2000000) only [go_sem, Nat.reduceEqDiff, reduceCtorEq, Nat.reduceAdd, Nat.reduceLeDiff, t0, t1, t5, hl.len, hl.iaddr hi, hl.whole hi, e1, lt_true hi, decide_eq_true (szr_lt.2 e4)]
      unfold szr wtL
      rw [if_pos (by omega)]
    · simp +contextual (maxSteps := 2000000) only [go_sem, Nat.reduceEqDiff, reduceCtorEq, Nat.reduceAdd, Nat.reduceLeDiff, t0, t1, t5, hl.len, hl.iaddr hi, hl.whole hi, e1, lt_true hi, decide_eq_false (show ¬ szr (left - (l.length : Int) - (wsum wtQ l i : Int)) (wtQ l[i]) < 0 by rw [szr_lt]; exact e4)]
      have e5 : szr (left - (l.length : Int) - (wsum wtQ l i : Int)) (wtQ l[i]) = left - (l.length : Int) - (wsum wtQ l (i + 1) : Int) := by
        unfold szr
        rw [if_neg e4, e2]
        omega
      rw [wrap_next hi (by omega), e5]
      exact ⟨rfl, rfl, by omega⟩
  · rintro T L h' ⟨rfl, t0, t5, t1, hw⟩
    simp +contextual (maxSteps := 2000000) only [go_sem, Nat.reduceEqDiff, reduceCtorEq, Nat.reduceAdd, Nat.reduceLeDiff, t0, t1, t5, hl.len, lt_false]
    unfold szr wtL
    rw [if_neg (by omega)]
    rw [show left - (l.length : Int) - (wsum wtQ l l.length : Int) = left - ((l.length + wsum wtQ l l.length : Nat) : Int) by omega]
  · simp +contextual (maxSteps := 2000000) only [go_sem, Nat.reduceEqDiff, reduceCtorEq, Nat.reduceAdd, Nat.reduceLeDiff, wsum_zero]
    (repeat' (first | refine And.intro ?_ ?_ | intro _)) <;> first | rfl | (simp; done) | (simp; omega)
/-! laws.szSignature -/
def L25_0 : List AStep := [⟨.box 60 (.t 0), (some 2), none, []⟩, ⟨.mov (.c (.int .i64 0)), (some 4), none, []⟩]
theorem v25_0 : VS L25_0.eq_1 := rfl
def L25_1 : List AStep := [⟨.mov (.t 8), (some 1), none, []⟩]
theorem v25_1 : VS L25_1.eq_1 := rfl
def L25_2 : List AStep := ⟨.mov (.t 1), (some 7), none, []⟩ :: ⟨.call 67 [(.t 6), (.t 7)], (some 8), none, []⟩ :: L25_1
theorem v25_2 : VS L25_2.eq_1 := rfl
def L25_3 : List AStep := ⟨.faddr 0 (.t 2), (some 5), none, []⟩ :: ⟨.load 1 false (.t 5), (some 6), none, []⟩ :: L25_2
theorem v25_3 : VS L25_3.eq_1 := rfl
def L25_4 : List AStep := [⟨.mov (.t 1), (some 9), none, []⟩, ⟨.bin .lss (.t 9) (.c (.int .i64 0)), (some 10), none, []⟩]
theorem v25_4 : VS L25_4.eq_1 := rfl
def L25_5 : List AStep := [⟨.mov (.c (.int .i64 (-1))), (some 4), none, []⟩]
theorem v25_5 : VS L25_5.eq_1 := rfl
def L25_6 : List AStep := [⟨.mov (.t 1), (some 11), none, []⟩, ⟨.mov (.t 11), (some 4), none, []⟩]
theorem v25_6 : VS L25_6.eq_1 := rfl
def C25_0 : ACode := .seq (.reg L25_5) .ret
theorem u25_0 : VC C25_0.eq_1 := rfl
def C25_1 : ACode := .cond (.t 10) C25_0 .skip
theorem u25_1 : VC C25_1.eq_1 := rfl
def C25_2 : ACode := .seq (.reg L25_4) C25_1
theorem u25_2 : VC C25_2.eq_1 := rfl
def C25_3 : ACode := .seq (.reg L25_6) .ret
theorem u25_3 : VC C25_3.eq_1 := rfl
def C25_4 : ACode := .seq C25_2 C25_3
theorem u25_4 : VC C25_4.eq_1 := rfl
def C25_5 : ACode := .seq (.reg L25_3) C25_4
theorem u25_5 : VC C25_5.eq_1 := rfl
def C25_6 : ACode := .seq (.reg L25_0) C25_5
theorem u25_6 : VC C25_6.eq_1 := rfl
def F25 : AFunc := ⟨12, [.tmp 4], C25_6⟩
theorem cF25 : compB Try.prog 25 = some F25 := by kernel_rfl
attribute [local go_sem ↓] u25_0 u25_1 u25_2 u25_3 u25_4 u25_5 u25_6 v25_0 v25_1 v25_2 v25_3 v25_4 v25_5 v25_6
theorem c_szSignature {ty : Nat} (l : List Param) (v : CV) (left : Int) (h : H) (h1 : 0 ≤ left) (h2 : left ≤ 1048576) (hl : Sl encQ 4 ty h (.one v) l) (k0 : l.length ≤ far) (k1 : ∀ x ∈ l, x.name.size ≤ far) : bm Try.prog 25 [.agg [v], .one (.int .i64 left)] h = some (ii (szr left (wtL wtQ l)), h) := by
  refine bm_eq cF25 ?_
  simp +contextual (maxSteps := 2000000) only [go_sem, Nat.reduceEqDiff, reduceCtorEq, Nat.reduceAdd, Nat.reduceLeDiff, F25, c_szParamS _ _ _ _ h1 h2 hl k0 k1]
  unfold szr
  (repeat' (first | refine And.intro ?_ ?_ | intro _)) <;> first | (simp_all; done) | (simp_all; omega)
end Go.Proofs.Ytdalgphpacikkac.Am
