/- Contracts of the laws: sizes. -/
import Derived.Test.YtoeceafibmafpaaDoorDat
namespace Go.Proofs.YtoeceafibmafpaaDoor.Am
open Go
set_option maxRecDepth 100000
set_option maxHeartbeats 4000000
set_option linter.unusedSimpArgs false
set_option linter.unusedVariables false
attribute [local go_sem ↓] bv_t bv_c ev_t ev_c put_same put_ne put_none kill_at pro_at lb_same lb_ne start_zero start_succ wpC_seq wpC_reg wpC_cond wpC_block wpC_skip wpC_exit wpC_ret thenQ_normal thenQ_exit thenQ_ret inBlk_normal inBlk_exit inBlk_ret wpS_nil wpS_step wpS_again wpS_guard wpO_mov wpO_load wpO_faddr wpO_nilCheck wpO_pick wpO_build wpO_bin wpO_eqb wpO_eqst wpO_eqnil wpO_not wpO_conv wpO_bytesStr wpO_iaddr wpO_idxStr wpO_field wpO_extract wpO_len wpO_lenStr wpO_cap wpO_min wpO_slice wpO_sliceStr wpO_alloc wpO_box wpO_store wpO_call wpO_callv wpO_mkfn wpO_buildSlice wpO_mkslice wpO_append wpO_appz proA_nil proA_cons tmpX_nil tmpX_tmp tmpX_cell doneB_normal doneB_ret agK_cons agK_nil agK_guard agG_tt agG_ff agG_tf agG_ft agG_undef pureB_load results_one results_two results_nil resBs_cons resBs_nil resB_tmp resB_cell
attribute [local go_sem] kill_v kill_lp_ne kill_lp_same pro_v pro_lp_same pro_lp_ne av_v av_lp optB_some optX_some valX_eq ldX_lp ldX_v faX_lp faX_v ncX_lp ncX_ptr ncX_fn boxK_one boxK_agg stL_some stK_lp_one stK_lp_agg stK_v_one stK_v_agg proM_v proM_lp callG_mk callVG_mk callvK_fn fnG_mk ptrsA_nil ptrsA_cons callH_some whenA_true whenA_false guardH_tt guardH_ff guardH_tf guardH_ft guardH_undef agV_one agV_agg lenO_sl lenStrO_str notO_bool pickO_bool convO_int eqbO_bool eqnilO_sl extractO_tup capO_sl minO_int loadL_one loadL_all storeL_eq fillA_nil fillA_one fillA_agg nat_ge neg_ge nat_lt neg_lt buildO bin_add bin_sub bin_mul bin_eql bin_neq bin_lss bin_leq bin_gtr bin_geq str_eql str_neq str_lss str_leq str_gtr str_geq retK_some endK_mk gcK_same gcK_int gcK_bool tupO_one tupO_agg rdy_self ib ii Option.map_none Option.map_some Option.some.injEq exists_eq_left' exists_eq_left ne_eq not_false_eq_true if_true if_false List.map_cons List.map_nil List.getElem?_cons_zero List.getElem?_cons_succ List.length_cons List.length_nil List.take_succ_cons List.take_zero List.take_nil List.drop_succ_cons List.drop_zero List.drop_nil List.cons_append List.nil_append List.append_nil List.set_cons_zero List.set_cons_succ Nat.zero_add forall_const true_and and_true and_self Bool.false_eq_true false_implies true_implies implies_true Bool.not_true Bool.not_false Bool.not_eq_true' Bool.not_eq_false' beq_self_eq_true Bool.bne_true Bool.bne_false
attribute [local go_sem] lenI lenS lenP lenQ lenB lenL lenT encI_0 encS_0 encP_0 encP_1 encQ_0 encQ_1 encQ_2 encQ_3 encB_0 encB_1 encL_0 encL_1 encT_0 encT_1
attribute [local go_sem low] whenA_bool guardH_bool
theorem i64_sub {a : Int} {n : Nat} (h1 : 0 ≤ a) (h2 : a ≤ 1048576) (h3 : n ≤ far) : IntKind.i64.wrap (a - n) = a - n := by unfold far at h3; rw [i64_wrap (by omega) (by omega)]
/-! laws.szParam -/
def L75_0 : List AStep := [⟨.box 113 (.t 0), (some 2), none, []⟩, ⟨.mov (.c (.int .i64 0)), (some 4), none, []⟩]
theorem v75_0 : VS L75_0.eq_1 := rfl
def L75_1 : List AStep := [⟨.bin .sub (.t 5) (.t 8), (some 9), none, []⟩, ⟨.mov (.t 9), (some 1), none, []⟩]
theorem v75_1 : VS L75_1.eq_1 := rfl
def L75_2 : List AStep := ⟨.load 1 false (.t 6), (some 7), none, []⟩ :: ⟨.lenStr (.t 7), (some 8), none, []⟩ :: L75_1
theorem v75_2 : VS L75_2.eq_1 := rfl
def L75_3 : List AStep := ⟨.mov (.t 1), (some 5), none, []⟩ :: ⟨.faddr 0 (.t 2), (some 6), none, []⟩ :: L75_2
theorem v75_3 : VS L75_3.eq_1 := rfl
def L75_4 : List AStep := [⟨.mov (.t 1), (some 10), none, []⟩, ⟨.bin .lss (.t 10) (.c (.int .i64 0)), (some 11), none, []⟩]
theorem v75_4 : VS L75_4.eq_1 := rfl
def L75_5 : List AStep := [⟨.mov (.c (.int .i64 (-1))), (some 4), none, []⟩]
theorem v75_5 : VS L75_5.eq_1 := rfl
def L75_6 : List AStep := [⟨.mov (.t 1), (some 12), none, []⟩, ⟨.mov (.t 12), (some 4), none, []⟩]
theorem v75_6 : VS L75_6.eq_1 := rfl
def C75_0 : ACode := .seq (.reg L75_5) .ret
theorem u75_0 : VC C75_0.eq_1 := rfl
def C75_1 : ACode := .cond (.t 11) C75_0 .skip
theorem u75_1 : VC C75_1.eq_1 := rfl
def C75_2 : ACode := .seq (.reg L75_4) C75_1
theorem u75_2 : VC C75_2.eq_1 := rfl
def C75_3 : ACode := .seq (.reg L75_6) .ret
theorem u75_3 : VC C75_3.eq_1 := rfl
def C75_4 : ACode := .seq C75_2 C75_3
theorem u75_4 : VC C75_4.eq_1 := rfl
def C75_5 : ACode := .seq (.reg L75_3) C75_4
theorem u75_5 : VC C75_5.eq_1 := rfl
def C75_6 : ACode := .seq (.reg L75_0) C75_5
theorem u75_6 : VC C75_6.eq_1 := rfl
def F75 : AFunc := ⟨13, [.tmp 4], C75_6⟩
theorem cF75 : compB Tryd.prog 75 = some F75 := by kernel_rfl
attribute [local go_sem ↓] u75_0 u75_1 u75_2 u75_3 u75_4 u75_5 u75_6 v75_0 v75_1 v75_2 v75_3 v75_4 v75_5 v75_6
theorem c_szParam (p : Param) (left : Int) (h : H) (h1 : 0 ≤ left) (h2 : left ≤ 1048576) (k0 : p.name.size ≤ far) : bm Tryd.prog 75 [.agg (encQ p), .one (.int .i64 left)] h = some (ii (szr left (wtQ p)), h) := by
  refine bm_eq cF75 ?_
  simp +contextual (maxSteps := 2000000) only [go_sem, Nat.reduceEqDiff, reduceCtorEq, Nat.reduceAdd, Nat.reduceLeDiff, F75, i64_sub h1 h2 k0]
  unfold szr wtQ
  (repeat' (first | refine And.intro ?_ ?_ | intro _)) <;> first | (simp_all; done) | (simp_all; omega)
/-! laws.szParamS -/
def L44_0 : List AStep := [⟨.mov (.c (.int .i64 0)), (some 4), none, []⟩]
theorem v44_0 : VS L44_0.eq_1 := rfl
def L44_1 : List AStep := [⟨.mov (.t 9), (some 1), none, []⟩]
theorem v44_1 : VS L44_1.eq_1 := rfl
def L44_2 : List AStep := ⟨.len (.t 7), (some 8), none, []⟩ :: ⟨.bin .sub (.t 6) (.t 8), (some 9), none, []⟩ :: L44_1
theorem v44_2 : VS L44_2.eq_1 := rfl
def L44_3 : List AStep := ⟨.mov (.t 1), (some 6), none, []⟩ :: ⟨.mov (.t 0), (some 7), none, []⟩ :: L44_2
theorem v44_3 : VS L44_3.eq_1 := rfl
def L44_4 : List AStep := [⟨.mov (.t 1), (some 10), none, []⟩, ⟨.bin .lss (.t 10) (.c (.int .i64 0)), (some 11), none, []⟩]
theorem v44_4 : VS L44_4.eq_1 := rfl
def L44_5 : List AStep := [⟨.mov (.c (.int .i64 (-1))), (some 4), none, []⟩]
theorem v44_5 : VS L44_5.eq_1 := rfl
def L44_6 : List AStep := [⟨.mov (.c (.int .i64 0)), (some 5), none, []⟩]
theorem v44_6 : VS L44_6.eq_1 := rfl
def L44_7 : List AStep := [⟨.len (.t 13), (some 14), none, []⟩, ⟨.bin .lss (.t 12) (.t 14), (some 15), none, []⟩]
theorem v44_7 : VS L44_7.eq_1 := rfl
def L44_8 : List AStep := ⟨.mov (.t 5), (some 12), none, []⟩ :: ⟨.mov (.t 0), (some 13), none, []⟩ :: L44_7
theorem v44_8 : VS L44_8.eq_1 := rfl
def L44_9 : List AStep := [⟨.mov (.t 23), (some 1), none, []⟩]
theorem v44_9 : VS L44_9.eq_1 := rfl
def L44_10 : List AStep := ⟨.mov (.t 1), (some 22), none, []⟩ :: ⟨.call 75 [(.t 21), (.t 22)], (some 23), none, []⟩ :: L44_9
theorem v44_10 : VS L44_10.eq_1 := rfl
def L44_11 : List AStep := ⟨.iaddr 4 (.t 18) (.t 19), (some 20), none, []⟩ :: ⟨.load 4 true (.t 20), (some 21), none, []⟩ :: L44_10
theorem v44_11 : VS L44_11.eq_1 := rfl
def L44_12 : List AStep := ⟨.mov (.t 0), (some 18), none, []⟩ :: ⟨.mov (.t 5), (some 19), none, []⟩ :: L44_11
theorem v44_12 : VS L44_12.eq_1 := rfl
def L44_13 : List AStep := [⟨.mov (.t 1), (some 24), none, []⟩, ⟨.bin .lss (.t 24) (.c (.int .i64 0)), (some 25), none, []⟩]
theorem v44_13 : VS L44_13.eq_1 := rfl
def L44_14 : List AStep := [⟨.mov (.c (.int .i64 (-1))), (some 4), none, []⟩]
theorem v44_14 : VS L44_14.eq_1 := rfl
def L44_15 : List AStep := [⟨.mov (.t 17), (some 5), none, []⟩]
theorem v44_15 : VS L44_15.eq_1 := rfl
def L44_16 : List AStep := ⟨.mov (.t 5), (some 16), none, []⟩ :: ⟨.bin .add (.t 16) (.c (.int .i64 1)), (some 17), none, []⟩ :: L44_15
theorem v44_16 : VS L44_16.eq_1 := rfl
def L44_17 : List AStep := [⟨.mov (.t 1), (some 26), none, []⟩, ⟨.mov (.t 26), (some 4), none, []⟩]
theorem v44_17 : VS L44_17.eq_1 := rfl
def C44_0 : ACode := .seq (.reg L44_5) .ret
theorem u44_0 : VC C44_0.eq_1 := rfl
def C44_1 : ACode := .cond (.t 11) C44_0 .skip
theorem u44_1 : VC C44_1.eq_1 := rfl
def C44_2 : ACode := .seq (.reg L44_4) C44_1
theorem u44_2 : VC C44_2.eq_1 := rfl
def C44_3 : ACode := .cond (.t 15) .skip (.exit 0)
theorem u44_3 : VC C44_3.eq_1 := rfl
def C44_4 : ACode := .seq (.reg L44_8) C44_3
theorem u44_4 : VC C44_4.eq_1 := rfl
def C44_5 : ACode := .seq (.reg L44_14) .ret
theorem u44_5 : VC C44_5.eq_1 := rfl
def C44_6 : ACode := .cond (.t 25) C44_5 .skip
theorem u44_6 : VC C44_6.eq_1 := rfl
def C44_7 : ACode := .seq (.reg L44_13) C44_6
theorem u44_7 : VC C44_7.eq_1 := rfl
def C44_8 : ACode := .seq (.reg L44_12) C44_7
theorem u44_8 : VC C44_8.eq_1 := rfl
def C44_9 : ACode := .block 1 C44_8
theorem u44_9 : VC C44_9.eq_1 := rfl
def C44_10 : ACode := .seq C44_9 (.reg L44_16)
theorem u44_10 : VC C44_10.eq_1 := rfl
def C44_11 : ACode := .seq C44_4 C44_10
theorem u44_11 : VC C44_11.eq_1 := rfl
def C44_12 : ACode := .block 0 (.loop C44_11)
theorem u44_12 : VC C44_12.eq_1 := rfl
def C44_13 : ACode := .seq (.reg L44_6) C44_12
theorem u44_13 : VC C44_13.eq_1 := rfl
def C44_14 : ACode := .seq (.reg L44_17) .ret
theorem u44_14 : VC C44_14.eq_1 := rfl
def C44_15 : ACode := .seq C44_13 C44_14
theorem u44_15 : VC C44_15.eq_1 := rfl
def C44_16 : ACode := .seq C44_2 C44_15
theorem u44_16 : VC C44_16.eq_1 := rfl
def C44_17 : ACode := .seq (.reg L44_3) C44_16
theorem u44_17 : VC C44_17.eq_1 := rfl
def C44_18 : ACode := .seq (.reg L44_0) C44_17
theorem u44_18 : VC C44_18.eq_1 := rfl
def F44 : AFunc := ⟨27, [.tmp 4], C44_18⟩
theorem cF44 : compB Tryd.prog 44 = some F44 := by kernel_rfl
attribute [local go_sem ↓] u44_0 u44_1 u44_2 u44_3 u44_4 u44_5 u44_6 u44_7 u44_8 u44_9 u44_10 u44_11 u44_12 u44_13 u44_14 u44_15 u44_16 u44_17 u44_18 v44_0 v44_1 v44_2 v44_3 v44_4 v44_5 v44_6 v44_7 v44_8 v44_9 v44_10 v44_11 v44_12 v44_13 v44_14 v44_15 v44_16 v44_17
theorem c_szParamS {ty : Nat} (l : List Param) (v : AV) (left : Int) (h : H) (h1 : 0 ≤ left) (h2 : left ≤ 1048576) (hl : Sl encQ 4 ty h v l) (k0 : l.length ≤ far) (k1 : ∀ x ∈ l, x.name.size ≤ far) : bm Tryd.prog 44 [v, .one (.int .i64 left)] h = some (ii (szr left (wtL wtQ l)), h) := by
  refine bm_eq cF44 ?_
  by_cases e : left - (l.length : Int) < 0
  · simp +contextual (maxSteps := 2000000) only [go_sem, Nat.reduceEqDiff, reduceCtorEq, Nat.reduceAdd, Nat.reduceLeDiff, F44, hl.len, i64_sub h1 h2 k0, decide_eq_true e]
    unfold szr wtL
    rw [if_pos (by omega)]
  simp +contextual (maxSteps := 2000000) only [go_sem, Nat.reduceEqDiff, reduceCtorEq, Nat.reduceAdd, Nat.reduceLeDiff, F44, hl.len, i64_sub h1 h2 k0, decide_eq_false e]
  refine wpC_loop (fun i T L h' => h' = h ∧ T 0 = .v v ∧ T 5 = .v (.one (.int .i64 i)) ∧ T 1 = .v (.one (.int .i64 (left - (l.length : Int) - (wsum wtQ l i : Int)))) ∧ 0 ≤ left - (l.length : Int) - (wsum wtQ l i : Int)) l.length ?_ ?_ (Nat.zero_le _) ?_
  · rintro i T L h' hi ⟨rfl, t0, t5, t1, hw⟩
    have hm := List.getElem_mem hi
    have e2 := wsum_next (f := wtQ) hi
    have e3 := wsum_le (f := wtQ) (l := l) (show i + 1 ≤ l.length by omega)
    have e1 := c_szParam l[i] (left - (l.length : Int) - (wsum wtQ l i : Int)) h' hw (by omega) (k1 _ hm)
    by_cases e4 : left - (l.length : Int) - (wsum wtQ l i : Int) - (wtQ l[i] : Int) < 0
    · simp +contextual (maxSteps := 2000000) only [go_sem, Nat.reduceEqDiff, reduceCtorEq, Nat.reduceAdd, Nat.reduceLeDiff, t0, t1, t5, hl.len, hl.iaddr hi, hl.whole hi, e1, lt_true hi, decide_eq_true (szr_lt.2 e4)]
      unfold szr wtL
      rw [if_pos (by omega)]
    · simp +contextual (maxSteps := 2000000) only [go_sem, Nat.reduceEqDiff, reduceCtorEq, Nat.reduceAdd, Nat.reduceLeDiff, t0, t1, t5, hl.len, hl.iaddr hi, hl.whole hi, e1, lt_true hi, decide_eq_false (show ¬ szr (left - (l.length : Int) - (wsum wtQ l i : Int)) (wtQ l[i]) < 0 by rw [szr_lt]; exact e4)]
      have e5 : szr (left - (l.length : Int) - (wsum wtQ l i : Int)) (wtQ l[i]) = left - (l.length : Int) - (wsum wtQ l (i + 1) : Int) := by
        unfold szr
        rw [if_neg e4, e2]
        omega
      rw [wrap_next hi (by omega), e5]
      exact ⟨rfl, rfl, by omega⟩
  · rintro T L h' ⟨rfl, t0, t5, t1, hw⟩
    simp +contextual (maxSteps := 2000000) only [go_sem, Nat.reduceEqDiff, reduceCtorEq, Nat.reduceAdd, Nat.reduceLeDiff, t0, t1, t5, hl.len, lt_false]
    unfold szr wtL
    rw [if_neg (by omega)]
    rw [show left - (l.length : Int) - (wsum wtQ l l.length : Int) = left - ((l.length + wsum wtQ l l.length : Nat) : Int) by omega]
  · simp +contextual (maxSteps := 2000000) only [go_sem, Nat.reduceEqDiff, reduceCtorEq, Nat.reduceAdd, Nat.reduceLeDiff, wsum_zero]
    (repeat' (first | refine And.intro ?_ ?_ | intro _)) <;> first | rfl | (simp; done) | (simp; omega)
/-! laws.szSignature -/
def L14_0 : List AStep := [⟨.box 33 (.t 0), (some 2), none, []⟩, ⟨.mov (.c (.int .i64 0)), (some 4), none, []⟩]
theorem v14_0 : VS L14_0.eq_1 := rfl
def L14_1 : List AStep := [⟨.mov (.t 8), (some 1), none, []⟩]
theorem v14_1 : VS L14_1.eq_1 := rfl
def L14_2 : List AStep := ⟨.mov (.t 1), (some 7), none, []⟩ :: ⟨.call 44 [(.t 6), (.t 7)], (some 8), none, []⟩ :: L14_1
theorem v14_2 : VS L14_2.eq_1 := rfl
def L14_3 : List AStep := ⟨.faddr 0 (.t 2), (some 5), none, []⟩ :: ⟨.load 1 false (.t 5), (some 6), none, []⟩ :: L14_2
theorem v14_3 : VS L14_3.eq_1 := rfl
def L14_4 : List AStep := [⟨.mov (.t 1), (some 9), none, []⟩, ⟨.bin .lss (.t 9) (.c (.int .i64 0)), (some 10), none, []⟩]
theorem v14_4 : VS L14_4.eq_1 := rfl
def L14_5 : List AStep := [⟨.mov (.c (.int .i64 (-1))), (some 4), none, []⟩]
theorem v14_5 : VS L14_5.eq_1 := rfl
def L14_6 : List AStep := [⟨.mov (.t 1), (some 11), none, []⟩, ⟨.mov (.t 11), (some 4), none, []⟩]
theorem v14_6 : VS L14_6.eq_1 := rfl
def C14_0 : ACode := .seq (.reg L14_5) .ret
theorem u14_0 : VC C14_0.eq_1 := rfl
def C14_1 : ACode := .cond (.t 10) C14_0 .skip
theorem u14_1 : VC C14_1.eq_1 := rfl
def C14_2 : ACode := .seq (.reg L14_4) C14_1
theorem u14_2 : VC C14_2.eq_1 := rfl
def C14_3 : ACode := .seq (.reg L14_6) .ret
theorem u14_3 : VC C14_3.eq_1 := rfl
def C14_4 : ACode := .seq C14_2 C14_3
theorem u14_4 : VC C14_4.eq_1 := rfl
def C14_5 : ACode := .seq (.reg L14_3) C14_4
theorem u14_5 : VC C14_5.eq_1 := rfl
def C14_6 : ACode := .seq (.reg L14_0) C14_5
theorem u14_6 : VC C14_6.eq_1 := rfl
def F14 : AFunc := ⟨12, [.tmp 4], C14_6⟩
theorem cF14 : compB Tryd.prog 14 = some F14 := by kernel_rfl
attribute [local go_sem ↓] u14_0 u14_1 u14_2 u14_3 u14_4 u14_5 u14_6 v14_0 v14_1 v14_2 v14_3 v14_4 v14_5 v14_6
theorem c_szSignature {ty : Nat} (l : List Param) (v : CV) (left : Int) (h : H) (h1 : 0 ≤ left) (h2 : left ≤ 1048576) (hl : Sl encQ 4 ty h (.one v) l) (k0 : l.length ≤ far) (k1 : ∀ x ∈ l, x.name.size ≤ far) : bm Tryd.prog 14 [.agg [v], .one (.int .i64 left)] h = some (ii (szr left (wtL wtQ l)), h) := by
  refine bm_eq cF14 ?_
  simp +contextual (maxSteps := 2000000) only [go_sem, Nat.reduceEqDiff, reduceCtorEq, Nat.reduceAdd, Nat.reduceLeDiff, F14, c_szParamS _ _ _ _ h1 h2 hl k0 k1]
  unfold szr
  (repeat' (first | refine And.intro ?_ ?_ | intro _)) <;> first | (simp_all; done) | (simp_all; omega)
end Go.Proofs.YtoeceafibmafpaaDoor.Am
