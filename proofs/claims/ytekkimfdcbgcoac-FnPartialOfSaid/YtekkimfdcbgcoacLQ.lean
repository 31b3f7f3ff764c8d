/- Contracts: equal bindings, and plain facts on parts of calls. -/
import Derived.Test.YtekkimfdcbgcoacL1
import Derived.Test.YtekkimfdcbgcoacBK
import Derived.Test.YtekkimfdcbgcoacPD
namespace Go.Proofs.Ytekkimfdcbgcoac.Am
open Go
set_option maxRecDepth 100000
set_option maxHeartbeats 4000000
set_option linter.unusedSimpArgs false
set_option linter.unusedVariables false
attribute [local go_sem ↓] bv_t bv_c ev_t ev_c put_same put_ne put_none kill_at pro_at lb_same lb_ne start_zero start_succ wpC_seq wpC_reg wpC_cond wpC_block wpC_skip wpC_exit wpC_ret thenQ_normal thenQ_exit thenQ_ret inBlk_normal inBlk_exit inBlk_ret wpS_nil wpS_step wpS_again wpS_guard wpO_mov wpO_load wpO_faddr wpO_nilCheck wpO_pick wpO_build wpO_bin wpO_eqb wpO_eqst wpO_eqnil wpO_not wpO_conv wpO_bytesStr wpO_iaddr wpO_idxStr wpO_field wpO_extract wpO_len wpO_lenStr wpO_cap wpO_min wpO_slice wpO_sliceStr wpO_alloc wpO_box wpO_store wpO_call wpO_callv wpO_mkfn wpO_buildSlice wpO_mkslice wpO_append wpO_appz proA_nil proA_cons tmpX_nil tmpX_tmp tmpX_cell doneB_normal doneB_ret agK_cons agK_nil agK_guard agG_tt agG_ff agG_tf agG_ft agG_undef pureB_load results_one results_two results_nil resBs_cons resBs_nil resB_tmp resB_cell
attribute [local go_sem] kill_v kill_lp_ne kill_lp_same pro_v pro_lp_same pro_lp_ne av_v av_lp optB_some optX_some valX_eq ldX_lp ldX_v faX_lp faX_v ncX_lp ncX_ptr ncX_fn boxK_one boxK_agg stL_some stK_lp_one stK_lp_agg stK_v_one stK_v_agg proM_v proM_lp callG_mk callVG_mk callvK_fn fnG_mk ptrsA_nil ptrsA_cons callH_some whenA_true whenA_false guardH_tt guardH_ff guardH_tf guardH_ft guardH_undef agV_one agV_agg lenO_sl lenStrO_str notO_bool pickO_bool convO_int eqbO_bool eqnilO_sl extractO_tup capO_sl minO_int loadL_one loadL_all storeL_eq fillA_nil fillA_one fillA_agg nat_ge neg_ge nat_lt neg_lt buildO bin_add bin_sub bin_mul bin_eql bin_neq bin_lss bin_leq bin_gtr bin_geq str_eql str_neq str_lss str_leq str_gtr str_geq retK_some endK_mk gcK_same gcK_int gcK_bool tupO_one tupO_agg rdy_self ib ii Option.map_none Option.map_some Option.some.injEq exists_eq_left' exists_eq_left ne_eq not_false_eq_true if_true if_false List.map_cons List.map_nil List.getElem?_cons_zero List.getElem?_cons_succ List.length_cons List.length_nil List.take_succ_cons List.take_zero List.take_nil List.drop_succ_cons List.drop_zero List.drop_nil List.cons_append List.nil_append List.append_nil List.set_cons_zero List.set_cons_succ Nat.zero_add forall_const true_and and_true and_self Bool.false_eq_true false_implies true_implies implies_true Bool.not_true Bool.not_false Bool.not_eq_true' Bool.not_eq_false' beq_self_eq_true Bool.bne_true Bool.bne_false
attribute [local go_sem] lenI lenS lenP lenQ lenB lenL lenT encI_0 encS_0 encP_0 encP_1 encQ_0 encQ_1 encQ_2 encQ_3 encB_0 encB_1 encL_0 encL_1 encT_0 encT_1
attribute [local go_sem low] whenA_bool guardH_bool
theorem accepts_part {l : List Param} {f : Flat} (h : acceptsF l f = true) : partOk l f = true ∧ bindF l f = bindPartF l f := by
  have hp : partOk l f = true := by
    unfold acceptsF at h
    unfold partOk
    rw [Bool.and_eq_true] at h ⊢
    refine ⟨h.1, ?_⟩
    have h2 := h.2
    unfold wrong at h2
    rw [List.isEmpty_iff, List.append_eq_nil_iff] at h2
    rw [List.isEmpty_iff]
    exact h2.1
  refine ⟨hp, ?_⟩
  unfold bindF bindPartF
  rw [if_pos h, if_pos hp]
theorem part_all {l : List Param} {f : Flat} (h : fits l f = true) : (problemsF l f).all (fun p => decide (p.kind = 3)) = partOk l f := by
  unfold problemsF partOk
  rw [if_pos h, h, Bool.true_and]
  have h2 := part_any (l := l) (f := f)
  rw [Bool.eq_iff_iff, List.all_eq_true]
  cases hb : (boundB l f).isEmpty with
  | true =>
    rw [hb] at h2
    simp only [iff_true]
    intro p hp
    have := List.any_eq_false.1 h2 p hp
    simpa using this
  | false =>
    rw [hb] at h2
    simp only [Bool.false_eq_true, iff_false]
    intro h3
    obtain ⟨p, hp, e⟩ := List.any_eq_true.1 h2
    have := h3 p hp
    rw [this] at e
    simp at e
/-! laws.equalBinding -/
def L33_0 : List AStep := [⟨.mov (.c (.bool false)), (some 4), none, []⟩]
theorem v33_0 : VS L33_0.eq_1 := rfl
def L33_1 : List AStep := ⟨.box 39 (.t 0), (some 2), none, []⟩ :: ⟨.box 39 (.t 1), (some 3), none, []⟩ :: L33_0
theorem v33_1 : VS L33_1.eq_1 := rfl
def L33_2 : List AStep := [⟨.bin .neq (.t 10) (.t 13), (some 14), none, []⟩]
theorem v33_2 : VS L33_2.eq_1 := rfl
def L33_3 : List AStep := ⟨.load 1 false (.t 11), (some 12), none, []⟩ :: ⟨.len (.t 12), (some 13), none, []⟩ :: L33_2
theorem v33_3 : VS L33_3.eq_1 := rfl
def L33_4 : List AStep := ⟨.len (.t 9), (some 10), none, []⟩ :: ⟨.faddr 0 (.t 3), (some 11), none, []⟩ :: L33_3
theorem v33_4 : VS L33_4.eq_1 := rfl
def L33_5 : List AStep := ⟨.faddr 0 (.t 2), (some 8), none, []⟩ :: ⟨.load 1 false (.t 8), (some 9), none, []⟩ :: L33_4
theorem v33_5 : VS L33_5.eq_1 := rfl
def L33_6 : List AStep := [⟨.mov (.c (.bool false)), (some 4), none, []⟩]
theorem v33_6 : VS L33_6.eq_1 := rfl
def L33_7 : List AStep := [⟨.mov (.c (.int .i64 0)), (some 5), none, []⟩]
theorem v33_7 : VS L33_7.eq_1 := rfl
def L33_8 : List AStep := [⟨.bin .lss (.t 15) (.t 18), (some 19), none, []⟩]
theorem v33_8 : VS L33_8.eq_1 := rfl
def L33_9 : List AStep := ⟨.load 1 false (.t 16), (some 17), none, []⟩ :: ⟨.len (.t 17), (some 18), none, []⟩ :: L33_8
theorem v33_9 : VS L33_9.eq_1 := rfl
def L33_10 : List AStep := ⟨.mov (.t 5), (some 15), none, []⟩ :: ⟨.faddr 0 (.t 2), (some 16), none, []⟩ :: L33_9
theorem v33_10 : VS L33_10.eq_1 := rfl
def L33_11 : List AStep := [⟨.store 3 (.t 6) (.t 26), none, none, []⟩]
theorem v33_11 : VS L33_11.eq_1 := rfl
def L33_12 : List AStep := ⟨.load 3 true (.t 25), (some 26), none, []⟩ :: ⟨.alloc 46 [(.bool false), (.sl none 0 (some 0)), (.sl none 0 (some 0))], (some 6), none, []⟩ :: L33_11
theorem v33_12 : VS L33_12.eq_1 := rfl
def L33_13 : List AStep := ⟨.mov (.t 5), (some 24), none, []⟩ :: ⟨.iaddr 3 (.t 23) (.t 24), (some 25), none, []⟩ :: L33_12
theorem v33_13 : VS L33_13.eq_1 := rfl
def L33_14 : List AStep := ⟨.faddr 0 (.t 2), (some 22), none, []⟩ :: ⟨.load 1 false (.t 22), (some 23), none, []⟩ :: L33_13
theorem v33_14 : VS L33_14.eq_1 := rfl
def L33_15 : List AStep := [⟨.store 3 (.t 7) (.t 31), none, none, []⟩]
theorem v33_15 : VS L33_15.eq_1 := rfl
def L33_16 : List AStep := ⟨.load 3 true (.t 30), (some 31), none, []⟩ :: ⟨.alloc 46 [(.bool false), (.sl none 0 (some 0)), (.sl none 0 (some 0))], (some 7), none, []⟩ :: L33_15
theorem v33_16 : VS L33_16.eq_1 := rfl
def L33_17 : List AStep := ⟨.mov (.t 5), (some 29), none, []⟩ :: ⟨.iaddr 3 (.t 28) (.t 29), (some 30), none, []⟩ :: L33_16
theorem v33_17 : VS L33_17.eq_1 := rfl
def L33_18 : List AStep := ⟨.faddr 0 (.t 3), (some 27), none, []⟩ :: ⟨.load 1 false (.t 27), (some 28), none, []⟩ :: L33_17
theorem v33_18 : VS L33_18.eq_1 := rfl
def L33_19 : List AStep := [⟨.pick (.t 45) (.c (.bool true)) (.t 51), (some 52), none, []⟩]
theorem v33_19 : VS L33_19.eq_1 := rfl
def L33_20 : List AStep := ⟨.call 76 [(.t 47), (.t 49)], (some 50), (some (45, false)), []⟩ :: ⟨.not (.t 50), (some 51), (some (45, false)), []⟩ :: L33_19
theorem v33_20 : VS L33_20.eq_1 := rfl
def L33_21 : List AStep := ⟨.faddr 2 (.t 7), (some 48), (some (45, false)), []⟩ :: ⟨.load 1 false (.t 48), (some 49), (some (45, false)), []⟩ :: L33_20
theorem v33_21 : VS L33_21.eq_1 := rfl
def L33_22 : List AStep := ⟨.faddr 2 (.t 6), (some 46), (some (45, false)), []⟩ :: ⟨.load 1 false (.t 46), (some 47), (some (45, false)), []⟩ :: L33_21
theorem v33_22 : VS L33_22.eq_1 := rfl
def L33_23 : List AStep := ⟨.pick (.t 37) (.c (.bool true)) (.t 43), (some 44), none, []⟩ :: ⟨.mov (.t 44), (some 45), none, []⟩ :: L33_22
theorem v33_23 : VS L33_23.eq_1 := rfl
def L33_24 : List AStep := ⟨.call 41 [(.t 39), (.t 41)], (some 42), (some (37, false)), []⟩ :: ⟨.not (.t 42), (some 43), (some (37, false)), []⟩ :: L33_23
theorem v33_24 : VS L33_24.eq_1 := rfl
def L33_25 : List AStep := ⟨.faddr 1 (.t 7), (some 40), (some (37, false)), []⟩ :: ⟨.load 1 false (.t 40), (some 41), (some (37, false)), []⟩ :: L33_24
theorem v33_25 : VS L33_25.eq_1 := rfl
def L33_26 : List AStep := ⟨.faddr 1 (.t 6), (some 38), (some (37, false)), []⟩ :: ⟨.load 1 false (.t 38), (some 39), (some (37, false)), []⟩ :: L33_25
theorem v33_26 : VS L33_26.eq_1 := rfl
def L33_27 : List AStep := ⟨.eqb true (.t 33) (.t 35), (some 36), none, []⟩ :: ⟨.mov (.t 36), (some 37), none, []⟩ :: L33_26
theorem v33_27 : VS L33_27.eq_1 := rfl
def L33_28 : List AStep := ⟨.faddr 0 (.t 7), (some 34), none, []⟩ :: ⟨.load 1 false (.t 34), (some 35), none, []⟩ :: L33_27
theorem v33_28 : VS L33_28.eq_1 := rfl
def L33_29 : List AStep := ⟨.faddr 0 (.t 6), (some 32), none, []⟩ :: ⟨.load 1 false (.t 32), (some 33), none, []⟩ :: L33_28
theorem v33_29 : VS L33_29.eq_1 := rfl
def L33_30 : List AStep := [⟨.mov (.c (.bool false)), (some 4), none, []⟩]
theorem v33_30 : VS L33_30.eq_1 := rfl
def L33_31 : List AStep := [⟨.mov (.t 21), (some 5), none, []⟩]
theorem v33_31 : VS L33_31.eq_1 := rfl
def L33_32 : List AStep := ⟨.mov (.t 5), (some 20), none, []⟩ :: ⟨.bin .add (.t 20) (.c (.int .i64 1)), (some 21), none, []⟩ :: L33_31
theorem v33_32 : VS L33_32.eq_1 := rfl
def L33_33 : List AStep := [⟨.mov (.c (.bool true)), (some 4), none, []⟩]
theorem v33_33 : VS L33_33.eq_1 := rfl
def C33_0 : ACode := .seq (.reg L33_6) .ret
theorem u33_0 : VC C33_0.eq_1 := rfl
def C33_1 : ACode := .cond (.t 14) C33_0 .skip
theorem u33_1 : VC C33_1.eq_1 := rfl
def C33_2 : ACode := .seq (.reg L33_5) C33_1
theorem u33_2 : VC C33_2.eq_1 := rfl
def C33_3 : ACode := .cond (.t 19) .skip (.exit 0)
theorem u33_3 : VC C33_3.eq_1 := rfl
def C33_4 : ACode := .seq (.reg L33_10) C33_3
theorem u33_4 : VC C33_4.eq_1 := rfl
def C33_5 : ACode := .seq (.reg L33_30) .ret
theorem u33_5 : VC C33_5.eq_1 := rfl
def C33_6 : ACode := .cond (.t 52) C33_5 .skip
theorem u33_6 : VC C33_6.eq_1 := rfl
def C33_7 : ACode := .seq (.reg L33_29) C33_6
theorem u33_7 : VC C33_7.eq_1 := rfl
def C33_8 : ACode := .seq (.reg L33_18) C33_7
theorem u33_8 : VC C33_8.eq_1 := rfl
def C33_9 : ACode := .seq (.reg L33_14) C33_8
theorem u33_9 : VC C33_9.eq_1 := rfl
def C33_10 : ACode := .block 1 C33_9
theorem u33_10 : VC C33_10.eq_1 := rfl
def C33_11 : ACode := .seq C33_10 (.reg L33_32)
theorem u33_11 : VC C33_11.eq_1 := rfl
def C33_12 : ACode := .seq C33_4 C33_11
theorem u33_12 : VC C33_12.eq_1 := rfl
def C33_13 : ACode := .block 0 (.loop C33_12)
theorem u33_13 : VC C33_13.eq_1 := rfl
def C33_14 : ACode := .seq (.reg L33_7) C33_13
theorem u33_14 : VC C33_14.eq_1 := rfl
def C33_15 : ACode := .seq (.reg L33_33) .ret
theorem u33_15 : VC C33_15.eq_1 := rfl
def C33_16 : ACode := .seq C33_14 C33_15
theorem u33_16 : VC C33_16.eq_1 := rfl
def C33_17 : ACode := .seq C33_2 C33_16
theorem u33_17 : VC C33_17.eq_1 := rfl
def C33_18 : ACode := .seq (.reg L33_1) C33_17
theorem u33_18 : VC C33_18.eq_1 := rfl
def F33 : AFunc := ⟨53, [.tmp 4], C33_18⟩
theorem cF33 : compB Try.prog 33 = some F33 := by kernel_rfl
attribute [local go_sem ↓] u33_0 u33_1 u33_2 u33_3 u33_4 u33_5 u33_6 u33_7 u33_8 u33_9 u33_10 u33_11 u33_12 u33_13 u33_14 u33_15 u33_16 u33_17 u33_18 v33_0 v33_1 v33_2 v33_3 v33_4 v33_5 v33_6 v33_7 v33_8 v33_9 v33_10 v33_11 v33_12 v33_13 v33_14 v33_15 v33_16 v33_17 v33_18 v33_19 v33_20 v33_21 v33_22 v33_23 v33_24 v33_25 v33_26 v33_27 v33_28 v33_29 v33_30 v33_31 v33_32 v33_33
theorem c_equalBinding (l : List Slot) (v w : CV) (h : H) (hl : SlY h v l) (hm : SlY h w l) (hn : miniY l) : bm Try.prog 33 [.agg [v], .agg [w]] h = some (ib true, h) := by
  refine bm_eq cF33 ?_
  obtain ⟨rs, x⟩ := hl.ex
  obtain ⟨qs, y⟩ := hm.ex
  have len1 := x.out.len
  have len2 := y.out.len
  rw [x.len] at len1
  rw [y.len] at len2
  simp +contextual (maxSteps := 2000000) only [go_sem, Nat.reduceEqDiff, reduceCtorEq, Nat.reduceAdd, Nat.reduceLeDiff, F33, len1, len2, decide_true]
  refine wpC_loop (fun i T L h' => h' = h ∧ T 2 = .lp 2 0 ∧ (L 2).2 = [v] ∧ T 3 = .lp 3 0 ∧ (L 3).2 = [w] ∧ T 5 = .v (.one (.int .i64 i))) l.length ?_ ?_ (Nat.zero_le _) ?_
  · rintro i T L h' hi ⟨rfl, t2, l2, t3, l3, t5⟩
    have hi1 : i < rs.length := by rw [x.len]; exact hi
    have hi2 : i < qs.length := by rw [y.len]; exact hi
    have hx := x.el i hi1
    have hy := y.el i hi2
    rw [getY_eq hi] at hx hy
    have e1 := c_equalInts _ _ _ _ h' hx.list hy.list (Nat.le_trans (hn.list _ (List.getElem_mem hi)) (by decide))
    have e2 := c_equalPairs _ _ _ _ h' hx.pairs hy.pairs (Nat.le_trans (hn.pairs _ (List.getElem_mem hi)) (by decide))
    rw [decide_eq_true rfl] at e1 e2
    simp +contextual (maxSteps := 2000000) only [go_sem, Nat.reduceEqDiff, reduceCtorEq, Nat.reduceAdd, Nat.reduceLeDiff, t2, l2, t3, l3, t5, len1, len2, x.out.iaddr hi1, y.out.iaddr hi2, x.out.whole hi1, y.out.whole hi2, encY, e1, e2, hx.given, hy.given, lt_true hi]
    rw [wrap_next hi (Nat.lt_of_le_of_lt hn.len (by decide))]
  · rintro T L h' ⟨rfl, t2, l2, t3, l3, t5⟩
    simp +contextual (maxSteps := 2000000) only [go_sem, Nat.reduceEqDiff, reduceCtorEq, Nat.reduceAdd, Nat.reduceLeDiff, t2, l2, t3, l3, t5, len1, lt_false]
  · simp +contextual (maxSteps := 2000000) only [go_sem, Nat.reduceEqDiff, reduceCtorEq, Nat.reduceAdd, Nat.reduceLeDiff]
    rfl
end Go.Proofs.Ytekkimfdcbgcoac.Am
