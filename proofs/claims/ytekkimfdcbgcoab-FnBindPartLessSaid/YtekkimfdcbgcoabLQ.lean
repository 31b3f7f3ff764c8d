/- Contracts: equal bindings, and plain facts on parts of calls. -/
import Derived.Test.YtekkimfdcbgcoabL1
import Derived.Test.YtekkimfdcbgcoabBK
import Derived.Test.YtekkimfdcbgcoabPD
namespace Go.Proofs.Ytekkimfdcbgcoab.Am
open Go
set_option maxRecDepth 100000
set_option maxHeartbeats 4000000
set_option linter.unusedSimpArgs false
set_option linter.unusedVariables false
attribute [local go_sem ↓] bv_t bv_c ev_t ev_c put_same put_ne put_none kill_at pro_at lb_same lb_ne start_zero start_succ wpC_seq wpC_reg wpC_cond wpC_block wpC_skip wpC_exit wpC_ret thenQ_normal thenQ_exit thenQ_ret inBlk_normal inBlk_exit inBlk_ret wpS_nil wpS_step wpS_again wpS_guard wpO_mov wpO_load wpO_faddr wpO_nilCheck wpO_pick wpO_build wpO_bin wpO_eqb wpO_eqst wpO_eqnil wpO_not wpO_conv wpO_bytesStr wpO_iaddr wpO_idxStr wpO_field wpO_extract wpO_len wpO_lenStr wpO_cap wpO_min wpO_slice wpO_sliceStr wpO_alloc wpO_box wpO_store wpO_call wpO_callv wpO_mkfn wpO_buildSlice wpO_mkslice wpO_append wpO_appz proA_nil proA_cons tmpX_nil tmpX_tmp tmpX_cell doneB_normal doneB_ret agK_cons agK_nil agK_guard agG_tt agG_ff agG_tf agG_ft agG_undef pureB_load results_one results_two results_nil resBs_cons resBs_nil resB_tmp resB_cell
attribute [local go_sem] kill_v kill_lp_ne kill_lp_same pro_v pro_lp_same pro_lp_ne av_v av_lp optB_some optX_some valX_eq ldX_lp ldX_v faX_lp faX_v ncX_lp ncX_ptr ncX_fn boxK_one boxK_agg stL_some stK_lp_one stK_lp_agg stK_v_one stK_v_agg proM_v proM_lp callG_mk callVG_mk callvK_fn fnG_mk ptrsA_nil ptrsA_cons callH_some whenA_true whenA_false guardH_tt guardH_ff guardH_tf guardH_ft guardH_undef agV_one agV_agg lenO_sl lenStrO_str notO_bool pickO_bool convO_int eqbO_bool eqnilO_sl extractO_tup capO_sl minO_int loadL_one loadL_all storeL_eq fillA_nil fillA_one fillA_agg nat_ge neg_ge nat_lt neg_lt buildO bin_add bin_sub bin_mul bin_eql bin_neq bin_lss bin_leq bin_gtr bin_geq str_eql str_neq str_lss str_leq str_gtr str_geq retK_some endK_mk gcK_same gcK_int gcK_bool tupO_one tupO_agg rdy_self ib ii Option.map_none Option.map_some Option.some.injEq exists_eq_left' exists_eq_left ne_eq not_false_eq_true if_true if_false List.map_cons List.map_nil List.getElem?_cons_zero List.getElem?_cons_succ List.length_cons List.length_nil List.take_succ_cons List.take_zero List.take_nil List.drop_succ_cons List.drop_zero List.drop_nil List.cons_append List.nil_append List.append_nil List.set_cons_zero List.set_cons_succ Nat.zero_add forall_const true_and and_true and_self Bool.false_eq_true false_implies true_implies implies_true Bool.not_true Bool.not_false Bool.not_eq_true' Bool.not_eq_false' beq_self_eq_true Bool.bne_true Bool.bne_false
attribute [local go_sem] lenI lenS lenP lenQ lenB lenL lenT encI_0 encS_0 encP_0 encP_1 encQ_0 encQ_1 encQ_2 encQ_3 encB_0 encB_1 encL_0 encL_1 encT_0 encT_1
attribute [local go_sem low] whenA_bool guardH_bool
theorem accepts_part {l : List Param} {f : Flat} (h : acceptsF l f = true) : partOk l f = true ∧ bindF l f = bindPartF l f := by
  have hp : partOk l f = true := by
    unfold acceptsF at h
    unfold partOk
    rw [Bool.and_eq_true] at h ⊢
    refine ⟨h.1, ?_⟩
    have h2 := h.2
    unfold wrong at h2
    rw [List.isEmpty_iff, List.append_eq_nil_iff] at h2
    rw [List.isEmpty_iff]
    exact h2.1
  refine ⟨hp, ?_⟩
  unfold bindF bindPartF
  rw [if_pos h, if_pos hp]
theorem part_all {l : List Param} {f : Flat} (h : fits l f = true) : (problemsF l f).all (fun p => decide (p.kind = 3)) = partOk l f := by
  unfold problemsF partOk
  rw [if_pos h, h, Bool.true_and]
  have h2 := part_any (l := l) (f := f)
  rw [Bool.eq_iff_iff, List.all_eq_true]
  cases hb : (boundB l f).isEmpty with
  | true =>
    rw [hb] at h2
    simp only [iff_true]
    intro p hp
    have := List.any_eq_false.1 h2 p hp
    simpa using this
  | false =>
    rw [hb] at h2
    simp only [Bool.false_eq_true, iff_false]
    intro h3
    obtain ⟨p, hp, e⟩ := List.any_eq_true.1 h2
    have := h3 p hp
    rw [this] at e
    simp at e
/-! laws.equalBinding -/
def L30_0 : List AStep := [⟨.mov (.c (.bool false)), (some 4), none, []⟩]
theorem v30_0 : VS L30_0.eq_1 := rfl
def L30_1 : List AStep := ⟨.box 56 (.t 0), (some 2), none, []⟩ :: ⟨.box 56 (.t 1), (some 3), none, []⟩ :: L30_0
theorem v30_1 : VS L30_1.eq_1 := rfl
def L30_2 : List AStep := [⟨.bin .neq (.t 10) (.t 13), (some 14), none, []⟩]
theorem v30_2 : VS L30_2.eq_1 := rfl
def L30_3 : List AStep := ⟨.load 1 false (.t 11), (some 12), none, []⟩ :: ⟨.len (.t 12), (some 13), none, []⟩ :: L30_2
theorem v30_3 : VS L30_3.eq_1 := rfl
def L30_4 : List AStep := ⟨.len (.t 9), (some 10), none, []⟩ :: ⟨.faddr 0 (.t 3), (some 11), none, []⟩ :: L30_3
theorem v30_4 : VS L30_4.eq_1 := rfl
def L30_5 : List AStep := ⟨.faddr 0 (.t 2), (some 8), none, []⟩ :: ⟨.load 1 false (.t 8), (some 9), none, []⟩ :: L30_4
theorem v30_5 : VS L30_5.eq_1 := rfl
def L30_6 : List AStep := [⟨.mov (.c (.bool false)), (some 4), none, []⟩]
theorem v30_6 : VS L30_6.eq_1 := rfl
def L30_7 : List AStep := [⟨.mov (.c (.int .i64 0)), (some 5), none, []⟩]
theorem v30_7 : VS L30_7.eq_1 := rfl
def L30_8 : List AStep := [⟨.bin .lss (.t 15) (.t 18), (some 19), none, []⟩]
theorem v30_8 : VS L30_8.eq_1 := rfl
def L30_9 : List AStep := ⟨.load 1 false (.t 16), (some 17), none, []⟩ :: ⟨.len (.t 17), (some 18), none, []⟩ :: L30_8
theorem v30_9 : VS L30_9.eq_1 := rfl
def L30_10 : List AStep := ⟨.mov (.t 5), (some 15), none, []⟩ :: ⟨.faddr 0 (.t 2), (some 16), none, []⟩ :: L30_9
theorem v30_10 : VS L30_10.eq_1 := rfl
def L30_11 : List AStep := [⟨.store 3 (.t 6) (.t 26), none, none, []⟩]
theorem v30_11 : VS L30_11.eq_1 := rfl
def L30_12 : List AStep := ⟨.load 3 true (.t 25), (some 26), none, []⟩ :: ⟨.alloc 94 [(.bool false), (.sl none 0 (some 0)), (.sl none 0 (some 0))], (some 6), none, []⟩ :: L30_11
theorem v30_12 : VS L30_12.eq_1 := rfl
def L30_13 : List AStep := ⟨.mov (.t 5), (some 24), none, []⟩ :: ⟨.iaddr 3 (.t 23) (.t 24), (some 25), none, []⟩ :: L30_12
theorem v30_13 : VS L30_13.eq_1 := rfl
def L30_14 : List AStep := ⟨.faddr 0 (.t 2), (some 22), none, []⟩ :: ⟨.load 1 false (.t 22), (some 23), none, []⟩ :: L30_13
theorem v30_14 : VS L30_14.eq_1 := rfl
def L30_15 : List AStep := [⟨.store 3 (.t 7) (.t 31), none, none, []⟩]
theorem v30_15 : VS L30_15.eq_1 := rfl
def L30_16 : List AStep := ⟨.load 3 true (.t 30), (some 31), none, []⟩ :: ⟨.alloc 94 [(.bool false), (.sl none 0 (some 0)), (.sl none 0 (some 0))], (some 7), none, []⟩ :: L30_15
theorem v30_16 : VS L30_16.eq_1 := rfl
def L30_17 : List AStep := ⟨.mov (.t 5), (some 29), none, []⟩ :: ⟨.iaddr 3 (.t 28) (.t 29), (some 30), none, []⟩ :: L30_16
theorem v30_17 : VS L30_17.eq_1 := rfl
def L30_18 : List AStep := ⟨.faddr 0 (.t 3), (some 27), none, []⟩ :: ⟨.load 1 false (.t 27), (some 28), none, []⟩ :: L30_17
theorem v30_18 : VS L30_18.eq_1 := rfl
def L30_19 : List AStep := [⟨.pick (.t 45) (.c (.bool true)) (.t 51), (some 52), none, []⟩]
theorem v30_19 : VS L30_19.eq_1 := rfl
def L30_20 : List AStep := ⟨.call 73 [(.t 47), (.t 49)], (some 50), (some (45, false)), []⟩ :: ⟨.not (.t 50), (some 51), (some (45, false)), []⟩ :: L30_19
theorem v30_20 : VS L30_20.eq_1 := rfl
def L30_21 : List AStep := ⟨.faddr 2 (.t 7), (some 48), (some (45, false)), []⟩ :: ⟨.load 1 false (.t 48), (some 49), (some (45, false)), []⟩ :: L30_20
theorem v30_21 : VS L30_21.eq_1 := rfl
def L30_22 : List AStep := ⟨.faddr 2 (.t 6), (some 46), (some (45, false)), []⟩ :: ⟨.load 1 false (.t 46), (some 47), (some (45, false)), []⟩ :: L30_21
theorem v30_22 : VS L30_22.eq_1 := rfl
def L30_23 : List AStep := ⟨.pick (.t 37) (.c (.bool true)) (.t 43), (some 44), none, []⟩ :: ⟨.mov (.t 44), (some 45), none, []⟩ :: L30_22
theorem v30_23 : VS L30_23.eq_1 := rfl
def L30_24 : List AStep := ⟨.call 46 [(.t 39), (.t 41)], (some 42), (some (37, false)), []⟩ :: ⟨.not (.t 42), (some 43), (some (37, false)), []⟩ :: L30_23
theorem v30_24 : VS L30_24.eq_1 := rfl
def L30_25 : List AStep := ⟨.faddr 1 (.t 7), (some 40), (some (37, false)), []⟩ :: ⟨.load 1 false (.t 40), (some 41), (some (37, false)), []⟩ :: L30_24
theorem v30_25 : VS L30_25.eq_1 := rfl
def L30_26 : List AStep := ⟨.faddr 1 (.t 6), (some 38), (some (37, false)), []⟩ :: ⟨.load 1 false (.t 38), (some 39), (some (37, false)), []⟩ :: L30_25
theorem v30_26 : VS L30_26.eq_1 := rfl
def L30_27 : List AStep := ⟨.eqb true (.t 33) (.t 35), (some 36), none, []⟩ :: ⟨.mov (.t 36), (some 37), none, []⟩ :: L30_26
theorem v30_27 : VS L30_27.eq_1 := rfl
def L30_28 : List AStep := ⟨.faddr 0 (.t 7), (some 34), none, []⟩ :: ⟨.load 1 false (.t 34), (some 35), none, []⟩ :: L30_27
theorem v30_28 : VS L30_28.eq_1 := rfl
def L30_29 : List AStep := ⟨.faddr 0 (.t 6), (some 32), none, []⟩ :: ⟨.load 1 false (.t 32), (some 33), none, []⟩ :: L30_28
theorem v30_29 : VS L30_29.eq_1 := rfl
def L30_30 : List AStep := [⟨.mov (.c (.bool false)), (some 4), none, []⟩]
theorem v30_30 : VS L30_30.eq_1 := rfl
def L30_31 : List AStep := [⟨.mov (.t 21), (some 5), none, []⟩]
theorem v30_31 : VS L30_31.eq_1 := rfl
def L30_32 : List AStep := ⟨.mov (.t 5), (some 20), none, []⟩ :: ⟨.bin .add (.t 20) (.c (.int .i64 1)), (some 21), none, []⟩ :: L30_31
theorem v30_32 : VS L30_32.eq_1 := rfl
def L30_33 : List AStep := [⟨.mov (.c (.bool true)), (some 4), none, []⟩]
theorem v30_33 : VS L30_33.eq_1 := rfl
def C30_0 : ACode := .seq (.reg L30_6) .ret
theorem u30_0 : VC C30_0.eq_1 := rfl
def C30_1 : ACode := .cond (.t 14) C30_0 .skip
theorem u30_1 : VC C30_1.eq_1 := rfl
def C30_2 : ACode := .seq (.reg L30_5) C30_1
theorem u30_2 : VC C30_2.eq_1 := rfl
def C30_3 : ACode := .cond (.t 19) .skip (.exit 0)
theorem u30_3 : VC C30_3.eq_1 := rfl
def C30_4 : ACode := .seq (.reg L30_10) C30_3
theorem u30_4 : VC C30_4.eq_1 := rfl
def C30_5 : ACode := .seq (.reg L30_30) .ret
theorem u30_5 : VC C30_5.eq_1 := rfl
def C30_6 : ACode := .cond (.t 52) C30_5 .skip
theorem u30_6 : VC C30_6.eq_1 := rfl
def C30_7 : ACode := .seq (.reg L30_29) C30_6
theorem u30_7 : VC C30_7.eq_1 := rfl
def C30_8 : ACode := .seq (.reg L30_18) C30_7
theorem u30_8 : VC C30_8.eq_1 := rfl
def C30_9 : ACode := .seq (.reg L30_14) C30_8
theorem u30_9 : VC C30_9.eq_1 := rfl
def C30_10 : ACode := .block 1 C30_9
theorem u30_10 : VC C30_10.eq_1 := rfl
def C30_11 : ACode := .seq C30_10 (.reg L30_32)
theorem u30_11 : VC C30_11.eq_1 := rfl
def C30_12 : ACode := .seq C30_4 C30_11
theorem u30_12 : VC C30_12.eq_1 := rfl
def C30_13 : ACode := .block 0 (.loop C30_12)
theorem u30_13 : VC C30_13.eq_1 := rfl
def C30_14 : ACode := .seq (.reg L30_7) C30_13
theorem u30_14 : VC C30_14.eq_1 := rfl
def C30_15 : ACode := .seq (.reg L30_33) .ret
theorem u30_15 : VC C30_15.eq_1 := rfl
def C30_16 : ACode := .seq C30_14 C30_15
theorem u30_16 : VC C30_16.eq_1 := rfl
def C30_17 : ACode := .seq C30_2 C30_16
theorem u30_17 : VC C30_17.eq_1 := rfl
def C30_18 : ACode := .seq (.reg L30_1) C30_17
theorem u30_18 : VC C30_18.eq_1 := rfl
def F30 : AFunc := ⟨53, [.tmp 4], C30_18⟩
theorem cF30 : compB Try.prog 30 = some F30 := by kernel_rfl
attribute [local go_sem ↓] u30_0 u30_1 u30_2 u30_3 u30_4 u30_5 u30_6 u30_7 u30_8 u30_9 u30_10 u30_11 u30_12 u30_13 u30_14 u30_15 u30_16 u30_17 u30_18 v30_0 v30_1 v30_2 v30_3 v30_4 v30_5 v30_6 v30_7 v30_8 v30_9 v30_10 v30_11 v30_12 v30_13 v30_14 v30_15 v30_16 v30_17 v30_18 v30_19 v30_20 v30_21 v30_22 v30_23 v30_24 v30_25 v30_26 v30_27 v30_28 v30_29 v30_30 v30_31 v30_32 v30_33
theorem c_equalBinding (l : List Slot) (v w : CV) (h : H) (hl : SlY h v l) (hm : SlY h w l) (hn : miniY l) : bm Try.prog 30 [.agg [v], .agg [w]] h = some (ib true, h) := by
  refine bm_eq cF30 ?_
  obtain ⟨rs, x⟩ := hl.ex
  obtain ⟨qs, y⟩ := hm.ex
  have len1 := x.out.len
  have len2 := y.out.len
  rw [x.len] at len1
  rw [y.len] at len2
  simp +contextual (maxSteps := 2000000) only [go_sem, Nat.reduceEqDiff, reduceCtorEq, Nat.reduceAdd, Nat.reduceLeDiff, F30, len1, len2, decide_true]
  refine wpC_loop (fun i T L h' => h' = h ∧ T 2 = .lp 2 0 ∧ (L 2).2 = [v] ∧ T 3 = .lp 3 0 ∧ (L 3).2 = [w] ∧ T 5 = .v (.one (.int .i64 i))) l.length ?_ ?_ (Nat.zero_le _) ?_
  · rintro i T L h' hi ⟨rfl, t2, l2, t3, l3, t5⟩
    have hi1 : i < rs.length := by rw [x.len]; exact hi
    have hi2 : i < qs.length := by rw [y.len]; exact hi
    have hx := x.el i hi1
    have hy := y.el i hi2
    rw [getY_eq hi] at hx hy
    have e1 := c_equalInts _ _ _ _ h' hx.list hy.list (Nat.le_trans (hn.list _ (List.getElem_mem hi)) (by decide))
    have e2 := c_equalPairs _ _ _ _ h' hx.pairs hy.pairs (Nat.le_trans (hn.pairs _ (List.getElem_mem hi)) (by decide))
    rw [decide_eq_true rfl] at e1 e2
    simp +contextual (maxSteps := 2000000) only [go_sem, Nat.reduceEqDiff, reduceCtorEq, Nat.reduceAdd, Nat.reduceLeDiff, t2, l2, t3, l3, t5, len1, len2, x.out.iaddr hi1, y.out.iaddr hi2, x.out.whole hi1, y.out.whole hi2, encY, e1, e2, hx.given, hy.given, lt_true hi]
    rw [wrap_next hi (Nat.lt_of_le_of_lt hn.len (by decide))]
  · rintro T L h' ⟨rfl, t2, l2, t3, l3, t5⟩
    simp +contextual (maxSteps := 2000000) only [go_sem, Nat.reduceEqDiff, reduceCtorEq, Nat.reduceAdd, Nat.reduceLeDiff, t2, l2, t3, l3, t5, len1, lt_false]
  · simp +contextual (maxSteps := 2000000) only [go_sem, Nat.reduceEqDiff, reduceCtorEq, Nat.reduceAdd, Nat.reduceLeDiff]
    rfl
end Go.Proofs.Ytekkimfdcbgcoab.Am
