/- The law FnValidTable. -/
import Derived.Test.YtoeceafibmafpaaDoorTD
namespace Go.Proofs.YtoeceafibmafpaaDoor.Am
open Go
attribute [local go_sem] loadL_agg
set_option maxRecDepth 100000
set_option maxHeartbeats 4000000
set_option linter.unusedSimpArgs false
set_option linter.unusedVariables false
attribute [local go_sem ↓] bv_t bv_c ev_t ev_c put_same put_ne put_none kill_at pro_at lb_same lb_ne start_zero start_succ wpC_seq wpC_reg wpC_cond wpC_block wpC_skip wpC_exit wpC_ret thenQ_normal thenQ_exit thenQ_ret inBlk_normal inBlk_exit inBlk_ret wpS_nil wpS_step wpS_again wpS_guard wpO_mov wpO_load wpO_faddr wpO_nilCheck wpO_pick wpO_build wpO_bin wpO_eqb wpO_eqst wpO_eqnil wpO_not wpO_conv wpO_bytesStr wpO_iaddr wpO_idxStr wpO_field wpO_extract wpO_len wpO_lenStr wpO_cap wpO_min wpO_slice wpO_sliceStr wpO_alloc wpO_box wpO_store wpO_call wpO_callv wpO_mkfn wpO_buildSlice wpO_mkslice wpO_append wpO_appz proA_nil proA_cons tmpX_nil tmpX_tmp tmpX_cell doneB_normal doneB_ret agK_cons agK_nil agK_guard agG_tt agG_ff agG_tf agG_ft agG_undef pureB_load results_one results_two results_nil resBs_cons resBs_nil resB_tmp resB_cell
attribute [local go_sem] kill_v kill_lp_ne kill_lp_same pro_v pro_lp_same pro_lp_ne av_v av_lp optB_some optX_some valX_eq ldX_lp ldX_v faX_lp faX_v ncX_lp ncX_ptr ncX_fn boxK_one boxK_agg stL_some stK_lp_one stK_lp_agg stK_v_one stK_v_agg proM_v proM_lp callG_mk callVG_mk callvK_fn fnG_mk ptrsA_nil ptrsA_cons callH_some whenA_true whenA_false guardH_tt guardH_ff guardH_tf guardH_ft guardH_undef agV_one agV_agg lenO_sl lenStrO_str notO_bool pickO_bool convO_int eqbO_bool eqnilO_sl extractO_tup capO_sl minO_int loadL_one loadL_all storeL_eq fillA_nil fillA_one fillA_agg nat_ge neg_ge nat_lt neg_lt buildO bin_add bin_sub bin_mul bin_eql bin_neq bin_lss bin_leq bin_gtr bin_geq str_eql str_neq str_lss str_leq str_gtr str_geq retK_some endK_mk gcK_same gcK_int gcK_bool tupO_one tupO_agg rdy_self ib ii Option.map_none Option.map_some Option.some.injEq exists_eq_left' exists_eq_left ne_eq not_false_eq_true if_true if_false List.map_cons List.map_nil List.getElem?_cons_zero List.getElem?_cons_succ List.length_cons List.length_nil List.take_succ_cons List.take_zero List.take_nil List.drop_succ_cons List.drop_zero List.drop_nil List.cons_append List.nil_append List.append_nil List.set_cons_zero List.set_cons_succ Nat.zero_add forall_const true_and and_true and_self Bool.false_eq_true false_implies true_implies implies_true Bool.not_true Bool.not_false Bool.not_eq_true' Bool.not_eq_false' beq_self_eq_true Bool.bne_true Bool.bne_false
attribute [local go_sem] lenI lenS lenP lenQ lenB lenL lenT encI_0 encS_0 encP_0 encP_1 encQ_0 encQ_1 encQ_2 encQ_3 encB_0 encB_1 encL_0 encL_1 encT_0 encT_1
attribute [local go_sem low] whenA_bool guardH_bool
attribute [local go_sem] lenW encW_0 encW_1
theorem RdW.takeAny {ty t0 : Nat} {h : H} {v : CV} {rs : List RFunc} {l : List Func} (y : RdW ty t0 h v rs l.length (getW l)) (n : Int) (i : Nat) (hi : i ≤ l.length) (e : n = (i : Int)) : ∃ c, cutO ty 2 h (.one v) none (some (.one (.int .i64 n))) none = some (.one c) ∧ RdW ty t0 h c (rs.take i) (l.take i).length (getW (l.take i)) := by
  subst e
  exact y.takeO hi (kd := .i64)
theorem okTab_take {l : List Func} (h : okTab l = true) (i : Nat) : okTab (l.take i) = true := by
  have h1 : ∀ j (hj : j < l.length), stepW l j = true := fun j hj => by
    unfold okTab at h
    rw [Bool.and_eq_true, List.all_eq_true] at h
    exact h.1 j (List.mem_range.2 hj)
  have h2 : l.length ≤ 5 := by
    unfold okTab at h
    simp only [Bool.and_eq_true, decide_eq_true_iff] at h
    omega
  unfold okTab
  rw [Bool.and_eq_true, List.all_eq_true, decide_eq_true_iff]
  refine ⟨fun j hj => ?_, by rw [List.length_take]; omega⟩
  have hj := List.mem_range.1 hj
  have hjl : j < l.length := by rw [List.length_take] at hj; omega
  have hji : j < i := by rw [List.length_take] at hj; omega
  have h3 := h1 j hjl
  rw [stepW_eq hjl] at h3
  rw [stepW_eq hj]
  have e1 : (l.take i)[j] = l[j] := by simp
  have e2 : newAt Func.name (l.take i) j = newAt Func.name l j := by
    unfold newAt
    rw [List.getElem?_eq_getElem hj, List.getElem?_eq_getElem hjl, e1]
    simp only
    rw [List.take_take, Nat.min_eq_left (by omega)]
  rw [e1, e2]
  exact h3
theorem okTab_last {l : List Func} (h : okTab l = true) {i : Nat} (hi : i < l.length) : okFu l[i] = true := by
  unfold okTab at h
  rw [Bool.and_eq_true, List.all_eq_true] at h
  have := h.1 i (List.mem_range.2 hi)
  rw [stepW_eq hi, Bool.and_eq_true] at this
  exact this.1
theorem miniW.take {l : List Func} (t : tinyW l) (i : Nat) : miniW (l.take i) :=
  tinyW.mini ⟨by have := t.len; rw [List.length_take]; omega, fun a ha => t.el a (List.mem_of_mem_take ha), fun a ha => t.nm a (List.mem_of_mem_take ha)⟩
/-! laws.FnValidTable -/
def L5_0 : List AStep := [⟨.mov (.c (.bool false)), (some 2), none, []⟩]
theorem v5_0 : VS L5_0.eq_1 := rfl
def L5_1 : List AStep := [⟨.bin .gtr (.t 7) (.c (.int .i64 1048576)), (some 8), none, []⟩]
theorem v5_1 : VS L5_1.eq_1 := rfl
def L5_2 : List AStep := ⟨.mov (.t 0), (some 6), none, []⟩ :: ⟨.len (.t 6), (some 7), none, []⟩ :: L5_1
theorem v5_2 : VS L5_2.eq_1 := rfl
def L5_3 : List AStep := [⟨.mov (.c (.bool true)), (some 2), none, []⟩]
theorem v5_3 : VS L5_3.eq_1 := rfl
def L5_4 : List AStep := [⟨.mov (.t 10), (some 3), none, []⟩]
theorem v5_4 : VS L5_4.eq_1 := rfl
def L5_5 : List AStep := ⟨.mov (.t 0), (some 9), none, []⟩ :: ⟨.call 19 [(.t 9)], (some 10), none, []⟩ :: L5_4
theorem v5_5 : VS L5_5.eq_1 := rfl
def L5_6 : List AStep := [⟨.mov (.t 12), (some 4), none, []⟩]
theorem v5_6 : VS L5_6.eq_1 := rfl
def L5_7 : List AStep := ⟨.mov (.t 3), (some 11), none, []⟩ :: ⟨.call 20 [(.t 11)], (some 12), none, []⟩ :: L5_6
theorem v5_7 : VS L5_7.eq_1 := rfl
def L5_8 : List AStep := [⟨.not (.t 18), (some 19), (some (17, false)), []⟩, ⟨.pick (.t 17) (.c (.bool true)) (.t 19), (some 20), none, []⟩]
theorem v5_8 : VS L5_8.eq_1 := rfl
def L5_9 : List AStep := ⟨.mov (.t 16), (some 17), none, []⟩ :: ⟨.mov (.t 4), (some 18), (some (17, false)), []⟩ :: L5_8
theorem v5_9 : VS L5_9.eq_1 := rfl
def L5_10 : List AStep := ⟨.call 21 [(.t 14)], (some 15), none, []⟩ :: ⟨.eqb true (.t 13) (.t 15), (some 16), none, []⟩ :: L5_9
theorem v5_10 : VS L5_10.eq_1 := rfl
def L5_11 : List AStep := ⟨.mov (.t 4), (some 13), none, []⟩ :: ⟨.mov (.t 3), (some 14), none, []⟩ :: L5_10
theorem v5_11 : VS L5_11.eq_1 := rfl
def L5_12 : List AStep := [⟨.mov (.t 24), (some 2), none, []⟩]
theorem v5_12 : VS L5_12.eq_1 := rfl
def L5_13 : List AStep := ⟨.call 21 [(.t 22)], (some 23), none, []⟩ :: ⟨.eqb false (.t 21) (.t 23), (some 24), none, []⟩ :: L5_12
theorem v5_13 : VS L5_13.eq_1 := rfl
def L5_14 : List AStep := ⟨.mov (.t 4), (some 21), none, []⟩ :: ⟨.mov (.t 3), (some 22), none, []⟩ :: L5_13
theorem v5_14 : VS L5_14.eq_1 := rfl
def L5_15 : List AStep := [⟨.mov (.t 26), (some 5), none, []⟩]
theorem v5_15 : VS L5_15.eq_1 := rfl
def L5_16 : List AStep := ⟨.mov (.t 3), (some 25), none, []⟩ :: ⟨.len (.t 25), (some 26), none, []⟩ :: L5_15
theorem v5_16 : VS L5_16.eq_1 := rfl
def L5_17 : List AStep := [⟨.mov (.t 44), (some 2), none, []⟩]
theorem v5_17 : VS L5_17.eq_1 := rfl
def L5_18 : List AStep := ⟨.pick (.t 35) (.t 42) (.c (.bool false)), (some 43), (some (29, false)), []⟩ :: ⟨.pick (.t 29) (.c (.bool true)) (.t 43), (some 44), none, []⟩ :: L5_17
theorem v5_18 : VS L5_18.eq_1 := rfl
def L5_19 : List AStep := ⟨.call 22 [(.t 40)], (some 41), (some (35, true)), []⟩ :: ⟨.bin .neq (.t 41) (.c (.str (strOfNums []))), (some 42), (some (35, true)), []⟩ :: L5_18
theorem v5_19 : VS L5_19.eq_1 := rfl
def L5_20 : List AStep := ⟨.iaddr 2 (.t 36) (.t 38), (some 39), (some (35, true)), []⟩ :: ⟨.load 2 true (.t 39), (some 40), (some (35, true)), []⟩ :: L5_19
theorem v5_20 : VS L5_20.eq_1 := rfl
def L5_21 : List AStep := ⟨.mov (.t 5), (some 37), (some (35, true)), []⟩ :: ⟨.bin .sub (.t 37) (.c (.int .i64 1)), (some 38), (some (35, true)), []⟩ :: L5_20
theorem v5_21 : VS L5_21.eq_1 := rfl
def L5_22 : List AStep := ⟨.mov (.t 34), (some 35), (some (29, false)), []⟩ :: ⟨.mov (.t 3), (some 36), (some (35, true)), []⟩ :: L5_21
theorem v5_22 : VS L5_22.eq_1 := rfl
def L5_23 : List AStep := ⟨.slice 48 2 (.t 30) none (some (.t 32)) none, (some 33), (some (29, false)), []⟩ :: ⟨.call 20 [(.t 33)], (some 34), (some (29, false)), []⟩ :: L5_22
theorem v5_23 : VS L5_23.eq_1 := rfl
def L5_24 : List AStep := ⟨.mov (.t 5), (some 31), (some (29, false)), []⟩ :: ⟨.bin .sub (.t 31) (.c (.int .i64 1)), (some 32), (some (29, false)), []⟩ :: L5_23
theorem v5_24 : VS L5_24.eq_1 := rfl
def L5_25 : List AStep := ⟨.mov (.t 28), (some 29), none, []⟩ :: ⟨.mov (.t 3), (some 30), (some (29, false)), []⟩ :: L5_24
theorem v5_25 : VS L5_25.eq_1 := rfl
def L5_26 : List AStep := ⟨.mov (.t 5), (some 27), none, []⟩ :: ⟨.bin .eql (.t 27) (.c (.int .i64 0)), (some 28), none, []⟩ :: L5_25
theorem v5_26 : VS L5_26.eq_1 := rfl
def C5_0 : ACode := .seq (.reg L5_3) .ret
theorem u5_0 : VC C5_0.eq_1 := rfl
def C5_1 : ACode := .cond (.t 8) C5_0 .skip
theorem u5_1 : VC C5_1.eq_1 := rfl
def C5_2 : ACode := .seq (.reg L5_2) C5_1
theorem u5_2 : VC C5_2.eq_1 := rfl
def C5_3 : ACode := .seq (.reg L5_14) .ret
theorem u5_3 : VC C5_3.eq_1 := rfl
def C5_4 : ACode := .cond (.t 20) C5_3 .skip
theorem u5_4 : VC C5_4.eq_1 := rfl
def C5_5 : ACode := .seq (.reg L5_11) C5_4
theorem u5_5 : VC C5_5.eq_1 := rfl
def C5_6 : ACode := .seq (.reg L5_26) .ret
theorem u5_6 : VC C5_6.eq_1 := rfl
def C5_7 : ACode := .seq (.reg L5_16) C5_6
theorem u5_7 : VC C5_7.eq_1 := rfl
def C5_8 : ACode := .seq C5_5 C5_7
theorem u5_8 : VC C5_8.eq_1 := rfl
def C5_9 : ACode := .seq (.reg L5_7) C5_8
theorem u5_9 : VC C5_9.eq_1 := rfl
def C5_10 : ACode := .seq (.reg L5_5) C5_9
theorem u5_10 : VC C5_10.eq_1 := rfl
def C5_11 : ACode := .seq C5_2 C5_10
theorem u5_11 : VC C5_11.eq_1 := rfl
def C5_12 : ACode := .seq (.reg L5_0) C5_11
theorem u5_12 : VC C5_12.eq_1 := rfl
def F5 : AFunc := ⟨45, [.tmp 2], C5_12⟩
theorem cF5 : compB Tryd.prog 5 = some F5 := by kernel_rfl
attribute [local go_sem ↓] u5_0 u5_1 u5_2 u5_3 u5_4 u5_5 u5_6 u5_7 u5_8 u5_9 u5_10 u5_11 u5_12 v5_0 v5_1 v5_2 v5_3 v5_4 v5_5 v5_6 v5_7 v5_8 v5_9 v5_10 v5_11 v5_12 v5_13 v5_14 v5_15 v5_16 v5_17 v5_18 v5_19 v5_20 v5_21 v5_22 v5_23 v5_24 v5_25 v5_26
theorem law5 (h : H) (avs : List AV) (hok : okVs Tryd.prog h 6 [ 42 ] avs) : callK (bm Tryd.prog 5 avs h) fun r _ => r = ib true := by
  obtain ⟨v0, avs, rfl, hv0, hok⟩ := okVs_cons hok
  obtain rfl := okVs_nil hok
  obtain ⟨p0, code, rfl, d0, hc, hf⟩ := dBytes (m := 4) hv0
  refine bm_of cF5 ?_
  by_cases y0 : (code.length : Int) > 1048576
  · simp +contextual (maxSteps := 2000000) only [go_sem, Nat.reduceEqDiff, reduceCtorEq, Nat.reduceAdd, Nat.reduceLeDiff, F5, d0.len, decide_eq_true y0]
  simp +contextual (maxSteps := 2000000) only [go_sem, Nat.reduceEqDiff, reduceCtorEq, Nat.reduceAdd, Nat.reduceLeDiff, F5, d0.len, decide_eq_false y0]
  refine wp_call (c_drawValidTable code p0 h d0 hc) ?_
  rintro q h1 ⟨g1, w, l, rfl, sw, tl⟩
  have m0 := tl.mini
  have hl6 := tl.len
  simp +contextual (maxSteps := 2000000) only [go_sem, Nat.reduceEqDiff, reduceCtorEq, Nat.reduceAdd, Nat.reduceLeDiff]
  refine wp_call (k_iValidTable l w h1 sw m0) ?_
  rintro q h2 ⟨g2, rfl⟩
  have s2 := sw.grow g2
  obtain ⟨rs, y⟩ := s2.ex
  have wlen : lenO (.one w) = some (ii l.length) := by rw [y.out.len, y.len]
  have e1 := k_sValidTable l w h2 s2 m0
  cases ok : okTab l with
  | false =>
    rw [ok] at e1
    simp +contextual (maxSteps := 2000000) only [go_sem, Nat.reduceEqDiff, reduceCtorEq, Nat.reduceAdd, Nat.reduceLeDiff, e1, beq_self_eq_true]
    try exact gcK_of rfl (fun _ _ => rfl)
  | true =>
  rw [ok] at e1
  by_cases n0 : l.length = 0
  · simp +contextual (maxSteps := 2000000) only [go_sem, Nat.reduceEqDiff, reduceCtorEq, Nat.reduceAdd, Nat.reduceLeDiff, e1, beq_self_eq_true, wlen, n0, show decide (((0 : Nat) : Int) = 0) = true from rfl]
    try exact gcK_of rfl (fun _ _ => rfl)
  obtain ⟨n, hn⟩ : ∃ n, l.length = n + 1 := ⟨l.length - 1, by omega⟩
  have nz : decide (((n + 1 : Nat) : Int) = 0) = false := decide_eq_false (by omega)
  have ep : IntKind.i64.wrap (((n + 1 : Nat) : Int) - 1) = (n : Int) := wrap_pred (by omega)
  obtain ⟨c, ec, yt⟩ := y.takeAny (n : Int) n (by omega) rfl
  have et := k_iValidTable (l.take n) c h2 ⟨_, yt⟩ (miniW.take tl n)
  rw [okTab_take ok n] at et
  simp +contextual (maxSteps := 2000000) only [go_sem, Nat.reduceEqDiff, reduceCtorEq, Nat.reduceAdd, Nat.reduceLeDiff, e1, beq_self_eq_true, wlen, hn, nz, ep, ec]
  refine wp_call et ?_
  rintro q h3 ⟨g3, rfl⟩
  have y3 := y.grow g3
  have hr : n < rs.length := by rw [y.len]; omega
  have hln : n < l.length := by omega
  have ye := y3.el n hr
  rw [getW_eq hln] at ye
  have ft := k_iFuncText rs[n] l[n] h3 ye (m0.at hln)
  have eno := funTx_none l[n]
  rw [okTab_last ok hln, Bool.not_true] at eno
  simp +contextual (maxSteps := 2000000) only [go_sem, Nat.reduceEqDiff, reduceCtorEq, Nat.reduceAdd, Nat.reduceLeDiff, hn, ep, y3.out.iaddr hr, y3.out.whole hr]
  refine wp_call ft ?_
  rintro q h4 ⟨g4, rfl⟩
  simp +contextual (maxSteps := 2000000) only [go_sem, Nat.reduceEqDiff, reduceCtorEq, Nat.reduceAdd, Nat.reduceLeDiff, eno]
  try exact gcK_of rfl (fun _ _ => rfl)
end Go.Proofs.YtoeceafibmafpaaDoor.Am
