/- Contracts: overloads, of both sides. -/
import Derived.Test.YtekkimfdcbgcoacBK
import Derived.Test.YtekkimfdcbgcoacPD
import Derived.Test.YtekkimfdcbgcoacK2
import Derived.Test.YtekkimfdcbgcoacK3
namespace Go.Proofs.Ytekkimfdcbgcoac.Am
open Go
set_option maxRecDepth 100000
set_option maxHeartbeats 4000000
set_option linter.unusedSimpArgs false
set_option linter.unusedVariables false
attribute [local go_sem ↓] bv_t bv_c ev_t ev_c put_same put_ne put_none kill_at pro_at lb_same lb_ne start_zero start_succ wpC_seq wpC_reg wpC_cond wpC_block wpC_skip wpC_exit wpC_ret thenQ_normal thenQ_exit thenQ_ret inBlk_normal inBlk_exit inBlk_ret wpS_nil wpS_step wpS_again wpS_guard wpO_mov wpO_load wpO_faddr wpO_nilCheck wpO_pick wpO_build wpO_bin wpO_eqb wpO_eqst wpO_eqnil wpO_not wpO_conv wpO_bytesStr wpO_iaddr wpO_idxStr wpO_field wpO_extract wpO_len wpO_lenStr wpO_cap wpO_min wpO_slice wpO_sliceStr wpO_alloc wpO_box wpO_store wpO_call wpO_callv wpO_mkfn wpO_buildSlice wpO_mkslice wpO_append wpO_appz proA_nil proA_cons tmpX_nil tmpX_tmp tmpX_cell doneB_normal doneB_ret agK_cons agK_nil agK_guard agG_tt agG_ff agG_tf agG_ft agG_undef pureB_load results_one results_two results_nil resBs_cons resBs_nil resB_tmp resB_cell
attribute [local go_sem] kill_v kill_lp_ne kill_lp_same pro_v pro_lp_same pro_lp_ne av_v av_lp optB_some optX_some valX_eq ldX_lp ldX_v faX_lp faX_v ncX_lp ncX_ptr ncX_fn boxK_one boxK_agg stL_some stK_lp_one stK_lp_agg stK_v_one stK_v_agg proM_v proM_lp callG_mk callVG_mk callvK_fn fnG_mk ptrsA_nil ptrsA_cons callH_some whenA_true whenA_false guardH_tt guardH_ff guardH_tf guardH_ft guardH_undef agV_one agV_agg lenO_sl lenStrO_str notO_bool pickO_bool convO_int eqbO_bool eqnilO_sl extractO_tup capO_sl minO_int loadL_one loadL_all storeL_eq fillA_nil fillA_one fillA_agg nat_ge neg_ge nat_lt neg_lt buildO bin_add bin_sub bin_mul bin_eql bin_neq bin_lss bin_leq bin_gtr bin_geq str_eql str_neq str_lss str_leq str_gtr str_geq retK_some endK_mk gcK_same gcK_int gcK_bool tupO_one tupO_agg rdy_self ib ii Option.map_none Option.map_some Option.some.injEq exists_eq_left' exists_eq_left ne_eq not_false_eq_true if_true if_false List.map_cons List.map_nil List.getElem?_cons_zero List.getElem?_cons_succ List.length_cons List.length_nil List.take_succ_cons List.take_zero List.take_nil List.drop_succ_cons List.drop_zero List.drop_nil List.cons_append List.nil_append List.append_nil List.set_cons_zero List.set_cons_succ Nat.zero_add forall_const true_and and_true and_self Bool.false_eq_true false_implies true_implies implies_true Bool.not_true Bool.not_false Bool.not_eq_true' Bool.not_eq_false' beq_self_eq_true Bool.bne_true Bool.bne_false
attribute [local go_sem] lenI lenS lenP lenQ lenB lenL lenT encI_0 encS_0 encP_0 encP_1 encQ_0 encQ_1 encQ_2 encQ_3 encB_0 encB_1 encL_0 encL_1 encT_0 encT_1
attribute [local go_sem low] whenA_bool guardH_bool
attribute [local go_sem] lenV encV_0
def overl (l : List Sg) : Bool := (l.all fun s => okSig s.params) && decide ((l.length : Int) ≤ 5)
def accAt (l : List Sg) (f : Flat) (j : Nat) : Bool := acceptsF (getV l j).params f
def allT (l : List Sg) (f : Flat) (i : Nat) : List Int := pickF (accAt l f) (fun j => (j : Int)) i
def allF (l : List Sg) (f : Flat) : List Int := if (overl l && okFlat f) = true then allT l f l.length else []
def firstF (l : List Sg) (f : Flat) : Int := if (overl l && okFlat f) = true then (allT l f l.length).headD (-1) else -2
theorem overl_at {l : List Sg} (h : overl l = true) : l.length ≤ 5 ∧ ∀ i (hi : i < l.length), okSig l[i].params = true := by
  unfold overl at h
  simp only [Bool.and_eq_true, decide_eq_true_iff, List.all_eq_true] at h
  exact ⟨by omega, fun i hi => h.1 _ (List.getElem_mem hi)⟩
theorem accAt_eq {l : List Sg} {f : Flat} {i : Nat} (hi : i < l.length) : accAt l f i = acceptsF l[i].params f := by unfold accAt; rw [getV_eq hi]
theorem acc_wrong {l : List Param} {f : Flat} (h1 : okSig l = true) (h2 : okFlat f = true) : acceptsF l f = (wrong l f).isEmpty := by
  unfold acceptsF fits
  rw [h1, h2]
  rfl
theorem miniJ.all {l : List Sg} {f : Flat} : miniJ (allF l f) := by
  unfold allF
  split
  · rename_i h
    rw [Bool.and_eq_true] at h
    have := (overl_at h.1).1
    have h2 := pickF_len (t := accAt l f) (nm := fun j => (j : Int)) (i := l.length)
    exact ⟨by unfold allT; omega, trivial⟩
  · exact ⟨by simp, trivial⟩
theorem miniV.at {l : List Sg} (m : miniV l) {i : Nat} (hi : i < l.length) : miniG l[i].params := ⟨m.params _ (List.getElem_mem hi), m.nparams _ (List.getElem_mem hi)⟩
/-! spec.validSet -/
def L87_0 : List AStep := [⟨.mov (.c (.bool false)), (some 2), none, []⟩]
theorem v87_0 : VS L87_0.eq_1 := rfl
def L87_1 : List AStep := [⟨.mov (.c (.int .i64 0)), (some 3), none, []⟩]
theorem v87_1 : VS L87_1.eq_1 := rfl
def L87_2 : List AStep := [⟨.len (.t 5), (some 6), none, []⟩, ⟨.bin .lss (.t 4) (.t 6), (some 7), none, []⟩]
theorem v87_2 : VS L87_2.eq_1 := rfl
def L87_3 : List AStep := ⟨.mov (.t 3), (some 4), none, []⟩ :: ⟨.mov (.t 0), (some 5), none, []⟩ :: L87_2
theorem v87_3 : VS L87_3.eq_1 := rfl
def L87_4 : List AStep := [⟨.call 126 [(.t 13)], (some 14), none, []⟩, ⟨.not (.t 14), (some 15), none, []⟩]
theorem v87_4 : VS L87_4.eq_1 := rfl
def L87_5 : List AStep := ⟨.iaddr 1 (.t 10) (.t 11), (some 12), none, []⟩ :: ⟨.load 1 true (.t 12), (some 13), none, []⟩ :: L87_4
theorem v87_5 : VS L87_5.eq_1 := rfl
def L87_6 : List AStep := ⟨.mov (.t 0), (some 10), none, []⟩ :: ⟨.mov (.t 3), (some 11), none, []⟩ :: L87_5
theorem v87_6 : VS L87_6.eq_1 := rfl
def L87_7 : List AStep := [⟨.mov (.c (.bool false)), (some 2), none, []⟩]
theorem v87_7 : VS L87_7.eq_1 := rfl
def L87_8 : List AStep := [⟨.mov (.t 9), (some 3), none, []⟩]
theorem v87_8 : VS L87_8.eq_1 := rfl
def L87_9 : List AStep := ⟨.mov (.t 3), (some 8), none, []⟩ :: ⟨.bin .add (.t 8) (.c (.int .i64 1)), (some 9), none, []⟩ :: L87_8
theorem v87_9 : VS L87_9.eq_1 := rfl
def L87_10 : List AStep := [⟨.bin .leq (.t 17) (.c (.int .i64 5)), (some 18), none, []⟩, ⟨.mov (.t 18), (some 2), none, []⟩]
theorem v87_10 : VS L87_10.eq_1 := rfl
def L87_11 : List AStep := ⟨.mov (.t 0), (some 16), none, []⟩ :: ⟨.len (.t 16), (some 17), none, []⟩ :: L87_10
theorem v87_11 : VS L87_11.eq_1 := rfl
def C87_0 : ACode := .cond (.t 7) .skip (.exit 0)
theorem u87_0 : VC C87_0.eq_1 := rfl
def C87_1 : ACode := .seq (.reg L87_3) C87_0
theorem u87_1 : VC C87_1.eq_1 := rfl
def C87_2 : ACode := .seq (.reg L87_7) .ret
theorem u87_2 : VC C87_2.eq_1 := rfl
def C87_3 : ACode := .cond (.t 15) C87_2 .skip
theorem u87_3 : VC C87_3.eq_1 := rfl
def C87_4 : ACode := .seq (.reg L87_6) C87_3
theorem u87_4 : VC C87_4.eq_1 := rfl
def C87_5 : ACode := .block 1 C87_4
theorem u87_5 : VC C87_5.eq_1 := rfl
def C87_6 : ACode := .seq C87_5 (.reg L87_9)
theorem u87_6 : VC C87_6.eq_1 := rfl
def C87_7 : ACode := .seq C87_1 C87_6
theorem u87_7 : VC C87_7.eq_1 := rfl
def C87_8 : ACode := .block 0 (.loop C87_7)
theorem u87_8 : VC C87_8.eq_1 := rfl
def C87_9 : ACode := .seq (.reg L87_1) C87_8
theorem u87_9 : VC C87_9.eq_1 := rfl
def C87_10 : ACode := .seq (.reg L87_11) .ret
theorem u87_10 : VC C87_10.eq_1 := rfl
def C87_11 : ACode := .seq C87_9 C87_10
theorem u87_11 : VC C87_11.eq_1 := rfl
def C87_12 : ACode := .seq (.reg L87_0) C87_11
theorem u87_12 : VC C87_12.eq_1 := rfl
def F87 : AFunc := ⟨19, [.tmp 2], C87_12⟩
theorem cF87 : compB Try.prog 87 = some F87 := by kernel_rfl
attribute [local go_sem ↓] u87_0 u87_1 u87_2 u87_3 u87_4 u87_5 u87_6 u87_7 u87_8 u87_9 u87_10 u87_11 u87_12 v87_0 v87_1 v87_2 v87_3 v87_4 v87_5 v87_6 v87_7 v87_8 v87_9 v87_10 v87_11
theorem c_validSet (l : List Sg) (p : CV) (h : H) (hl : SlV h p l) (m : miniV l) : bm Try.prog 87 [.one p] h = some (ib (overl l), h) := by
  refine bm_eq cF87 ?_
  obtain ⟨rs, y⟩ := hl.ex
  have hn := m.len
  have yl : lenO (.one p) = some (ii l.length) := by rw [y.out.len, y.len]
  simp +contextual (maxSteps := 2000000) only [go_sem, Nat.reduceEqDiff, reduceCtorEq, Nat.reduceAdd, Nat.reduceLeDiff, F87]
  refine wpC_loop (fun i T L h' => h' = h ∧ T 0 = .v (.one p) ∧ T 3 = .v (.one (.int .i64 i)) ∧ Pre (fun s : Sg => okSig s.params) true l i) l.length ?_ ?_ (Nat.zero_le _) ?_
  · rintro i T L h' hi ⟨rfl, t0, t3, hp⟩
    have hr : i < rs.length := by rw [y.len]; exact hi
    have ye := y.el i hr
    rw [getV_eq hi] at ye
    have vs : bm Try.prog 126 [.agg (encV rs[i])] h' = _ := c_validSignature l[i].params rs[i].qv h' ye.params (m.at hi).sm
    cases b1 : okSig l[i].params with
    | false =>
      rw [b1] at vs
      have bad : overl l = false := by unfold overl; rw [all_stop (p := fun s : Sg => okSig s.params) hi b1]; rfl
      simp +contextual (maxSteps := 2000000) only [go_sem, Nat.reduceEqDiff, reduceCtorEq, Nat.reduceAdd, Nat.reduceLeDiff, t0, t3, yl, lt_true hi, y.out.iaddr hr, y.out.whole hr, vs, bad]
    | true =>
      rw [b1] at vs
      simp +contextual (maxSteps := 2000000) only [go_sem, Nat.reduceEqDiff, reduceCtorEq, Nat.reduceAdd, Nat.reduceLeDiff, t0, t3, yl, lt_true hi, y.out.iaddr hr, y.out.whole hr, vs]
      exact ⟨by rw [wrap_next hi (by omega)], hp.next hi b1⟩
  · rintro T L h' ⟨rfl, t0, t3, hp⟩
    simp +contextual (maxSteps := 2000000) only [go_sem, Nat.reduceEqDiff, reduceCtorEq, Nat.reduceAdd, Nat.reduceLeDiff, t0, t3, yl, lt_false, overl, hp.all, Bool.true_and]
  · simp +contextual (maxSteps := 2000000) only [go_sem, Nat.reduceEqDiff, reduceCtorEq, Nat.reduceAdd, Nat.reduceLeDiff]
    (repeat' (first | refine And.intro ?_ ?_ | intro _)) <;> first | rfl | exact Pre.zero
/-! spec.accepted -/
def L88_0 : List AStep := [⟨.box 29 (.t 1), (some 3), none, []⟩, ⟨.mov (.c (.sl none 0 (some 0))), (some 4), none, []⟩]
theorem v88_0 : VS L88_0.eq_1 := rfl
def L88_1 : List AStep := [⟨.buildSlice 3 0 [(.int .i64 0)] [], (some 7), none, []⟩, ⟨.mov (.t 7), (some 5), none, []⟩]
theorem v88_1 : VS L88_1.eq_1 := rfl
def L88_2 : List AStep := [⟨.mov (.c (.int .i64 0)), (some 6), none, []⟩]
theorem v88_2 : VS L88_2.eq_1 := rfl
def L88_3 : List AStep := [⟨.len (.t 9), (some 10), none, []⟩, ⟨.bin .lss (.t 8) (.t 10), (some 11), none, []⟩]
theorem v88_3 : VS L88_3.eq_1 := rfl
def L88_4 : List AStep := ⟨.mov (.t 6), (some 8), none, []⟩ :: ⟨.mov (.t 0), (some 9), none, []⟩ :: L88_3
theorem v88_4 : VS L88_4.eq_1 := rfl
def L88_5 : List AStep := [⟨.load 2 true (.t 3), (some 18), none, []⟩, ⟨.call 129 [(.t 17), (.t 18)], (some 19), none, []⟩]
theorem v88_5 : VS L88_5.eq_1 := rfl
def L88_6 : List AStep := ⟨.iaddr 1 (.t 14) (.t 15), (some 16), none, []⟩ :: ⟨.load 1 true (.t 16), (some 17), none, []⟩ :: L88_5
theorem v88_6 : VS L88_6.eq_1 := rfl
def L88_7 : List AStep := ⟨.mov (.t 0), (some 14), none, []⟩ :: ⟨.mov (.t 6), (some 15), none, []⟩ :: L88_6
theorem v88_7 : VS L88_7.eq_1 := rfl
def L88_8 : List AStep := [⟨.mov (.t 23), (some 5), none, []⟩]
theorem v88_8 : VS L88_8.eq_1 := rfl
def L88_9 : List AStep := ⟨.buildSlice 3 1 [(.int .i64 0)] [(0, 1, (.t 21))], (some 22), none, []⟩ :: ⟨.append 3 1 8 (.t 20) (.t 22), (some 23), none, []⟩ :: L88_8
theorem v88_9 : VS L88_9.eq_1 := rfl
def L88_10 : List AStep := ⟨.mov (.t 5), (some 20), none, []⟩ :: ⟨.mov (.t 6), (some 21), none, []⟩ :: L88_9
theorem v88_10 : VS L88_10.eq_1 := rfl
def L88_11 : List AStep := [⟨.mov (.t 13), (some 6), none, []⟩]
theorem v88_11 : VS L88_11.eq_1 := rfl
def L88_12 : List AStep := ⟨.mov (.t 6), (some 12), none, []⟩ :: ⟨.bin .add (.t 12) (.c (.int .i64 1)), (some 13), none, []⟩ :: L88_11
theorem v88_12 : VS L88_12.eq_1 := rfl
def L88_13 : List AStep := [⟨.mov (.t 5), (some 24), none, []⟩, ⟨.mov (.t 24), (some 4), none, []⟩]
theorem v88_13 : VS L88_13.eq_1 := rfl
def C88_0 : ACode := .cond (.t 11) .skip (.exit 0)
theorem u88_0 : VC C88_0.eq_1 := rfl
def C88_1 : ACode := .seq (.reg L88_4) C88_0
theorem u88_1 : VC C88_1.eq_1 := rfl
def C88_2 : ACode := .cond (.t 19) (.reg L88_10) .skip
theorem u88_2 : VC C88_2.eq_1 := rfl
def C88_3 : ACode := .seq (.reg L88_7) C88_2
theorem u88_3 : VC C88_3.eq_1 := rfl
def C88_4 : ACode := .block 1 C88_3
theorem u88_4 : VC C88_4.eq_1 := rfl
def C88_5 : ACode := .seq C88_4 (.reg L88_12)
theorem u88_5 : VC C88_5.eq_1 := rfl
def C88_6 : ACode := .seq C88_1 C88_5
theorem u88_6 : VC C88_6.eq_1 := rfl
def C88_7 : ACode := .block 0 (.loop C88_6)
theorem u88_7 : VC C88_7.eq_1 := rfl
def C88_8 : ACode := .seq (.reg L88_2) C88_7
theorem u88_8 : VC C88_8.eq_1 := rfl
def C88_9 : ACode := .seq (.reg L88_13) .ret
theorem u88_9 : VC C88_9.eq_1 := rfl
def C88_10 : ACode := .seq C88_8 C88_9
theorem u88_10 : VC C88_10.eq_1 := rfl
def C88_11 : ACode := .seq (.reg L88_1) C88_10
theorem u88_11 : VC C88_11.eq_1 := rfl
def C88_12 : ACode := .seq (.reg L88_0) C88_11
theorem u88_12 : VC C88_12.eq_1 := rfl
def F88 : AFunc := ⟨25, [.tmp 4], C88_12⟩
theorem cF88 : compB Try.prog 88 = some F88 := by kernel_rfl
attribute [local go_sem ↓] u88_0 u88_1 u88_2 u88_3 u88_4 u88_5 u88_6 u88_7 u88_8 u88_9 u88_10 u88_11 u88_12 v88_0 v88_1 v88_2 v88_3 v88_4 v88_5 v88_6 v88_7 v88_8 v88_9 v88_10 v88_11 v88_12 v88_13
theorem c_accepted (l : List Sg) (f : Flat) (v p n : CV) (h : H) (hl : SlV h v l) (hf : SlF h p n f) (ov : overl l = true) (ok2 : okFlat f = true) : callK (bm Try.prog 88 [.one v, .agg [p, n]] h) fun r h' => Grow h h' ∧ ∃ w, r = .one w ∧ NwI h h' (.one w) (allT l f l.length) := by
  refine bm_of cF88 ?_
  obtain ⟨rs, y0⟩ := hl.ex
  obtain ⟨hn, oks⟩ := overl_at ov
  have yl : lenO (.one v) = some (ii l.length) := by rw [y0.out.len, y0.len]
  simp +contextual (maxSteps := 2000000) only [go_sem, Nat.reduceEqDiff, reduceCtorEq, Nat.reduceAdd, Nat.reduceLeDiff, F88]
  refine wp_lit (enc := encI) (k := 1) (l := []) rfl rfl ?_
  intro h1 w g1 n1 _
  obtain ⟨w, rfl⟩ := n1.one
  simp +contextual (maxSteps := 2000000) only [go_sem, Nat.reduceEqDiff, reduceCtorEq, Nat.reduceAdd, Nat.reduceLeDiff]
  refine wpC_loop (fun i T L h' => Grow h h' ∧ T 0 = .v (.one v) ∧ T 3 = .lp 3 0 ∧ (L 3).2 = [p, n] ∧ (∃ w, T 5 = .v (.one w) ∧ NwI h h' (.one w) (allT l f i)) ∧ T 6 = .v (.one (.int .i64 i))) l.length ?_ ?_ (Nat.zero_le _) ?_
  · rintro i T L h' hi ⟨g, t0, t3, l3, ⟨w, t5, z⟩, t6⟩
    have y := y0.grow g
    have k := hf.grow g
    have hr : i < rs.length := by rw [y.len]; exact hi
    have ye := y.el i hr
    rw [getV_eq hi] at ye
    have ac : bm Try.prog 129 [.agg (encV rs[i]), .agg [p, n]] h' = _ := c_accepts l[i].params f rs[i].qv p n h' ye.params k (oks i hi) ok2
    have pn := pickF_next (t := accAt l f) (nm := fun j => (j : Int)) (i := i)
    have pl := pickF_len (t := accAt l f) (nm := fun j => (j : Int)) (i := i)
    rw [← acc_wrong (oks i hi) ok2, ← accAt_eq hi] at ac
    cases b1 : accAt l f i with
    | false =>
      rw [b1] at ac pn
      rw [if_neg (by simp), List.append_nil] at pn
      simp +contextual (maxSteps := 2000000) only [go_sem, Nat.reduceEqDiff, reduceCtorEq, Nat.reduceAdd, Nat.reduceLeDiff, t0, t3, l3, t5, t6, yl, lt_true hi, y.out.iaddr hr, y.out.whole hr, ac]
      exact ⟨g, ⟨w, rfl, by unfold allT; rw [pn]; exact z⟩, by rw [wrap_next hi (by omega)]⟩
    | true =>
      rw [b1] at ac pn
      rw [if_pos rfl] at pn
      simp +contextual (maxSteps := 2000000) only [go_sem, Nat.reduceEqDiff, reduceCtorEq, Nat.reduceAdd, Nat.reduceLeDiff, t0, t3, l3, t5, t6, yl, lt_true hi, y.out.iaddr hr, y.out.whole hr, ac]
      refine wp_lit (enc := encI) (k := 1) (l := [(i : Int)]) rfl rfl ?_
      intro h3 w3 g3 n3 _
      simp +contextual (maxSteps := 2000000) only [go_sem, Nat.reduceEqDiff, reduceCtorEq, Nat.reduceAdd, Nat.reduceLeDiff, t0, t3, l3, t5, t6]
      refine wp_append lenI (z.grow g3) (n3.sl lenI) (g.trans g3) (by unfold allT; simp; omega) ?_
      intro h4 s4 g4 n4 st4 hb4
      obtain ⟨c4, rfl⟩ := n4.one
      simp +contextual (maxSteps := 2000000) only [go_sem, Nat.reduceEqDiff, reduceCtorEq, Nat.reduceAdd, Nat.reduceLeDiff, t0, t3, l3, t5, t6]
      exact ⟨g4, ⟨c4, rfl, by unfold allT; rw [pn]; exact n4⟩, by rw [wrap_next hi (by omega)]⟩
  · rintro T L h' ⟨g, t0, t3, l3, ⟨w, t5, z⟩, t6⟩
    simp +contextual (maxSteps := 2000000) only [go_sem, Nat.reduceEqDiff, reduceCtorEq, Nat.reduceAdd, Nat.reduceLeDiff, t0, t3, l3, t5, t6, yl, lt_false]
    exact gcK_of ⟨g, _, rfl, z⟩ (fun hs _ => ⟨Grow.refl h, _, rfl, z.scalar hs h⟩)
  · simp +contextual (maxSteps := 2000000) only [go_sem, Nat.reduceEqDiff, reduceCtorEq, Nat.reduceAdd, Nat.reduceLeDiff]
    exact ⟨g1, ⟨_, rfl, n1⟩, rfl⟩
/-! spec.AllOf -/
def L42_0 : List AStep := [⟨.box 29 (.t 1), (some 3), none, []⟩, ⟨.mov (.c (.sl none 0 (some 0))), (some 4), none, []⟩]
theorem v42_0 : VS L42_0.eq_1 := rfl
def L42_1 : List AStep := [⟨.not (.t 10), (some 11), (some (8, false)), []⟩, ⟨.pick (.t 8) (.c (.bool true)) (.t 11), (some 12), none, []⟩]
theorem v42_1 : VS L42_1.eq_1 := rfl
def L42_2 : List AStep := ⟨.load 2 true (.t 3), (some 9), (some (8, false)), []⟩ :: ⟨.call 78 [(.t 9)], (some 10), (some (8, false)), []⟩ :: L42_1
theorem v42_2 : VS L42_2.eq_1 := rfl
def L42_3 : List AStep := ⟨.not (.t 6), (some 7), none, []⟩ :: ⟨.mov (.t 7), (some 8), none, []⟩ :: L42_2
theorem v42_3 : VS L42_3.eq_1 := rfl
def L42_4 : List AStep := ⟨.mov (.t 0), (some 5), none, []⟩ :: ⟨.call 87 [(.t 5)], (some 6), none, []⟩ :: L42_3
theorem v42_4 : VS L42_4.eq_1 := rfl
def L42_5 : List AStep := [⟨.mov (.c (.sl none 0 (some 0))), (some 4), none, []⟩]
theorem v42_5 : VS L42_5.eq_1 := rfl
def L42_6 : List AStep := [⟨.call 88 [(.t 13), (.t 14)], (some 15), none, []⟩, ⟨.mov (.t 15), (some 4), none, []⟩]
theorem v42_6 : VS L42_6.eq_1 := rfl
def L42_7 : List AStep := ⟨.mov (.t 0), (some 13), none, []⟩ :: ⟨.load 2 true (.t 3), (some 14), none, []⟩ :: L42_6
theorem v42_7 : VS L42_7.eq_1 := rfl
def C42_0 : ACode := .seq (.reg L42_5) .ret
theorem u42_0 : VC C42_0.eq_1 := rfl
def C42_1 : ACode := .cond (.t 12) C42_0 .skip
theorem u42_1 : VC C42_1.eq_1 := rfl
def C42_2 : ACode := .seq (.reg L42_4) C42_1
theorem u42_2 : VC C42_2.eq_1 := rfl
def C42_3 : ACode := .seq (.reg L42_7) .ret
theorem u42_3 : VC C42_3.eq_1 := rfl
def C42_4 : ACode := .seq C42_2 C42_3
theorem u42_4 : VC C42_4.eq_1 := rfl
def C42_5 : ACode := .seq (.reg L42_0) C42_4
theorem u42_5 : VC C42_5.eq_1 := rfl
def F42 : AFunc := ⟨16, [.tmp 4], C42_5⟩
theorem cF42 : compB Try.prog 42 = some F42 := by kernel_rfl
attribute [local go_sem ↓] u42_0 u42_1 u42_2 u42_3 u42_4 u42_5 v42_0 v42_1 v42_2 v42_3 v42_4 v42_5 v42_6 v42_7
theorem k_sAllOf (l : List Sg) (f : Flat) (v p n : CV) (h : H) (hl : SlV h v l) (hf : SlF h p n f) (m : miniV l) (hm : miniF f) : callK (bm Try.prog 42 [.one v, .agg [p, n]] h) fun r h' => Grow h h' ∧ ∃ w, r = .one w ∧ NwJ h h' w (allF l f) := by
  refine bm_of cF42 ?_
  have vs := c_validSet l v h hl m
  have vf := c_validFlat f p n h hf.pl hf.nl hm.sm
  unfold allF
  cases b1 : overl l with
  | false =>
    rw [b1] at vs
    simp +contextual (maxSteps := 2000000) only [go_sem, Nat.reduceEqDiff, reduceCtorEq, Nat.reduceAdd, Nat.reduceLeDiff, F42, vs, Bool.false_and, if_false]
    exact ⟨Grow.refl h, _, rfl, ⟨.nil⟩⟩
  | true =>
  rw [b1] at vs
  cases b2 : okFlat f with
  | false =>
    rw [b2] at vf
    simp +contextual (maxSteps := 2000000) only [go_sem, Nat.reduceEqDiff, reduceCtorEq, Nat.reduceAdd, Nat.reduceLeDiff, F42, vs, vf, Bool.true_and, if_false]
    exact ⟨Grow.refl h, _, rfl, ⟨.nil⟩⟩
  | true =>
    rw [b2] at vf
    simp +contextual (maxSteps := 2000000) only [go_sem, Nat.reduceEqDiff, reduceCtorEq, Nat.reduceAdd, Nat.reduceLeDiff, F42, vs, vf, Bool.true_and, if_true]
    refine wp_call (c_accepted l f v p n h hl hf b1 b2) ?_
    rintro r h1 ⟨g1, w, rfl, z⟩
    simp +contextual (maxSteps := 2000000) only [go_sem, Nat.reduceEqDiff, reduceCtorEq, Nat.reduceAdd, Nat.reduceLeDiff]
    exact gcK_of ⟨g1, _, rfl, ⟨z⟩⟩ (fun hs _ => ⟨Grow.refl h, _, rfl, ⟨z.scalar hs h⟩⟩)
/-! slices.IndexFunc(()impl.Signature,impl.Signature) -/
def L148_0 : List AStep := [⟨.mov (.c (.int .i64 0)), (some 4), none, []⟩]
theorem v148_0 : VS L148_0.eq_1 := rfl
def L148_1 : List AStep := [⟨.mov (.c (.int .i64 0)), (some 8), none, []⟩]
theorem v148_1 : VS L148_1.eq_1 := rfl
def L148_2 : List AStep := ⟨.mov (.t 0), (some 6), none, []⟩ :: ⟨.len (.t 6), (some 7), none, []⟩ :: L148_1
theorem v148_2 : VS L148_2.eq_1 := rfl
def L148_3 : List AStep := [⟨.bin .lss (.t 8) (.t 7), (some 9), none, []⟩]
theorem v148_3 : VS L148_3.eq_1 := rfl
def L148_4 : List AStep := [⟨.mov (.t 8), (some 10), none, []⟩, ⟨.mov (.t 10), (some 5), none, []⟩]
theorem v148_4 : VS L148_4.eq_1 := rfl
def L148_5 : List AStep := [⟨.load 1 true (.t 14), (some 15), none, []⟩, ⟨.callv (.t 11) [(.t 15)], (some 16), none, []⟩]
theorem v148_5 : VS L148_5.eq_1 := rfl
def L148_6 : List AStep := ⟨.mov (.t 5), (some 13), none, []⟩ :: ⟨.iaddr 1 (.t 12) (.t 13), (some 14), none, []⟩ :: L148_5
theorem v148_6 : VS L148_6.eq_1 := rfl
def L148_7 : List AStep := ⟨.mov (.t 1), (some 11), none, []⟩ :: ⟨.mov (.t 0), (some 12), none, []⟩ :: L148_6
theorem v148_7 : VS L148_7.eq_1 := rfl
def L148_8 : List AStep := [⟨.mov (.t 5), (some 17), none, []⟩, ⟨.mov (.t 17), (some 4), none, []⟩]
theorem v148_8 : VS L148_8.eq_1 := rfl
def L148_9 : List AStep := [⟨.bin .add (.t 8) (.c (.int .i64 1)), (some 18), none, []⟩, ⟨.mov (.t 18), (some 8), none, []⟩]
theorem v148_9 : VS L148_9.eq_1 := rfl
def L148_10 : List AStep := [⟨.mov (.c (.int .i64 (-1))), (some 4), none, []⟩]
theorem v148_10 : VS L148_10.eq_1 := rfl
def C148_0 : ACode := .cond (.t 9) .skip (.exit 0)
theorem u148_0 : VC C148_0.eq_1 := rfl
def C148_1 : ACode := .seq (.reg L148_8) .ret
theorem u148_1 : VC C148_1.eq_1 := rfl
def C148_2 : ACode := .cond (.t 16) C148_1 .skip
theorem u148_2 : VC C148_2.eq_1 := rfl
def C148_3 : ACode := .seq (.reg L148_7) C148_2
theorem u148_3 : VC C148_3.eq_1 := rfl
def C148_4 : ACode := .seq (.reg L148_4) C148_3
theorem u148_4 : VC C148_4.eq_1 := rfl
def C148_5 : ACode := .block 1 C148_4
theorem u148_5 : VC C148_5.eq_1 := rfl
def C148_6 : ACode := .seq C148_5 (.reg L148_9)
theorem u148_6 : VC C148_6.eq_1 := rfl
def C148_7 : ACode := .seq C148_0 C148_6
theorem u148_7 : VC C148_7.eq_1 := rfl
def C148_8 : ACode := .seq (.reg L148_3) C148_7
theorem u148_8 : VC C148_8.eq_1 := rfl
def C148_9 : ACode := .block 0 (.loop C148_8)
theorem u148_9 : VC C148_9.eq_1 := rfl
def C148_10 : ACode := .seq (.reg L148_2) C148_9
theorem u148_10 : VC C148_10.eq_1 := rfl
def C148_11 : ACode := .seq (.reg L148_10) .ret
theorem u148_11 : VC C148_11.eq_1 := rfl
def C148_12 : ACode := .seq C148_10 C148_11
theorem u148_12 : VC C148_12.eq_1 := rfl
def C148_13 : ACode := .seq (.reg L148_0) C148_12
theorem u148_13 : VC C148_13.eq_1 := rfl
def F148 : AFunc := ⟨19, [.tmp 4], C148_13⟩
theorem cF148 : compB Try.prog 148 = some F148 := by kernel_rfl
attribute [local go_sem ↓] u148_0 u148_1 u148_2 u148_3 u148_4 u148_5 u148_6 u148_7 u148_8 u148_9 u148_10 u148_11 u148_12 u148_13 v148_0 v148_1 v148_2 v148_3 v148_4 v148_5 v148_6 v148_7 v148_8 v148_9 v148_10
theorem c_indexV (l : List Sg) (v : CV) (rs : List RSg) (f : Nat) (p : Sg → Bool) (h : H) (y : RdV 25 44 h v rs l.length (getV l)) (hn : l.length ≤ big) (hf : ∀ i (hi : i < l.length) (hr : i < rs.length), bm Try.prog f [.agg (encV rs[i])] h = some (ib (p l[i]), h)) :
    bm Try.prog 148 [.one v, .one (.fn f [])] h = some (ii (idx p l), h) := by
  refine bm_eq cF148 ?_
  have yl : lenO (.one v) = some (ii l.length) := by rw [y.out.len, y.len]
  simp +contextual (maxSteps := 2000000) only [go_sem, Nat.reduceEqDiff, reduceCtorEq, Nat.reduceAdd, Nat.reduceLeDiff, F148, yl]
  refine wpC_loop (fun i T L h' => h' = h ∧ T 0 = .v (.one v) ∧ T 1 = .v (.one (.fn f [])) ∧ T 7 = .v (.one (.int .i64 l.length)) ∧ T 8 = .v (.one (.int .i64 i)) ∧ Pre p false l i) l.length ?_ ?_ (Nat.zero_le _) ?_
  · rintro i T L h' hi ⟨rfl, h0, h1, h7, h8, hp⟩
    have hr : i < rs.length := by rw [y.len]; exact hi
    cases b1 : p l[i] with
    | true =>
      have e := hf i hi hr
      rw [b1] at e
      simp +contextual (maxSteps := 2000000) only [go_sem, Nat.reduceEqDiff, reduceCtorEq, Nat.reduceAdd, Nat.reduceLeDiff, h0, h1, h7, h8, y.out.iaddr hr, y.out.whole hr, e, lt_true hi]
      rw [idx_hit hi hp b1]
    | false =>
      have e := hf i hi hr
      rw [b1] at e
      simp +contextual (maxSteps := 2000000) only [go_sem, Nat.reduceEqDiff, reduceCtorEq, Nat.reduceAdd, Nat.reduceLeDiff, h0, h1, h7, h8, y.out.iaddr hr, y.out.whole hr, e, lt_true hi]
      exact ⟨by rw [wrap_next hi (big_lt hn)], hp.next hi b1⟩
  · rintro T L h' ⟨rfl, h0, h1, h7, h8, hp⟩
    simp +contextual (maxSteps := 2000000) only [go_sem, Nat.reduceEqDiff, reduceCtorEq, Nat.reduceAdd, Nat.reduceLeDiff, h0, h1, h7, h8, lt_false, idx_none hp]
  · simp +contextual (maxSteps := 2000000) only [go_sem, Nat.reduceEqDiff, reduceCtorEq, Nat.reduceAdd, Nat.reduceLeDiff]
    (repeat' (first | refine And.intro ?_ ?_ | intro _)) <;> first | rfl | exact Pre.zero
/-! slices.ContainsFunc(()impl.Signature,impl.Signature) -/
def L127_0 : List AStep := [⟨.mov (.c (.bool false)), (some 4), none, []⟩]
theorem v127_0 : VS L127_0.eq_1 := rfl
def L127_1 : List AStep := [⟨.mov (.t 8), (some 4), none, []⟩]
theorem v127_1 : VS L127_1.eq_1 := rfl
def L127_2 : List AStep := ⟨.call 148 [(.t 5), (.t 6)], (some 7), none, []⟩ :: ⟨.bin .geq (.t 7) (.c (.int .i64 0)), (some 8), none, []⟩ :: L127_1
theorem v127_2 : VS L127_2.eq_1 := rfl
def L127_3 : List AStep := ⟨.mov (.t 0), (some 5), none, []⟩ :: ⟨.mov (.t 1), (some 6), none, []⟩ :: L127_2
theorem v127_3 : VS L127_3.eq_1 := rfl
def C127_0 : ACode := .seq (.reg L127_3) .ret
theorem u127_0 : VC C127_0.eq_1 := rfl
def C127_1 : ACode := .seq (.reg L127_0) C127_0
theorem u127_1 : VC C127_1.eq_1 := rfl
def F127 : AFunc := ⟨9, [.tmp 4], C127_1⟩
theorem cF127 : compB Try.prog 127 = some F127 := by kernel_rfl
attribute [local go_sem ↓] u127_0 u127_1 v127_0 v127_1 v127_2 v127_3
theorem c_hasV (l : List Sg) (v : CV) (rs : List RSg) (f : Nat) (p : Sg → Bool) (h : H) (y : RdV 25 44 h v rs l.length (getV l)) (hn : l.length ≤ big) (hf : ∀ i (hi : i < l.length) (hr : i < rs.length), bm Try.prog f [.agg (encV rs[i])] h = some (ib (p l[i]), h)) :
    bm Try.prog 127 [.one v, .one (.fn f [])] h = some (ib (l.any p), h) := by
  refine bm_eq cF127 ?_
  have e := idx_any (p := p) (l := l)
  simp +contextual (maxSteps := 2000000) only [go_sem, Nat.reduceEqDiff, reduceCtorEq, Nat.reduceAdd, Nat.reduceLeDiff, F127, c_indexV l v rs f p h y hn hf, e]
/-! impl.overloads$1 -/
def L128_0 : List AStep := [⟨.box 25 (.t 0), (some 1), none, []⟩, ⟨.mov (.c (.bool false)), (some 2), none, []⟩]
theorem v128_0 : VS L128_0.eq_1 := rfl
def L128_1 : List AStep := [⟨.not (.t 4), (some 5), none, []⟩, ⟨.mov (.t 5), (some 2), none, []⟩]
theorem v128_1 : VS L128_1.eq_1 := rfl
def L128_2 : List AStep := ⟨.load 1 true (.t 1), (some 3), none, []⟩ :: ⟨.call 27 [(.t 3)], (some 4), none, []⟩ :: L128_1
theorem v128_2 : VS L128_2.eq_1 := rfl
def C128_0 : ACode := .seq (.reg L128_2) .ret
theorem u128_0 : VC C128_0.eq_1 := rfl
def C128_1 : ACode := .seq (.reg L128_0) C128_0
theorem u128_1 : VC C128_1.eq_1 := rfl
def F128 : AFunc := ⟨6, [.tmp 2], C128_1⟩
theorem cF128 : compB Try.prog 128 = some F128 := by kernel_rfl
attribute [local go_sem ↓] u128_0 u128_1 v128_0 v128_1 v128_2
theorem c_overloads1 (r : RSg) (a : Sg) (h : H) (y : Sl encQ 4 44 h (.one r.qv) a.params) (m : miniG a.params) : bm Try.prog 128 [.agg (encV r)] h = some (ib (!(okSig a.params)), h) := by
  refine bm_eq cF128 ?_
  have e := c_ValidSignature a.params r.qv h y m.sm
  simp +contextual (maxSteps := 2000000) only [go_sem, Nat.reduceEqDiff, reduceCtorEq, Nat.reduceAdd, Nat.reduceLeDiff, F128, encV, e]
/-! impl.overloads -/
def L85_0 : List AStep := [⟨.mov (.c (.bool false)), (some 2), none, []⟩]
theorem v85_0 : VS L85_0.eq_1 := rfl
def L85_1 : List AStep := [⟨.mov (.t 10), (some 2), none, []⟩]
theorem v85_1 : VS L85_1.eq_1 := rfl
def L85_2 : List AStep := ⟨.not (.t 8), (some 9), (some (6, true)), []⟩ :: ⟨.pick (.t 6) (.t 9) (.c (.bool false)), (some 10), none, []⟩ :: L85_1
theorem v85_2 : VS L85_2.eq_1 := rfl
def L85_3 : List AStep := ⟨.mov (.t 0), (some 7), (some (6, true)), []⟩ :: ⟨.call 127 [(.t 7), (.c (.fn 128 []))], (some 8), (some (6, true)), []⟩ :: L85_2
theorem v85_3 : VS L85_3.eq_1 := rfl
def L85_4 : List AStep := ⟨.bin .leq (.t 4) (.c (.int .i64 5)), (some 5), none, []⟩ :: ⟨.mov (.t 5), (some 6), none, []⟩ :: L85_3
theorem v85_4 : VS L85_4.eq_1 := rfl
def L85_5 : List AStep := ⟨.mov (.t 0), (some 3), none, []⟩ :: ⟨.len (.t 3), (some 4), none, []⟩ :: L85_4
theorem v85_5 : VS L85_5.eq_1 := rfl
def C85_0 : ACode := .seq (.reg L85_5) .ret
theorem u85_0 : VC C85_0.eq_1 := rfl
def C85_1 : ACode := .seq (.reg L85_0) C85_0
theorem u85_1 : VC C85_1.eq_1 := rfl
def F85 : AFunc := ⟨11, [.tmp 2], C85_1⟩
theorem cF85 : compB Try.prog 85 = some F85 := by kernel_rfl
attribute [local go_sem ↓] u85_0 u85_1 v85_0 v85_1 v85_2 v85_3 v85_4 v85_5
theorem c_overloads (l : List Sg) (p : CV) (h : H) (hl : SlV h p l) (m : miniV l) : bm Try.prog 85 [.one p] h = some (ib (overl l), h) := by
  refine bm_eq cF85 ?_
  obtain ⟨rs, y⟩ := hl.ex
  have yl : lenO (.one p) = some (ii l.length) := by rw [y.out.len, y.len]
  have e := c_hasV l p rs 128 (fun s => !(okSig s.params)) h y (Nat.le_trans m.len (by decide)) (fun i hi hr => by
    have ye := y.el i hr
    rw [getV_eq hi] at ye
    exact c_overloads1 rs[i] l[i] h ye.params (m.at hi))
  rw [show l.any (fun s => !(okSig s.params)) = !(l.all fun s => okSig s.params) by rw [← List.not_all_eq_any_not]] at e
  unfold overl
  cases b1 : decide ((l.length : Int) ≤ 5) with
  | false => simp +contextual (maxSteps := 2000000) only [go_sem, Nat.reduceEqDiff, reduceCtorEq, Nat.reduceAdd, Nat.reduceLeDiff, F85, yl, b1, Bool.and_false]
  | true => simp +contextual (maxSteps := 2000000) only [go_sem, Nat.reduceEqDiff, reduceCtorEq, Nat.reduceAdd, Nat.reduceLeDiff, F85, yl, b1, e, Bool.and_true, Bool.not_not]
/-! impl.AllOf -/
def L40_0 : List AStep := [⟨.box 29 (.t 1), (some 3), none, []⟩, ⟨.mov (.c (.sl none 0 (some 0))), (some 4), none, []⟩]
theorem v40_0 : VS L40_0.eq_1 := rfl
def L40_1 : List AStep := [⟨.not (.t 13), (some 14), (some (11, false)), []⟩, ⟨.pick (.t 11) (.c (.bool true)) (.t 14), (some 15), none, []⟩]
theorem v40_1 : VS L40_1.eq_1 := rfl
def L40_2 : List AStep := ⟨.load 2 true (.t 3), (some 12), (some (11, false)), []⟩ :: ⟨.call 43 [(.t 12)], (some 13), (some (11, false)), []⟩ :: L40_1
theorem v40_2 : VS L40_2.eq_1 := rfl
def L40_3 : List AStep := ⟨.not (.t 9), (some 10), none, []⟩ :: ⟨.mov (.t 10), (some 11), none, []⟩ :: L40_2
theorem v40_3 : VS L40_3.eq_1 := rfl
def L40_4 : List AStep := ⟨.mov (.t 0), (some 8), none, []⟩ :: ⟨.call 85 [(.t 8)], (some 9), none, []⟩ :: L40_3
theorem v40_4 : VS L40_4.eq_1 := rfl
def L40_5 : List AStep := [⟨.mov (.c (.sl none 0 (some 0))), (some 4), none, []⟩]
theorem v40_5 : VS L40_5.eq_1 := rfl
def L40_6 : List AStep := [⟨.mov (.c (.sl none 0 (some 0))), (some 5), none, []⟩]
theorem v40_6 : VS L40_6.eq_1 := rfl
def L40_7 : List AStep := [⟨.mov (.c (.int .i64 0)), (some 18), none, []⟩]
theorem v40_7 : VS L40_7.eq_1 := rfl
def L40_8 : List AStep := ⟨.mov (.t 0), (some 16), none, []⟩ :: ⟨.len (.t 16), (some 17), none, []⟩ :: L40_7
theorem v40_8 : VS L40_8.eq_1 := rfl
def L40_9 : List AStep := [⟨.bin .lss (.t 18) (.t 17), (some 19), none, []⟩]
theorem v40_9 : VS L40_9.eq_1 := rfl
def L40_10 : List AStep := [⟨.mov (.t 20), (some 6), none, []⟩, ⟨.store 1 (.t 7) (.t 22), none, none, []⟩]
theorem v40_10 : VS L40_10.eq_1 := rfl
def L40_11 : List AStep := ⟨.load 1 true (.t 21), (some 22), none, []⟩ :: ⟨.alloc 25 [(.sl none 0 (some 0))], (some 7), none, []⟩ :: L40_10
theorem v40_11 : VS L40_11.eq_1 := rfl
def L40_12 : List AStep := ⟨.mov (.t 18), (some 20), none, []⟩ :: ⟨.iaddr 1 (.t 16) (.t 18), (some 21), none, []⟩ :: L40_11
theorem v40_12 : VS L40_12.eq_1 := rfl
def L40_13 : List AStep := [⟨.call 45 [(.t 23), (.t 24)], (some 25), none, []⟩]
theorem v40_13 : VS L40_13.eq_1 := rfl
def L40_14 : List AStep := ⟨.load 1 true (.t 7), (some 23), none, []⟩ :: ⟨.load 2 true (.t 3), (some 24), none, []⟩ :: L40_13
theorem v40_14 : VS L40_14.eq_1 := rfl
def L40_15 : List AStep := [⟨.mov (.t 29), (some 5), none, []⟩]
theorem v40_15 : VS L40_15.eq_1 := rfl
def L40_16 : List AStep := ⟨.buildSlice 3 1 [(.int .i64 0)] [(0, 1, (.t 27))], (some 28), none, []⟩ :: ⟨.append 3 1 8 (.t 26) (.t 28), (some 29), none, []⟩ :: L40_15
theorem v40_16 : VS L40_16.eq_1 := rfl
def L40_17 : List AStep := ⟨.mov (.t 5), (some 26), none, []⟩ :: ⟨.mov (.t 6), (some 27), none, []⟩ :: L40_16
theorem v40_17 : VS L40_17.eq_1 := rfl
def L40_18 : List AStep := [⟨.bin .add (.t 18) (.c (.int .i64 1)), (some 30), none, []⟩, ⟨.mov (.t 30), (some 18), none, []⟩]
theorem v40_18 : VS L40_18.eq_1 := rfl
def L40_19 : List AStep := [⟨.mov (.t 32), (some 4), none, []⟩]
theorem v40_19 : VS L40_19.eq_1 := rfl
def L40_20 : List AStep := ⟨.mov (.t 5), (some 31), none, []⟩ :: ⟨.call 86 [(.t 31)], (some 32), none, []⟩ :: L40_19
theorem v40_20 : VS L40_20.eq_1 := rfl
def C40_0 : ACode := .seq (.reg L40_5) .ret
theorem u40_0 : VC C40_0.eq_1 := rfl
def C40_1 : ACode := .cond (.t 15) C40_0 .skip
theorem u40_1 : VC C40_1.eq_1 := rfl
def C40_2 : ACode := .seq (.reg L40_4) C40_1
theorem u40_2 : VC C40_2.eq_1 := rfl
def C40_3 : ACode := .cond (.t 19) .skip (.exit 0)
theorem u40_3 : VC C40_3.eq_1 := rfl
def C40_4 : ACode := .cond (.t 25) (.reg L40_17) .skip
theorem u40_4 : VC C40_4.eq_1 := rfl
def C40_5 : ACode := .seq (.reg L40_14) C40_4
theorem u40_5 : VC C40_5.eq_1 := rfl
def C40_6 : ACode := .seq (.reg L40_12) C40_5
theorem u40_6 : VC C40_6.eq_1 := rfl
def C40_7 : ACode := .block 1 C40_6
theorem u40_7 : VC C40_7.eq_1 := rfl
def C40_8 : ACode := .seq C40_7 (.reg L40_18)
theorem u40_8 : VC C40_8.eq_1 := rfl
def C40_9 : ACode := .seq C40_3 C40_8
theorem u40_9 : VC C40_9.eq_1 := rfl
def C40_10 : ACode := .seq (.reg L40_9) C40_9
theorem u40_10 : VC C40_10.eq_1 := rfl
def C40_11 : ACode := .block 0 (.loop C40_10)
theorem u40_11 : VC C40_11.eq_1 := rfl
def C40_12 : ACode := .seq (.reg L40_8) C40_11
theorem u40_12 : VC C40_12.eq_1 := rfl
def C40_13 : ACode := .seq (.reg L40_20) .ret
theorem u40_13 : VC C40_13.eq_1 := rfl
def C40_14 : ACode := .seq C40_12 C40_13
theorem u40_14 : VC C40_14.eq_1 := rfl
def C40_15 : ACode := .seq (.reg L40_6) C40_14
theorem u40_15 : VC C40_15.eq_1 := rfl
def C40_16 : ACode := .seq C40_2 C40_15
theorem u40_16 : VC C40_16.eq_1 := rfl
def C40_17 : ACode := .seq (.reg L40_0) C40_16
theorem u40_17 : VC C40_17.eq_1 := rfl
def F40 : AFunc := ⟨33, [.tmp 4], C40_17⟩
theorem cF40 : compB Try.prog 40 = some F40 := by kernel_rfl
attribute [local go_sem ↓] u40_0 u40_1 u40_2 u40_3 u40_4 u40_5 u40_6 u40_7 u40_8 u40_9 u40_10 u40_11 u40_12 u40_13 u40_14 u40_15 u40_16 u40_17 v40_0 v40_1 v40_2 v40_3 v40_4 v40_5 v40_6 v40_7 v40_8 v40_9 v40_10 v40_11 v40_12 v40_13 v40_14 v40_15 v40_16 v40_17 v40_18 v40_19 v40_20
theorem k_iAllOf (l : List Sg) (f : Flat) (v p n : CV) (h : H) (hl : SlV h v l) (hf : SlF h p n f) (m : miniV l) (hm : miniF f) : callK (bm Try.prog 40 [.one v, .agg [p, n]] h) fun r h' => Grow h h' ∧ ∃ w, r = .one w ∧ NwJ h h' w (allF l f) := by
  refine bm_of cF40 ?_
  have vs := c_overloads l v h hl m
  have vf := c_ValidFlat f p n h hf.pl hf.nl hm.sm
  unfold allF
  cases b1 : overl l with
  | false =>
    rw [b1] at vs
    simp +contextual (maxSteps := 2000000) only [go_sem, Nat.reduceEqDiff, reduceCtorEq, Nat.reduceAdd, Nat.reduceLeDiff, F40, vs, Bool.false_and, if_false]
    exact ⟨Grow.refl h, _, rfl, ⟨.nil⟩⟩
  | true =>
  rw [b1] at vs
  cases b2 : okFlat f with
  | false =>
    rw [b2] at vf
    simp +contextual (maxSteps := 2000000) only [go_sem, Nat.reduceEqDiff, reduceCtorEq, Nat.reduceAdd, Nat.reduceLeDiff, F40, vs, vf, Bool.true_and, if_false]
    exact ⟨Grow.refl h, _, rfl, ⟨.nil⟩⟩
  | true =>
  rw [b2] at vf
  obtain ⟨rs, y0⟩ := hl.ex
  obtain ⟨hn, oks⟩ := overl_at b1
  have yl : lenO (.one v) = some (ii l.length) := by rw [y0.out.len, y0.len]
  simp +contextual (maxSteps := 2000000) only [go_sem, Nat.reduceEqDiff, reduceCtorEq, Nat.reduceAdd, Nat.reduceLeDiff, F40, vs, vf, Bool.true_and, if_true, yl]
  refine wpC_loop (fun i T L h' => Grow h h' ∧ T 3 = .lp 3 0 ∧ (L 3).2 = [p, n] ∧ (∃ w, T 5 = .v (.one w) ∧ NwI h h' (.one w) (allT l f i)) ∧ T 16 = .v (.one v) ∧ T 17 = .v (.one (.int .i64 l.length)) ∧ T 18 = .v (.one (.int .i64 i))) l.length ?_ ?_ (Nat.zero_le _) ?_
  · rintro i T L h' hi ⟨g, t3, l3, ⟨w, t5, z⟩, t16, t17, t18⟩
    have y := y0.grow g
    have k := hf.grow g
    have hr : i < rs.length := by rw [y.len]; exact hi
    have ye := y.el i hr
    rw [getV_eq hi] at ye
    have ac := k_iAccepts l[i].params f rs[i].qv p n h' ⟨ye.params⟩ k (m.at hi) hm
    have pn := pickF_next (t := accAt l f) (nm := fun j => (j : Int)) (i := i)
    have pl := pickF_len (t := accAt l f) (nm := fun j => (j : Int)) (i := i)
    rw [← accAt_eq hi] at ac
    cases b1 : accAt l f i with
    | false =>
      rw [b1] at ac pn
      rw [if_neg (by simp), List.append_nil] at pn
      simp +contextual (maxSteps := 2000000) only [go_sem, Nat.reduceEqDiff, reduceCtorEq, Nat.reduceAdd, Nat.reduceLeDiff, t3, l3, t5, t16, t17, t18, lt_true hi, y.out.iaddr hr, y.out.whole hr, encV, ac]
      exact ⟨g, ⟨w, rfl, by unfold allT; rw [pn]; exact z⟩, by rw [wrap_next hi (by omega)]⟩
    | true =>
      rw [b1] at ac pn
      rw [if_pos rfl] at pn
      simp +contextual (maxSteps := 2000000) only [go_sem, Nat.reduceEqDiff, reduceCtorEq, Nat.reduceAdd, Nat.reduceLeDiff, t3, l3, t5, t16, t17, t18, lt_true hi, y.out.iaddr hr, y.out.whole hr, encV, ac]
      refine wp_lit (enc := encI) (k := 1) (l := [(i : Int)]) rfl rfl ?_
      intro h3 w3 g3 n3 _
      simp +contextual (maxSteps := 2000000) only [go_sem, Nat.reduceEqDiff, reduceCtorEq, Nat.reduceAdd, Nat.reduceLeDiff, t3, l3, t5, t16, t17, t18]
      refine wp_append lenI (z.grow g3) (n3.sl lenI) (g.trans g3) (by unfold allT; simp; omega) ?_
      intro h4 s4 g4 n4 st4 hb4
      obtain ⟨c4, rfl⟩ := n4.one
      simp +contextual (maxSteps := 2000000) only [go_sem, Nat.reduceEqDiff, reduceCtorEq, Nat.reduceAdd, Nat.reduceLeDiff, t3, l3, t5, t16, t17, t18]
      exact ⟨g4, ⟨c4, rfl, by unfold allT; rw [pn]; exact n4⟩, by rw [wrap_next hi (by omega)]⟩
  · rintro T L h' ⟨g, t3, l3, ⟨w, t5, z⟩, t16, t17, t18⟩
    simp +contextual (maxSteps := 2000000) only [go_sem, Nat.reduceEqDiff, reduceCtorEq, Nat.reduceAdd, Nat.reduceLeDiff, t3, l3, t5, t16, t17, t18, lt_false]
    refine wp_call (c_clipI _ _ h' z) ?_
    rintro r h2 ⟨rfl, n2⟩
    obtain ⟨c, rfl⟩ := n2.one
    simp +contextual (maxSteps := 2000000) only [go_sem, Nat.reduceEqDiff, reduceCtorEq, Nat.reduceAdd, Nat.reduceLeDiff]
    exact gcK_of ⟨g, _, rfl, ⟨n2⟩⟩ (fun hs _ => ⟨Grow.refl h, _, rfl, ⟨n2.scalar (by simpa [AV.scalar] using hs) h⟩⟩)
  · simp +contextual (maxSteps := 2000000) only [go_sem, Nat.reduceEqDiff, reduceCtorEq, Nat.reduceAdd, Nat.reduceLeDiff]
    exact ⟨Grow.refl h, ⟨_, rfl, .nil⟩, rfl⟩
theorem head_nat {l : List Int} {d : Int} (h : 0 < l.length) : l[0] = l.headD d := by
  match l, h with
  | a :: r, _ => rfl
end Go.Proofs.Ytekkimfdcbgcoac.Am
