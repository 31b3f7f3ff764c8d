/- Contracts: overloads, of both sides. -/
import Derived.Test.YtdalgphpacikkabBK
import Derived.Test.YtdalgphpacikkabPD
import Derived.Test.YtdalgphpacikkabK2
import Derived.Test.YtdalgphpacikkabK3
namespace Go.Proofs.Ytdalgphpacikkab.Am
open Go
set_option maxRecDepth 100000
set_option maxHeartbeats 4000000
set_option linter.unusedSimpArgs false
set_option linter.unusedVariables false
attribute [local go_sem ↓] bv_t bv_c ev_t ev_c put_same put_ne put_none kill_at pro_at lb_same lb_ne start_zero start_succ wpC_seq wpC_reg wpC_cond wpC_block wpC_skip wpC_exit wpC_ret thenQ_normal thenQ_exit thenQ_ret inBlk_normal inBlk_exit inBlk_ret wpS_nil wpS_step wpS_again wpS_guard wpO_mov wpO_load wpO_faddr wpO_nilCheck wpO_pick wpO_build wpO_bin wpO_eqb wpO_eqst wpO_eqnil wpO_not wpO_conv wpO_bytesStr wpO_iaddr wpO_idxStr wpO_field wpO_extract wpO_len wpO_lenStr wpO_cap wpO_min wpO_slice wpO_sliceStr wpO_alloc wpO_box wpO_store wpO_call wpO_callv wpO_mkfn wpO_buildSlice wpO_mkslice wpO_append wpO_appz proA_nil proA_cons tmpX_nil tmpX_tmp tmpX_cell doneB_normal doneB_ret agK_cons agK_nil agK_guard agG_tt agG_ff agG_tf agG_ft agG_undef pureB_load results_one results_two results_nil resBs_cons resBs_nil resB_tmp resB_cell
attribute [local go_sem] kill_v kill_lp_ne kill_lp_same pro_v pro_lp_same pro_lp_ne av_v av_lp optB_some optX_some valX_eq ldX_lp ldX_v faX_lp faX_v ncX_lp ncX_ptr ncX_fn boxK_one boxK_agg stL_some stK_lp_one stK_lp_agg stK_v_one stK_v_agg proM_v proM_lp callG_mk callVG_mk callvK_fn fnG_mk ptrsA_nil ptrsA_cons callH_some whenA_true whenA_false guardH_tt guardH_ff guardH_tf guardH_ft guardH_undef agV_one agV_agg lenO_sl lenStrO_str notO_bool pickO_bool convO_int eqbO_bool eqnilO_sl extractO_tup capO_sl minO_int loadL_one loadL_all storeL_eq fillA_nil fillA_one fillA_agg nat_ge neg_ge nat_lt neg_lt buildO bin_add bin_sub bin_mul bin_eql bin_neq bin_lss bin_leq bin_gtr bin_geq str_eql str_neq str_lss str_leq str_gtr str_geq retK_some endK_mk gcK_same gcK_int gcK_bool tupO_one tupO_agg rdy_self ib ii Option.map_none Option.map_some Option.some.injEq exists_eq_left' exists_eq_left ne_eq not_false_eq_true if_true if_false List.map_cons List.map_nil List.getElem?_cons_zero List.getElem?_cons_succ List.length_cons List.length_nil List.take_succ_cons List.take_zero List.take_nil List.drop_succ_cons List.drop_zero List.drop_nil List.cons_append List.nil_append List.append_nil List.set_cons_zero List.set_cons_succ Nat.zero_add forall_const true_and and_true and_self Bool.false_eq_true false_implies true_implies implies_true Bool.not_true Bool.not_false Bool.not_eq_true' Bool.not_eq_false' beq_self_eq_true Bool.bne_true Bool.bne_false
attribute [local go_sem] lenI lenS lenP lenQ lenB lenL lenT encI_0 encS_0 encP_0 encP_1 encQ_0 encQ_1 encQ_2 encQ_3 encB_0 encB_1 encL_0 encL_1 encT_0 encT_1
attribute [local go_sem low] whenA_bool guardH_bool
attribute [local go_sem] lenV encV_0
def overl (l : List Sg) : Bool := (l.all fun s => okSig s.params) && decide ((l.length : Int) ≤ 5)
def accAt (l : List Sg) (f : Flat) (j : Nat) : Bool := acceptsF (getV l j).params f
def allT (l : List Sg) (f : Flat) (i : Nat) : List Int := pickF (accAt l f) (fun j => (j : Int)) i
def allF (l : List Sg) (f : Flat) : List Int := if (overl l && okFlat f) = true then allT l f l.length else []
def firstF (l : List Sg) (f : Flat) : Int := if (overl l && okFlat f) = true then (allT l f l.length).headD (-1) else -2
theorem overl_at {l : List Sg} (h : overl l = true) : l.length ≤ 5 ∧ ∀ i (hi : i < l.length), okSig l[i].params = true := by
  unfold overl at h
  simp only [Bool.and_eq_true, decide_eq_true_iff, List.all_eq_true] at h
  exact ⟨by omega, fun i hi => h.1 _ (List.getElem_mem hi)⟩
theorem accAt_eq {l : List Sg} {f : Flat} {i : Nat} (hi : i < l.length) : accAt l f i = acceptsF l[i].params f := by unfold accAt; rw [getV_eq hi]
theorem acc_wrong {l : List Param} {f : Flat} (h1 : okSig l = true) (h2 : okFlat f = true) : acceptsF l f = (wrong l f).isEmpty := by
  unfold acceptsF fits
  rw [h1, h2]
  rfl
theorem miniJ.all {l : List Sg} {f : Flat} : miniJ (allF l f) := by
  unfold allF
  split
  · rename_i h
    rw [Bool.and_eq_true] at h
    have := (overl_at h.1).1
    have h2 := pickF_len (t := accAt l f) (nm := fun j => (j : Int)) (i := l.length)
    exact ⟨by unfold allT; omega, trivial⟩
  · exact ⟨by simp, trivial⟩
theorem miniV.at {l : List Sg} (m : miniV l) {i : Nat} (hi : i < l.length) : miniG l[i].params := ⟨m.params _ (List.getElem_mem hi), m.nparams _ (List.getElem_mem hi)⟩
/-! spec.validSet -/
def L72_0 : List AStep := [⟨.mov (.c (.bool false)), (some 2), none, []⟩]
theorem v72_0 : VS L72_0.eq_1 := rfl
def L72_1 : List AStep := [⟨.mov (.c (.int .i64 0)), (some 3), none, []⟩]
theorem v72_1 : VS L72_1.eq_1 := rfl
def L72_2 : List AStep := [⟨.len (.t 5), (some 6), none, []⟩, ⟨.bin .lss (.t 4) (.t 6), (some 7), none, []⟩]
theorem v72_2 : VS L72_2.eq_1 := rfl
def L72_3 : List AStep := ⟨.mov (.t 3), (some 4), none, []⟩ :: ⟨.mov (.t 0), (some 5), none, []⟩ :: L72_2
theorem v72_3 : VS L72_3.eq_1 := rfl
def L72_4 : List AStep := [⟨.call 69 [(.t 13)], (some 14), none, []⟩, ⟨.not (.t 14), (some 15), none, []⟩]
theorem v72_4 : VS L72_4.eq_1 := rfl
def L72_5 : List AStep := ⟨.iaddr 1 (.t 10) (.t 11), (some 12), none, []⟩ :: ⟨.load 1 true (.t 12), (some 13), none, []⟩ :: L72_4
theorem v72_5 : VS L72_5.eq_1 := rfl
def L72_6 : List AStep := ⟨.mov (.t 0), (some 10), none, []⟩ :: ⟨.mov (.t 3), (some 11), none, []⟩ :: L72_5
theorem v72_6 : VS L72_6.eq_1 := rfl
def L72_7 : List AStep := [⟨.mov (.c (.bool false)), (some 2), none, []⟩]
theorem v72_7 : VS L72_7.eq_1 := rfl
def L72_8 : List AStep := [⟨.mov (.t 9), (some 3), none, []⟩]
theorem v72_8 : VS L72_8.eq_1 := rfl
def L72_9 : List AStep := ⟨.mov (.t 3), (some 8), none, []⟩ :: ⟨.bin .add (.t 8) (.c (.int .i64 1)), (some 9), none, []⟩ :: L72_8
theorem v72_9 : VS L72_9.eq_1 := rfl
def L72_10 : List AStep := [⟨.bin .leq (.t 17) (.c (.int .i64 5)), (some 18), none, []⟩, ⟨.mov (.t 18), (some 2), none, []⟩]
theorem v72_10 : VS L72_10.eq_1 := rfl
def L72_11 : List AStep := ⟨.mov (.t 0), (some 16), none, []⟩ :: ⟨.len (.t 16), (some 17), none, []⟩ :: L72_10
theorem v72_11 : VS L72_11.eq_1 := rfl
def C72_0 : ACode := .cond (.t 7) .skip (.exit 0)
theorem u72_0 : VC C72_0.eq_1 := rfl
def C72_1 : ACode := .seq (.reg L72_3) C72_0
theorem u72_1 : VC C72_1.eq_1 := rfl
def C72_2 : ACode := .seq (.reg L72_7) .ret
theorem u72_2 : VC C72_2.eq_1 := rfl
def C72_3 : ACode := .cond (.t 15) C72_2 .skip
theorem u72_3 : VC C72_3.eq_1 := rfl
def C72_4 : ACode := .seq (.reg L72_6) C72_3
theorem u72_4 : VC C72_4.eq_1 := rfl
def C72_5 : ACode := .block 1 C72_4
theorem u72_5 : VC C72_5.eq_1 := rfl
def C72_6 : ACode := .seq C72_5 (.reg L72_9)
theorem u72_6 : VC C72_6.eq_1 := rfl
def C72_7 : ACode := .seq C72_1 C72_6
theorem u72_7 : VC C72_7.eq_1 := rfl
def C72_8 : ACode := .block 0 (.loop C72_7)
theorem u72_8 : VC C72_8.eq_1 := rfl
def C72_9 : ACode := .seq (.reg L72_1) C72_8
theorem u72_9 : VC C72_9.eq_1 := rfl
def C72_10 : ACode := .seq (.reg L72_11) .ret
theorem u72_10 : VC C72_10.eq_1 := rfl
def C72_11 : ACode := .seq C72_9 C72_10
theorem u72_11 : VC C72_11.eq_1 := rfl
def C72_12 : ACode := .seq (.reg L72_0) C72_11
theorem u72_12 : VC C72_12.eq_1 := rfl
def F72 : AFunc := ⟨19, [.tmp 2], C72_12⟩
theorem cF72 : compB Try.prog 72 = some F72 := by kernel_rfl
attribute [local go_sem ↓] u72_0 u72_1 u72_2 u72_3 u72_4 u72_5 u72_6 u72_7 u72_8 u72_9 u72_10 u72_11 u72_12 v72_0 v72_1 v72_2 v72_3 v72_4 v72_5 v72_6 v72_7 v72_8 v72_9 v72_10 v72_11
theorem c_validSet (l : List Sg) (p : CV) (h : H) (hl : SlV h p l) (m : miniV l) : bm Try.prog 72 [.one p] h = some (ib (overl l), h) := by
  refine bm_eq cF72 ?_
  obtain ⟨rs, y⟩ := hl.ex
  have hn := m.len
  have yl : lenO (.one p) = some (ii l.length) := by rw [y.out.len, y.len]
  simp +contextual (maxSteps := 2000000) only [go_sem, Nat.reduceEqDiff, reduceCtorEq, Nat.reduceAdd, Nat.reduceLeDiff, F72]
  refine wpC_loop (fun i T L h' => h' = h ∧ T 0 = .v (.one p) ∧ T 3 = .v (.one (.int .i64 i)) ∧ Pre (fun s : Sg => okSig s.params) true l i) l.length ?_ ?_ (Nat.zero_le _) ?_
  · rintro i T L h' hi ⟨rfl, t0, t3, hp⟩
    have hr : i < rs.length := by rw [y.len]; exact hi
    have ye := y.el i hr
    rw [getV_eq hi] at ye
    have vs : bm Try.prog 69 [.agg (encV rs[i])] h' = _ := c_validSignature l[i].params rs[i].qv h' ye.params (m.at hi).sm
    cases b1 : okSig l[i].params with
    | false =>
      rw [b1] at vs
      have bad : overl l = false := by unfold overl; rw [all_stop (p := fun s : Sg => okSig s.params) hi b1]; rfl
      simp +contextual (maxSteps := 2000000) only [go_sem, Nat.reduceEqDiff, reduceCtorEq, Nat.reduceAdd, Nat.reduceLeDiff, t0, t3, yl, lt_true hi, y.out.iaddr hr, y.out.whole hr, vs, bad]
    | true =>
      rw [b1] at vs
      simp +contextual (maxSteps := 2000000) only [go_sem, Nat.reduceEqDiff, reduceCtorEq, Nat.reduceAdd, Nat.reduceLeDiff, t0, t3, yl, lt_true hi, y.out.iaddr hr, y.out.whole hr, vs]
      exact ⟨by rw [wrap_next hi (by omega)], hp.next hi b1⟩
  · rintro T L h' ⟨rfl, t0, t3, hp⟩
    simp +contextual (maxSteps := 2000000) only [go_sem, Nat.reduceEqDiff, reduceCtorEq, Nat.reduceAdd, Nat.reduceLeDiff, t0, t3, yl, lt_false, overl, hp.all, Bool.true_and]
  · simp +contextual (maxSteps := 2000000) only [go_sem, Nat.reduceEqDiff, reduceCtorEq, Nat.reduceAdd, Nat.reduceLeDiff]
    (repeat' (first | refine And.intro ?_ ?_ | intro _)) <;> first | rfl | exact Pre.zero
/-! spec.accepted -/
def L74_0 : List AStep := [⟨.box 39 (.t 1), (some 3), none, []⟩, ⟨.mov (.c (.sl none 0 (some 0))), (some 4), none, []⟩]
theorem v74_0 : VS L74_0.eq_1 := rfl
def L74_1 : List AStep := [⟨.buildSlice 3 0 [(.int .i64 0)] [], (some 7), none, []⟩, ⟨.mov (.t 7), (some 5), none, []⟩]
theorem v74_1 : VS L74_1.eq_1 := rfl
def L74_2 : List AStep := [⟨.mov (.c (.int .i64 0)), (some 6), none, []⟩]
theorem v74_2 : VS L74_2.eq_1 := rfl
def L74_3 : List AStep := [⟨.len (.t 9), (some 10), none, []⟩, ⟨.bin .lss (.t 8) (.t 10), (some 11), none, []⟩]
theorem v74_3 : VS L74_3.eq_1 := rfl
def L74_4 : List AStep := ⟨.mov (.t 6), (some 8), none, []⟩ :: ⟨.mov (.t 0), (some 9), none, []⟩ :: L74_3
theorem v74_4 : VS L74_4.eq_1 := rfl
def L74_5 : List AStep := [⟨.load 2 true (.t 3), (some 18), none, []⟩, ⟨.call 70 [(.t 17), (.t 18)], (some 19), none, []⟩]
theorem v74_5 : VS L74_5.eq_1 := rfl
def L74_6 : List AStep := ⟨.iaddr 1 (.t 14) (.t 15), (some 16), none, []⟩ :: ⟨.load 1 true (.t 16), (some 17), none, []⟩ :: L74_5
theorem v74_6 : VS L74_6.eq_1 := rfl
def L74_7 : List AStep := ⟨.mov (.t 0), (some 14), none, []⟩ :: ⟨.mov (.t 6), (some 15), none, []⟩ :: L74_6
theorem v74_7 : VS L74_7.eq_1 := rfl
def L74_8 : List AStep := [⟨.mov (.t 23), (some 5), none, []⟩]
theorem v74_8 : VS L74_8.eq_1 := rfl
def L74_9 : List AStep := ⟨.buildSlice 3 1 [(.int .i64 0)] [(0, 1, (.t 21))], (some 22), none, []⟩ :: ⟨.append 3 1 8 (.t 20) (.t 22), (some 23), none, []⟩ :: L74_8
theorem v74_9 : VS L74_9.eq_1 := rfl
def L74_10 : List AStep := ⟨.mov (.t 5), (some 20), none, []⟩ :: ⟨.mov (.t 6), (some 21), none, []⟩ :: L74_9
theorem v74_10 : VS L74_10.eq_1 := rfl
def L74_11 : List AStep := [⟨.mov (.t 13), (some 6), none, []⟩]
theorem v74_11 : VS L74_11.eq_1 := rfl
def L74_12 : List AStep := ⟨.mov (.t 6), (some 12), none, []⟩ :: ⟨.bin .add (.t 12) (.c (.int .i64 1)), (some 13), none, []⟩ :: L74_11
theorem v74_12 : VS L74_12.eq_1 := rfl
def L74_13 : List AStep := [⟨.mov (.t 5), (some 24), none, []⟩, ⟨.mov (.t 24), (some 4), none, []⟩]
theorem v74_13 : VS L74_13.eq_1 := rfl
def C74_0 : ACode := .cond (.t 11) .skip (.exit 0)
theorem u74_0 : VC C74_0.eq_1 := rfl
def C74_1 : ACode := .seq (.reg L74_4) C74_0
theorem u74_1 : VC C74_1.eq_1 := rfl
def C74_2 : ACode := .cond (.t 19) (.reg L74_10) .skip
theorem u74_2 : VC C74_2.eq_1 := rfl
def C74_3 : ACode := .seq (.reg L74_7) C74_2
theorem u74_3 : VC C74_3.eq_1 := rfl
def C74_4 : ACode := .block 1 C74_3
theorem u74_4 : VC C74_4.eq_1 := rfl
def C74_5 : ACode := .seq C74_4 (.reg L74_12)
theorem u74_5 : VC C74_5.eq_1 := rfl
def C74_6 : ACode := .seq C74_1 C74_5
theorem u74_6 : VC C74_6.eq_1 := rfl
def C74_7 : ACode := .block 0 (.loop C74_6)
theorem u74_7 : VC C74_7.eq_1 := rfl
def C74_8 : ACode := .seq (.reg L74_2) C74_7
theorem u74_8 : VC C74_8.eq_1 := rfl
def C74_9 : ACode := .seq (.reg L74_13) .ret
theorem u74_9 : VC C74_9.eq_1 := rfl
def C74_10 : ACode := .seq C74_8 C74_9
theorem u74_10 : VC C74_10.eq_1 := rfl
def C74_11 : ACode := .seq (.reg L74_1) C74_10
theorem u74_11 : VC C74_11.eq_1 := rfl
def C74_12 : ACode := .seq (.reg L74_0) C74_11
theorem u74_12 : VC C74_12.eq_1 := rfl
def F74 : AFunc := ⟨25, [.tmp 4], C74_12⟩
theorem cF74 : compB Try.prog 74 = some F74 := by kernel_rfl
attribute [local go_sem ↓] u74_0 u74_1 u74_2 u74_3 u74_4 u74_5 u74_6 u74_7 u74_8 u74_9 u74_10 u74_11 u74_12 v74_0 v74_1 v74_2 v74_3 v74_4 v74_5 v74_6 v74_7 v74_8 v74_9 v74_10 v74_11 v74_12 v74_13
theorem c_accepted (l : List Sg) (f : Flat) (v p n : CV) (h : H) (hl : SlV h v l) (hf : SlF h p n f) (ov : overl l = true) (ok2 : okFlat f = true) : callK (bm Try.prog 74 [.one v, .agg [p, n]] h) fun r h' => Grow h h' ∧ ∃ w, r = .one w ∧ NwI h h' (.one w) (allT l f l.length) := by
  refine bm_of cF74 ?_
  obtain ⟨rs, y0⟩ := hl.ex
  obtain ⟨hn, oks⟩ := overl_at ov
  have yl : lenO (.one v) = some (ii l.length) := by rw [y0.out.len, y0.len]
  simp +contextual (maxSteps := 2000000) only [go_sem, Nat.reduceEqDiff, reduceCtorEq, Nat.reduceAdd, Nat.reduceLeDiff, F74]
  refine wp_lit (enc := encI) (k := 1) (l := []) rfl rfl ?_
  intro h1 w g1 n1 _
  obtain ⟨w, rfl⟩ := n1.one
  simp +contextual (maxSteps := 2000000) only [go_sem, Nat.reduceEqDiff, reduceCtorEq, Nat.reduceAdd, Nat.reduceLeDiff]
  refine wpC_loop (fun i T L h' => Grow h h' ∧ T 0 = .v (.one v) ∧ T 3 = .lp 3 0 ∧ (L 3).2 = [p, n] ∧ (∃ w, T 5 = .v (.one w) ∧ NwI h h' (.one w) (allT l f i)) ∧ T 6 = .v (.one (.int .i64 i))) l.length ?_ ?_ (Nat.zero_le _) ?_
  · rintro i T L h' hi ⟨g, t0, t3, l3, ⟨w, t5, z⟩, t6⟩
    have y := y0.grow g
    have k := hf.grow g
    have hr : i < rs.length := by rw [y.len]; exact hi
    have ye := y.el i hr
    rw [getV_eq hi] at ye
    have ac : bm Try.prog 70 [.agg (encV rs[i]), .agg [p, n]] h' = _ := c_accepts l[i].params f rs[i].qv p n h' ye.params k (oks i hi) ok2
    have pn := pickF_next (t := accAt l f) (nm := fun j => (j : Int)) (i := i)
    have pl := pickF_len (t := accAt l f) (nm := fun j => (j : Int)) (i := i)
    rw [← acc_wrong (oks i hi) ok2, ← accAt_eq hi] at ac
    cases b1 : accAt l f i with
    | false =>
      rw [b1] at ac pn
      rw [if_neg (by simp), List.append_nil] at pn
      simp +contextual (maxSteps := 2000000) only [go_sem, Nat.reduceEqDiff, reduceCtorEq, Nat.reduceAdd, Nat.reduceLeDiff, t0, t3, l3, t5, t6, yl, lt_true hi, y.out.iaddr hr, y.out.whole hr, ac]
      exact ⟨g, ⟨w, rfl, by unfold allT; rw [pn]; exact z⟩, by rw [wrap_next hi (by omega)]⟩
    | true =>
      rw [b1] at ac pn
      rw [if_pos rfl] at pn
      simp +contextual (maxSteps := 2000000) only [go_sem, Nat.reduceEqDiff, reduceCtorEq, Nat.reduceAdd, Nat.reduceLeDiff, t0, t3, l3, t5, t6, yl, lt_true hi, y.out.iaddr hr, y.out.whole hr, ac]
      refine wp_lit (enc := encI) (k := 1) (l := [(i : Int)]) rfl rfl ?_
      intro h3 w3 g3 n3 _
      simp +contextual (maxSteps := 2000000) only [go_sem, Nat.reduceEqDiff, reduceCtorEq, Nat.reduceAdd, Nat.reduceLeDiff, t0, t3, l3, t5, t6]
      refine wp_append lenI (z.grow g3) (n3.sl lenI) (g.trans g3) (by unfold allT; simp; omega) ?_
      intro h4 s4 g4 n4 st4 hb4
      obtain ⟨c4, rfl⟩ := n4.one
      simp +contextual (maxSteps := 2000000) only [go_sem, Nat.reduceEqDiff, reduceCtorEq, Nat.reduceAdd, Nat.reduceLeDiff, t0, t3, l3, t5, t6]
      exact ⟨g4, ⟨c4, rfl, by unfold allT; rw [pn]; exact n4⟩, by rw [wrap_next hi (by omega)]⟩
  · rintro T L h' ⟨g, t0, t3, l3, ⟨w, t5, z⟩, t6⟩
    simp +contextual (maxSteps := 2000000) only [go_sem, Nat.reduceEqDiff, reduceCtorEq, Nat.reduceAdd, Nat.reduceLeDiff, t0, t3, l3, t5, t6, yl, lt_false]
    exact gcK_of ⟨g, _, rfl, z⟩ (fun hs _ => ⟨Grow.refl h, _, rfl, z.scalar hs h⟩)
  · simp +contextual (maxSteps := 2000000) only [go_sem, Nat.reduceEqDiff, reduceCtorEq, Nat.reduceAdd, Nat.reduceLeDiff]
    exact ⟨g1, ⟨_, rfl, n1⟩, rfl⟩
/-! spec.AllOf -/
def L34_0 : List AStep := [⟨.box 39 (.t 1), (some 3), none, []⟩, ⟨.mov (.c (.sl none 0 (some 0))), (some 4), none, []⟩]
theorem v34_0 : VS L34_0.eq_1 := rfl
def L34_1 : List AStep := [⟨.not (.t 10), (some 11), (some (8, false)), []⟩, ⟨.pick (.t 8) (.c (.bool true)) (.t 11), (some 12), none, []⟩]
theorem v34_1 : VS L34_1.eq_1 := rfl
def L34_2 : List AStep := ⟨.load 2 true (.t 3), (some 9), (some (8, false)), []⟩ :: ⟨.call 73 [(.t 9)], (some 10), (some (8, false)), []⟩ :: L34_1
theorem v34_2 : VS L34_2.eq_1 := rfl
def L34_3 : List AStep := ⟨.not (.t 6), (some 7), none, []⟩ :: ⟨.mov (.t 7), (some 8), none, []⟩ :: L34_2
theorem v34_3 : VS L34_3.eq_1 := rfl
def L34_4 : List AStep := ⟨.mov (.t 0), (some 5), none, []⟩ :: ⟨.call 72 [(.t 5)], (some 6), none, []⟩ :: L34_3
theorem v34_4 : VS L34_4.eq_1 := rfl
def L34_5 : List AStep := [⟨.mov (.c (.sl none 0 (some 0))), (some 4), none, []⟩]
theorem v34_5 : VS L34_5.eq_1 := rfl
def L34_6 : List AStep := [⟨.call 74 [(.t 13), (.t 14)], (some 15), none, []⟩, ⟨.mov (.t 15), (some 4), none, []⟩]
theorem v34_6 : VS L34_6.eq_1 := rfl
def L34_7 : List AStep := ⟨.mov (.t 0), (some 13), none, []⟩ :: ⟨.load 2 true (.t 3), (some 14), none, []⟩ :: L34_6
theorem v34_7 : VS L34_7.eq_1 := rfl
def C34_0 : ACode := .seq (.reg L34_5) .ret
theorem u34_0 : VC C34_0.eq_1 := rfl
def C34_1 : ACode := .cond (.t 12) C34_0 .skip
theorem u34_1 : VC C34_1.eq_1 := rfl
def C34_2 : ACode := .seq (.reg L34_4) C34_1
theorem u34_2 : VC C34_2.eq_1 := rfl
def C34_3 : ACode := .seq (.reg L34_7) .ret
theorem u34_3 : VC C34_3.eq_1 := rfl
def C34_4 : ACode := .seq C34_2 C34_3
theorem u34_4 : VC C34_4.eq_1 := rfl
def C34_5 : ACode := .seq (.reg L34_0) C34_4
theorem u34_5 : VC C34_5.eq_1 := rfl
def F34 : AFunc := ⟨16, [.tmp 4], C34_5⟩
theorem cF34 : compB Try.prog 34 = some F34 := by kernel_rfl
attribute [local go_sem ↓] u34_0 u34_1 u34_2 u34_3 u34_4 u34_5 v34_0 v34_1 v34_2 v34_3 v34_4 v34_5 v34_6 v34_7
theorem k_sAllOf (l : List Sg) (f : Flat) (v p n : CV) (h : H) (hl : SlV h v l) (hf : SlF h p n f) (m : miniV l) (hm : miniF f) : callK (bm Try.prog 34 [.one v, .agg [p, n]] h) fun r h' => Grow h h' ∧ ∃ w, r = .one w ∧ NwJ h h' w (allF l f) := by
  refine bm_of cF34 ?_
  have vs := c_validSet l v h hl m
  have vf := c_validFlat f p n h hf.pl hf.nl hm.sm
  unfold allF
  cases b1 : overl l with
  | false =>
    rw [b1] at vs
    simp +contextual (maxSteps := 2000000) only [go_sem, Nat.reduceEqDiff, reduceCtorEq, Nat.reduceAdd, Nat.reduceLeDiff, F34, vs, Bool.false_and, if_false]
    exact ⟨Grow.refl h, _, rfl, ⟨.nil⟩⟩
  | true =>
  rw [b1] at vs
  cases b2 : okFlat f with
  | false =>
    rw [b2] at vf
    simp +contextual (maxSteps := 2000000) only [go_sem, Nat.reduceEqDiff, reduceCtorEq, Nat.reduceAdd, Nat.reduceLeDiff, F34, vs, vf, Bool.true_and, if_false]
    exact ⟨Grow.refl h, _, rfl, ⟨.nil⟩⟩
  | true =>
    rw [b2] at vf
    simp +contextual (maxSteps := 2000000) only [go_sem, Nat.reduceEqDiff, reduceCtorEq, Nat.reduceAdd, Nat.reduceLeDiff, F34, vs, vf, Bool.true_and, if_true]
    refine wp_call (c_accepted l f v p n h hl hf b1 b2) ?_
    rintro r h1 ⟨g1, w, rfl, z⟩
    simp +contextual (maxSteps := 2000000) only [go_sem, Nat.reduceEqDiff, reduceCtorEq, Nat.reduceAdd, Nat.reduceLeDiff]
    exact gcK_of ⟨g1, _, rfl, ⟨z⟩⟩ (fun hs _ => ⟨Grow.refl h, _, rfl, ⟨z.scalar hs h⟩⟩)
/-! slices.IndexFunc(()impl.Signature,impl.Signature) -/
def L128_0 : List AStep := [⟨.mov (.c (.int .i64 0)), (some 4), none, []⟩]
theorem v128_0 : VS L128_0.eq_1 := rfl
def L128_1 : List AStep := [⟨.mov (.c (.int .i64 0)), (some 8), none, []⟩]
theorem v128_1 : VS L128_1.eq_1 := rfl
def L128_2 : List AStep := ⟨.mov (.t 0), (some 6), none, []⟩ :: ⟨.len (.t 6), (some 7), none, []⟩ :: L128_1
theorem v128_2 : VS L128_2.eq_1 := rfl
def L128_3 : List AStep := [⟨.bin .lss (.t 8) (.t 7), (some 9), none, []⟩]
theorem v128_3 : VS L128_3.eq_1 := rfl
def L128_4 : List AStep := [⟨.mov (.t 8), (some 10), none, []⟩, ⟨.mov (.t 10), (some 5), none, []⟩]
theorem v128_4 : VS L128_4.eq_1 := rfl
def L128_5 : List AStep := [⟨.load 1 true (.t 14), (some 15), none, []⟩, ⟨.callv (.t 11) [(.t 15)], (some 16), none, []⟩]
theorem v128_5 : VS L128_5.eq_1 := rfl
def L128_6 : List AStep := ⟨.mov (.t 5), (some 13), none, []⟩ :: ⟨.iaddr 1 (.t 12) (.t 13), (some 14), none, []⟩ :: L128_5
theorem v128_6 : VS L128_6.eq_1 := rfl
def L128_7 : List AStep := ⟨.mov (.t 1), (some 11), none, []⟩ :: ⟨.mov (.t 0), (some 12), none, []⟩ :: L128_6
theorem v128_7 : VS L128_7.eq_1 := rfl
def L128_8 : List AStep := [⟨.mov (.t 5), (some 17), none, []⟩, ⟨.mov (.t 17), (some 4), none, []⟩]
theorem v128_8 : VS L128_8.eq_1 := rfl
def L128_9 : List AStep := [⟨.bin .add (.t 8) (.c (.int .i64 1)), (some 18), none, []⟩, ⟨.mov (.t 18), (some 8), none, []⟩]
theorem v128_9 : VS L128_9.eq_1 := rfl
def L128_10 : List AStep := [⟨.mov (.c (.int .i64 (-1))), (some 4), none, []⟩]
theorem v128_10 : VS L128_10.eq_1 := rfl
def C128_0 : ACode := .cond (.t 9) .skip (.exit 0)
theorem u128_0 : VC C128_0.eq_1 := rfl
def C128_1 : ACode := .seq (.reg L128_8) .ret
theorem u128_1 : VC C128_1.eq_1 := rfl
def C128_2 : ACode := .cond (.t 16) C128_1 .skip
theorem u128_2 : VC C128_2.eq_1 := rfl
def C128_3 : ACode := .seq (.reg L128_7) C128_2
theorem u128_3 : VC C128_3.eq_1 := rfl
def C128_4 : ACode := .seq (.reg L128_4) C128_3
theorem u128_4 : VC C128_4.eq_1 := rfl
def C128_5 : ACode := .block 1 C128_4
theorem u128_5 : VC C128_5.eq_1 := rfl
def C128_6 : ACode := .seq C128_5 (.reg L128_9)
theorem u128_6 : VC C128_6.eq_1 := rfl
def C128_7 : ACode := .seq C128_0 C128_6
theorem u128_7 : VC C128_7.eq_1 := rfl
def C128_8 : ACode := .seq (.reg L128_3) C128_7
theorem u128_8 : VC C128_8.eq_1 := rfl
def C128_9 : ACode := .block 0 (.loop C128_8)
theorem u128_9 : VC C128_9.eq_1 := rfl
def C128_10 : ACode := .seq (.reg L128_2) C128_9
theorem u128_10 : VC C128_10.eq_1 := rfl
def C128_11 : ACode := .seq (.reg L128_10) .ret
theorem u128_11 : VC C128_11.eq_1 := rfl
def C128_12 : ACode := .seq C128_10 C128_11
theorem u128_12 : VC C128_12.eq_1 := rfl
def C128_13 : ACode := .seq (.reg L128_0) C128_12
theorem u128_13 : VC C128_13.eq_1 := rfl
def F128 : AFunc := ⟨19, [.tmp 4], C128_13⟩
theorem cF128 : compB Try.prog 128 = some F128 := by kernel_rfl
attribute [local go_sem ↓] u128_0 u128_1 u128_2 u128_3 u128_4 u128_5 u128_6 u128_7 u128_8 u128_9 u128_10 u128_11 u128_12 u128_13 v128_0 v128_1 v128_2 v128_3 v128_4 v128_5 v128_6 v128_7 v128_8 v128_9 v128_10
theorem c_indexV (l : List Sg) (v : CV) (rs : List RSg) (f : Nat) (p : Sg → Bool) (h : H) (y : RdV 36 81 h v rs l.length (getV l)) (hn : l.length ≤ big) (hf : ∀ i (hi : i < l.length) (hr : i < rs.length), bm Try.prog f [.agg (encV rs[i])] h = some (ib (p l[i]), h)) :
    bm Try.prog 128 [.one v, .one (.fn f [])] h = some (ii (idx p l), h) := by
  refine bm_eq cF128 ?_
  have yl : lenO (.one v) = some (ii l.length) := by rw [y.out.len, y.len]
  simp +contextual (maxSteps := 2000000) only [go_sem, Nat.reduceEqDiff, reduceCtorEq, Nat.reduceAdd, Nat.reduceLeDiff, F128, yl]
  refine wpC_loop (fun i T L h' => h' = h ∧ T 0 = .v (.one v) ∧ T 1 = .v (.one (.fn f [])) ∧ T 7 = .v (.one (.int .i64 l.length)) ∧ T 8 = .v (.one (.int .i64 i)) ∧ Pre p false l i) l.length ?_ ?_ (Nat.zero_le _) ?_
  · rintro i T L h' hi ⟨rfl, h0, h1, h7, h8, hp⟩
    have hr : i < rs.length := by rw [y.len]; exact hi
    cases b1 : p l[i] with
    | true =>
      have e := hf i hi hr
      rw [b1] at e
      simp +contextual (maxSteps := 2000000) only [go_sem, Nat.reduceEqDiff, reduceCtorEq, Nat.reduceAdd, Nat.reduceLeDiff, h0, h1, h7, h8, y.out.iaddr hr, y.out.whole hr, e, lt_true hi]
      rw [idx_hit hi hp b1]
    | false =>
      have e := hf i hi hr
      rw [b1] at e
      simp +contextual (maxSteps := 2000000) only [go_sem, Nat.reduceEqDiff, reduceCtorEq, Nat.reduceAdd, Nat.reduceLeDiff, h0, h1, h7, h8, y.out.iaddr hr, y.out.whole hr, e, lt_true hi]
      exact ⟨by rw [wrap_next hi (big_lt hn)], hp.next hi b1⟩
  · rintro T L h' ⟨rfl, h0, h1, h7, h8, hp⟩
    simp +contextual (maxSteps := 2000000) only [go_sem, Nat.reduceEqDiff, reduceCtorEq, Nat.reduceAdd, Nat.reduceLeDiff, h0, h1, h7, h8, lt_false, idx_none hp]
  · simp +contextual (maxSteps := 2000000) only [go_sem, Nat.reduceEqDiff, reduceCtorEq, Nat.reduceAdd, Nat.reduceLeDiff]
    (repeat' (first | refine And.intro ?_ ?_ | intro _)) <;> first | rfl | exact Pre.zero
/-! slices.ContainsFunc(()impl.Signature,impl.Signature) -/
def L105_0 : List AStep := [⟨.mov (.c (.bool false)), (some 4), none, []⟩]
theorem v105_0 : VS L105_0.eq_1 := rfl
def L105_1 : List AStep := [⟨.mov (.t 8), (some 4), none, []⟩]
theorem v105_1 : VS L105_1.eq_1 := rfl
def L105_2 : List AStep := ⟨.call 128 [(.t 5), (.t 6)], (some 7), none, []⟩ :: ⟨.bin .geq (.t 7) (.c (.int .i64 0)), (some 8), none, []⟩ :: L105_1
theorem v105_2 : VS L105_2.eq_1 := rfl
def L105_3 : List AStep := ⟨.mov (.t 0), (some 5), none, []⟩ :: ⟨.mov (.t 1), (some 6), none, []⟩ :: L105_2
theorem v105_3 : VS L105_3.eq_1 := rfl
def C105_0 : ACode := .seq (.reg L105_3) .ret
theorem u105_0 : VC C105_0.eq_1 := rfl
def C105_1 : ACode := .seq (.reg L105_0) C105_0
theorem u105_1 : VC C105_1.eq_1 := rfl
def F105 : AFunc := ⟨9, [.tmp 4], C105_1⟩
theorem cF105 : compB Try.prog 105 = some F105 := by kernel_rfl
attribute [local go_sem ↓] u105_0 u105_1 v105_0 v105_1 v105_2 v105_3
theorem c_hasV (l : List Sg) (v : CV) (rs : List RSg) (f : Nat) (p : Sg → Bool) (h : H) (y : RdV 36 81 h v rs l.length (getV l)) (hn : l.length ≤ big) (hf : ∀ i (hi : i < l.length) (hr : i < rs.length), bm Try.prog f [.agg (encV rs[i])] h = some (ib (p l[i]), h)) :
    bm Try.prog 105 [.one v, .one (.fn f [])] h = some (ib (l.any p), h) := by
  refine bm_eq cF105 ?_
  have e := idx_any (p := p) (l := l)
  simp +contextual (maxSteps := 2000000) only [go_sem, Nat.reduceEqDiff, reduceCtorEq, Nat.reduceAdd, Nat.reduceLeDiff, F105, c_indexV l v rs f p h y hn hf, e]
/-! impl.overloads$1 -/
def L106_0 : List AStep := [⟨.box 36 (.t 0), (some 1), none, []⟩, ⟨.mov (.c (.bool false)), (some 2), none, []⟩]
theorem v106_0 : VS L106_0.eq_1 := rfl
def L106_1 : List AStep := [⟨.not (.t 4), (some 5), none, []⟩, ⟨.mov (.t 5), (some 2), none, []⟩]
theorem v106_1 : VS L106_1.eq_1 := rfl
def L106_2 : List AStep := ⟨.load 1 true (.t 1), (some 3), none, []⟩ :: ⟨.call 95 [(.t 3)], (some 4), none, []⟩ :: L106_1
theorem v106_2 : VS L106_2.eq_1 := rfl
def C106_0 : ACode := .seq (.reg L106_2) .ret
theorem u106_0 : VC C106_0.eq_1 := rfl
def C106_1 : ACode := .seq (.reg L106_0) C106_0
theorem u106_1 : VC C106_1.eq_1 := rfl
def F106 : AFunc := ⟨6, [.tmp 2], C106_1⟩
theorem cF106 : compB Try.prog 106 = some F106 := by kernel_rfl
attribute [local go_sem ↓] u106_0 u106_1 v106_0 v106_1 v106_2
theorem c_overloads1 (r : RSg) (a : Sg) (h : H) (y : Sl encQ 4 81 h (.one r.qv) a.params) (m : miniG a.params) : bm Try.prog 106 [.agg (encV r)] h = some (ib (!(okSig a.params)), h) := by
  refine bm_eq cF106 ?_
  have e := c_ValidSignature a.params r.qv h y m.sm
  simp +contextual (maxSteps := 2000000) only [go_sem, Nat.reduceEqDiff, reduceCtorEq, Nat.reduceAdd, Nat.reduceLeDiff, F106, encV, e]
/-! impl.overloads -/
def L75_0 : List AStep := [⟨.mov (.c (.bool false)), (some 2), none, []⟩]
theorem v75_0 : VS L75_0.eq_1 := rfl
def L75_1 : List AStep := [⟨.mov (.t 10), (some 2), none, []⟩]
theorem v75_1 : VS L75_1.eq_1 := rfl
def L75_2 : List AStep := ⟨.not (.t 8), (some 9), (some (6, true)), []⟩ :: ⟨.pick (.t 6) (.t 9) (.c (.bool false)), (some 10), none, []⟩ :: L75_1
theorem v75_2 : VS L75_2.eq_1 := rfl
def L75_3 : List AStep := ⟨.mov (.t 0), (some 7), (some (6, true)), []⟩ :: ⟨.call 105 [(.t 7), (.c (.fn 106 []))], (some 8), (some (6, true)), []⟩ :: L75_2
theorem v75_3 : VS L75_3.eq_1 := rfl
def L75_4 : List AStep := ⟨.bin .leq (.t 4) (.c (.int .i64 5)), (some 5), none, []⟩ :: ⟨.mov (.t 5), (some 6), none, []⟩ :: L75_3
theorem v75_4 : VS L75_4.eq_1 := rfl
def L75_5 : List AStep := ⟨.mov (.t 0), (some 3), none, []⟩ :: ⟨.len (.t 3), (some 4), none, []⟩ :: L75_4
theorem v75_5 : VS L75_5.eq_1 := rfl
def C75_0 : ACode := .seq (.reg L75_5) .ret
theorem u75_0 : VC C75_0.eq_1 := rfl
def C75_1 : ACode := .seq (.reg L75_0) C75_0
theorem u75_1 : VC C75_1.eq_1 := rfl
def F75 : AFunc := ⟨11, [.tmp 2], C75_1⟩
theorem cF75 : compB Try.prog 75 = some F75 := by kernel_rfl
attribute [local go_sem ↓] u75_0 u75_1 v75_0 v75_1 v75_2 v75_3 v75_4 v75_5
theorem c_overloads (l : List Sg) (p : CV) (h : H) (hl : SlV h p l) (m : miniV l) : bm Try.prog 75 [.one p] h = some (ib (overl l), h) := by
  refine bm_eq cF75 ?_
  obtain ⟨rs, y⟩ := hl.ex
  have yl : lenO (.one p) = some (ii l.length) := by rw [y.out.len, y.len]
  have e := c_hasV l p rs 106 (fun s => !(okSig s.params)) h y (Nat.le_trans m.len (by decide)) (fun i hi hr => by
    have ye := y.el i hr
    rw [getV_eq hi] at ye
    exact c_overloads1 rs[i] l[i] h ye.params (m.at hi))
  rw [show l.any (fun s => !(okSig s.params)) = !(l.all fun s => okSig s.params) by rw [← List.not_all_eq_any_not]] at e
  unfold overl
  cases b1 : decide ((l.length : Int) ≤ 5) with
  | false => simp +contextual (maxSteps := 2000000) only [go_sem, Nat.reduceEqDiff, reduceCtorEq, Nat.reduceAdd, Nat.reduceLeDiff, F75, yl, b1, Bool.and_false]
  | true => simp +contextual (maxSteps := 2000000) only [go_sem, Nat.reduceEqDiff, reduceCtorEq, Nat.reduceAdd, Nat.reduceLeDiff, F75, yl, b1, e, Bool.and_true, Bool.not_not]
/-! impl.AllOf -/
def L36_0 : List AStep := [⟨.box 39 (.t 1), (some 3), none, []⟩, ⟨.mov (.c (.sl none 0 (some 0))), (some 4), none, []⟩]
theorem v36_0 : VS L36_0.eq_1 := rfl
def L36_1 : List AStep := [⟨.not (.t 13), (some 14), (some (11, false)), []⟩, ⟨.pick (.t 11) (.c (.bool true)) (.t 14), (some 15), none, []⟩]
theorem v36_1 : VS L36_1.eq_1 := rfl
def L36_2 : List AStep := ⟨.load 2 true (.t 3), (some 12), (some (11, false)), []⟩ :: ⟨.call 76 [(.t 12)], (some 13), (some (11, false)), []⟩ :: L36_1
theorem v36_2 : VS L36_2.eq_1 := rfl
def L36_3 : List AStep := ⟨.not (.t 9), (some 10), none, []⟩ :: ⟨.mov (.t 10), (some 11), none, []⟩ :: L36_2
theorem v36_3 : VS L36_3.eq_1 := rfl
def L36_4 : List AStep := ⟨.mov (.t 0), (some 8), none, []⟩ :: ⟨.call 75 [(.t 8)], (some 9), none, []⟩ :: L36_3
theorem v36_4 : VS L36_4.eq_1 := rfl
def L36_5 : List AStep := [⟨.mov (.c (.sl none 0 (some 0))), (some 4), none, []⟩]
theorem v36_5 : VS L36_5.eq_1 := rfl
def L36_6 : List AStep := [⟨.mov (.c (.sl none 0 (some 0))), (some 5), none, []⟩]
theorem v36_6 : VS L36_6.eq_1 := rfl
def L36_7 : List AStep := [⟨.mov (.c (.int .i64 0)), (some 18), none, []⟩]
theorem v36_7 : VS L36_7.eq_1 := rfl
def L36_8 : List AStep := ⟨.mov (.t 0), (some 16), none, []⟩ :: ⟨.len (.t 16), (some 17), none, []⟩ :: L36_7
theorem v36_8 : VS L36_8.eq_1 := rfl
def L36_9 : List AStep := [⟨.bin .lss (.t 18) (.t 17), (some 19), none, []⟩]
theorem v36_9 : VS L36_9.eq_1 := rfl
def L36_10 : List AStep := [⟨.mov (.t 20), (some 6), none, []⟩, ⟨.store 1 (.t 7) (.t 22), none, none, []⟩]
theorem v36_10 : VS L36_10.eq_1 := rfl
def L36_11 : List AStep := ⟨.load 1 true (.t 21), (some 22), none, []⟩ :: ⟨.alloc 36 [(.sl none 0 (some 0))], (some 7), none, []⟩ :: L36_10
theorem v36_11 : VS L36_11.eq_1 := rfl
def L36_12 : List AStep := ⟨.mov (.t 18), (some 20), none, []⟩ :: ⟨.iaddr 1 (.t 16) (.t 18), (some 21), none, []⟩ :: L36_11
theorem v36_12 : VS L36_12.eq_1 := rfl
def L36_13 : List AStep := [⟨.call 71 [(.t 23), (.t 24)], (some 25), none, []⟩]
theorem v36_13 : VS L36_13.eq_1 := rfl
def L36_14 : List AStep := ⟨.load 1 true (.t 7), (some 23), none, []⟩ :: ⟨.load 2 true (.t 3), (some 24), none, []⟩ :: L36_13
theorem v36_14 : VS L36_14.eq_1 := rfl
def L36_15 : List AStep := [⟨.mov (.t 29), (some 5), none, []⟩]
theorem v36_15 : VS L36_15.eq_1 := rfl
def L36_16 : List AStep := ⟨.buildSlice 3 1 [(.int .i64 0)] [(0, 1, (.t 27))], (some 28), none, []⟩ :: ⟨.append 3 1 8 (.t 26) (.t 28), (some 29), none, []⟩ :: L36_15
theorem v36_16 : VS L36_16.eq_1 := rfl
def L36_17 : List AStep := ⟨.mov (.t 5), (some 26), none, []⟩ :: ⟨.mov (.t 6), (some 27), none, []⟩ :: L36_16
theorem v36_17 : VS L36_17.eq_1 := rfl
def L36_18 : List AStep := [⟨.bin .add (.t 18) (.c (.int .i64 1)), (some 30), none, []⟩, ⟨.mov (.t 30), (some 18), none, []⟩]
theorem v36_18 : VS L36_18.eq_1 := rfl
def L36_19 : List AStep := [⟨.mov (.t 32), (some 4), none, []⟩]
theorem v36_19 : VS L36_19.eq_1 := rfl
def L36_20 : List AStep := ⟨.mov (.t 5), (some 31), none, []⟩ :: ⟨.call 77 [(.t 31)], (some 32), none, []⟩ :: L36_19
theorem v36_20 : VS L36_20.eq_1 := rfl
def C36_0 : ACode := .seq (.reg L36_5) .ret
theorem u36_0 : VC C36_0.eq_1 := rfl
def C36_1 : ACode := .cond (.t 15) C36_0 .skip
theorem u36_1 : VC C36_1.eq_1 := rfl
def C36_2 : ACode := .seq (.reg L36_4) C36_1
theorem u36_2 : VC C36_2.eq_1 := rfl
def C36_3 : ACode := .cond (.t 19) .skip (.exit 0)
theorem u36_3 : VC C36_3.eq_1 := rfl
def C36_4 : ACode := .cond (.t 25) (.reg L36_17) .skip
theorem u36_4 : VC C36_4.eq_1 := rfl
def C36_5 : ACode := .seq (.reg L36_14) C36_4
theorem u36_5 : VC C36_5.eq_1 := rfl
def C36_6 : ACode := .seq (.reg L36_12) C36_5
theorem u36_6 : VC C36_6.eq_1 := rfl
def C36_7 : ACode := .block 1 C36_6
theorem u36_7 : VC C36_7.eq_1 := rfl
def C36_8 : ACode := .seq C36_7 (.reg L36_18)
theorem u36_8 : VC C36_8.eq_1 := rfl
def C36_9 : ACode := .seq C36_3 C36_8
theorem u36_9 : VC C36_9.eq_1 := rfl
def C36_10 : ACode := .seq (.reg L36_9) C36_9
theorem u36_10 : VC C36_10.eq_1 := rfl
def C36_11 : ACode := .block 0 (.loop C36_10)
theorem u36_11 : VC C36_11.eq_1 := rfl
def C36_12 : ACode := .seq (.reg L36_8) C36_11
theorem u36_12 : VC C36_12.eq_1 := rfl
def C36_13 : ACode := .seq (.reg L36_20) .ret
theorem u36_13 : VC C36_13.eq_1 := rfl
def C36_14 : ACode := .seq C36_12 C36_13
theorem u36_14 : VC C36_14.eq_1 := rfl
def C36_15 : ACode := .seq (.reg L36_6) C36_14
theorem u36_15 : VC C36_15.eq_1 := rfl
def C36_16 : ACode := .seq C36_2 C36_15
theorem u36_16 : VC C36_16.eq_1 := rfl
def C36_17 : ACode := .seq (.reg L36_0) C36_16
theorem u36_17 : VC C36_17.eq_1 := rfl
def F36 : AFunc := ⟨33, [.tmp 4], C36_17⟩
theorem cF36 : compB Try.prog 36 = some F36 := by kernel_rfl
attribute [local go_sem ↓] u36_0 u36_1 u36_2 u36_3 u36_4 u36_5 u36_6 u36_7 u36_8 u36_9 u36_10 u36_11 u36_12 u36_13 u36_14 u36_15 u36_16 u36_17 v36_0 v36_1 v36_2 v36_3 v36_4 v36_5 v36_6 v36_7 v36_8 v36_9 v36_10 v36_11 v36_12 v36_13 v36_14 v36_15 v36_16 v36_17 v36_18 v36_19 v36_20
theorem k_iAllOf (l : List Sg) (f : Flat) (v p n : CV) (h : H) (hl : SlV h v l) (hf : SlF h p n f) (m : miniV l) (hm : miniF f) : callK (bm Try.prog 36 [.one v, .agg [p, n]] h) fun r h' => Grow h h' ∧ ∃ w, r = .one w ∧ NwJ h h' w (allF l f) := by
  refine bm_of cF36 ?_
  have vs := c_overloads l v h hl m
  have vf := c_ValidFlat f p n h hf.pl hf.nl hm.sm
  unfold allF
  cases b1 : overl l with
  | false =>
    rw [b1] at vs
    simp +contextual (maxSteps := 2000000) only [go_sem, Nat.reduceEqDiff, reduceCtorEq, Nat.reduceAdd, Nat.reduceLeDiff, F36, vs, Bool.false_and, if_false]
    exact ⟨Grow.refl h, _, rfl, ⟨.nil⟩⟩
  | true =>
  rw [b1] at vs
  cases b2 : okFlat f with
  | false =>
    rw [b2] at vf
    simp +contextual (maxSteps := 2000000) only [go_sem, Nat.reduceEqDiff, reduceCtorEq, Nat.reduceAdd, Nat.reduceLeDiff, F36, vs, vf, Bool.true_and, if_false]
    exact ⟨Grow.refl h, _, rfl, ⟨.nil⟩⟩
  | true =>
  rw [b2] at vf
  obtain ⟨rs, y0⟩ := hl.ex
  obtain ⟨hn, oks⟩ := overl_at b1
  have yl : lenO (.one v) = some (ii l.length) := by rw [y0.out.len, y0.len]
  simp +contextual (maxSteps := 2000000) only [go_sem, Nat.reduceEqDiff, reduceCtorEq, Nat.reduceAdd, Nat.reduceLeDiff, F36, vs, vf, Bool.true_and, if_true, yl]
  refine wpC_loop (fun i T L h' => Grow h h' ∧ T 3 = .lp 3 0 ∧ (L 3).2 = [p, n] ∧ (∃ w, T 5 = .v (.one w) ∧ NwI h h' (.one w) (allT l f i)) ∧ T 16 = .v (.one v) ∧ T 17 = .v (.one (.int .i64 l.length)) ∧ T 18 = .v (.one (.int .i64 i))) l.length ?_ ?_ (Nat.zero_le _) ?_
  · rintro i T L h' hi ⟨g, t3, l3, ⟨w, t5, z⟩, t16, t17, t18⟩
    have y := y0.grow g
    have k := hf.grow g
    have hr : i < rs.length := by rw [y.len]; exact hi
    have ye := y.el i hr
    rw [getV_eq hi] at ye
    have ac := k_iAccepts l[i].params f rs[i].qv p n h' ⟨ye.params⟩ k (m.at hi) hm
    have pn := pickF_next (t := accAt l f) (nm := fun j => (j : Int)) (i := i)
    have pl := pickF_len (t := accAt l f) (nm := fun j => (j : Int)) (i := i)
    rw [← accAt_eq hi] at ac
    cases b1 : accAt l f i with
    | false =>
      rw [b1] at ac pn
      rw [if_neg (by simp), List.append_nil] at pn
      simp +contextual (maxSteps := 2000000) only [go_sem, Nat.reduceEqDiff, reduceCtorEq, Nat.reduceAdd, Nat.reduceLeDiff, t3, l3, t5, t16, t17, t18, lt_true hi, y.out.iaddr hr, y.out.whole hr, encV, ac]
      exact ⟨g, ⟨w, rfl, by unfold allT; rw [pn]; exact z⟩, by rw [wrap_next hi (by omega)]⟩
    | true =>
      rw [b1] at ac pn
      rw [if_pos rfl] at pn
      simp +contextual (maxSteps := 2000000) only [go_sem, Nat.reduceEqDiff, reduceCtorEq, Nat.reduceAdd, Nat.reduceLeDiff, t3, l3, t5, t16, t17, t18, lt_true hi, y.out.iaddr hr, y.out.whole hr, encV, ac]
      refine wp_lit (enc := encI) (k := 1) (l := [(i : Int)]) rfl rfl ?_
      intro h3 w3 g3 n3 _
      simp +contextual (maxSteps := 2000000) only [go_sem, Nat.reduceEqDiff, reduceCtorEq, Nat.reduceAdd, Nat.reduceLeDiff, t3, l3, t5, t16, t17, t18]
      refine wp_append lenI (z.grow g3) (n3.sl lenI) (g.trans g3) (by unfold allT; simp; omega) ?_
      intro h4 s4 g4 n4 st4 hb4
      obtain ⟨c4, rfl⟩ := n4.one
      simp +contextual (maxSteps := 2000000) only [go_sem, Nat.reduceEqDiff, reduceCtorEq, Nat.reduceAdd, Nat.reduceLeDiff, t3, l3, t5, t16, t17, t18]
      exact ⟨g4, ⟨c4, rfl, by unfold allT; rw [pn]; exact n4⟩, by rw [wrap_next hi (by omega)]⟩
  · rintro T L h' ⟨g, t3, l3, ⟨w, t5, z⟩, t16, t17, t18⟩
    simp +contextual (maxSteps := 2000000) only [go_sem, Nat.reduceEqDiff, reduceCtorEq, Nat.reduceAdd, Nat.reduceLeDiff, t3, l3, t5, t16, t17, t18, lt_false]
    refine wp_call (c_clipI _ _ h' z) ?_
    rintro r h2 ⟨rfl, n2⟩
    obtain ⟨c, rfl⟩ := n2.one
    simp +contextual (maxSteps := 2000000) only [go_sem, Nat.reduceEqDiff, reduceCtorEq, Nat.reduceAdd, Nat.reduceLeDiff]
    exact gcK_of ⟨g, _, rfl, ⟨n2⟩⟩ (fun hs _ => ⟨Grow.refl h, _, rfl, ⟨n2.scalar (by simpa [AV.scalar] using hs) h⟩⟩)
  · simp +contextual (maxSteps := 2000000) only [go_sem, Nat.reduceEqDiff, reduceCtorEq, Nat.reduceAdd, Nat.reduceLeDiff]
    exact ⟨Grow.refl h, ⟨_, rfl, .nil⟩, rfl⟩
theorem head_nat {l : List Int} {d : Int} (h : 0 < l.length) : l[0] = l.headD d := by
  match l, h with
  | a :: r, _ => rfl
/-! spec.FirstOf -/
def L42_0 : List AStep := [⟨.box 39 (.t 1), (some 3), none, []⟩, ⟨.mov (.c (.int .i64 0)), (some 4), none, []⟩]
theorem v42_0 : VS L42_0.eq_1 := rfl
def L42_1 : List AStep := [⟨.not (.t 11), (some 12), (some (9, false)), []⟩, ⟨.pick (.t 9) (.c (.bool true)) (.t 12), (some 13), none, []⟩]
theorem v42_1 : VS L42_1.eq_1 := rfl
def L42_2 : List AStep := ⟨.load 2 true (.t 3), (some 10), (some (9, false)), []⟩ :: ⟨.call 73 [(.t 10)], (some 11), (some (9, false)), []⟩ :: L42_1
theorem v42_2 : VS L42_2.eq_1 := rfl
def L42_3 : List AStep := ⟨.not (.t 7), (some 8), none, []⟩ :: ⟨.mov (.t 8), (some 9), none, []⟩ :: L42_2
theorem v42_3 : VS L42_3.eq_1 := rfl
def L42_4 : List AStep := ⟨.mov (.t 0), (some 6), none, []⟩ :: ⟨.call 72 [(.t 6)], (some 7), none, []⟩ :: L42_3
theorem v42_4 : VS L42_4.eq_1 := rfl
def L42_5 : List AStep := [⟨.mov (.c (.int .i64 (-2))), (some 4), none, []⟩]
theorem v42_5 : VS L42_5.eq_1 := rfl
def L42_6 : List AStep := [⟨.call 74 [(.t 14), (.t 15)], (some 16), none, []⟩, ⟨.mov (.t 16), (some 5), none, []⟩]
theorem v42_6 : VS L42_6.eq_1 := rfl
def L42_7 : List AStep := ⟨.mov (.t 0), (some 14), none, []⟩ :: ⟨.load 2 true (.t 3), (some 15), none, []⟩ :: L42_6
theorem v42_7 : VS L42_7.eq_1 := rfl
def L42_8 : List AStep := [⟨.bin .eql (.t 18) (.c (.int .i64 0)), (some 19), none, []⟩]
theorem v42_8 : VS L42_8.eq_1 := rfl
def L42_9 : List AStep := ⟨.mov (.t 5), (some 17), none, []⟩ :: ⟨.len (.t 17), (some 18), none, []⟩ :: L42_8
theorem v42_9 : VS L42_9.eq_1 := rfl
def L42_10 : List AStep := [⟨.mov (.c (.int .i64 (-1))), (some 4), none, []⟩]
theorem v42_10 : VS L42_10.eq_1 := rfl
def L42_11 : List AStep := [⟨.load 1 false (.t 21), (some 22), none, []⟩, ⟨.mov (.t 22), (some 4), none, []⟩]
theorem v42_11 : VS L42_11.eq_1 := rfl
def L42_12 : List AStep := ⟨.mov (.t 5), (some 20), none, []⟩ :: ⟨.iaddr 1 (.t 20) (.c (.int .i64 0)), (some 21), none, []⟩ :: L42_11
theorem v42_12 : VS L42_12.eq_1 := rfl
def C42_0 : ACode := .seq (.reg L42_5) .ret
theorem u42_0 : VC C42_0.eq_1 := rfl
def C42_1 : ACode := .cond (.t 13) C42_0 .skip
theorem u42_1 : VC C42_1.eq_1 := rfl
def C42_2 : ACode := .seq (.reg L42_4) C42_1
theorem u42_2 : VC C42_2.eq_1 := rfl
def C42_3 : ACode := .seq (.reg L42_10) .ret
theorem u42_3 : VC C42_3.eq_1 := rfl
def C42_4 : ACode := .cond (.t 19) C42_3 .skip
theorem u42_4 : VC C42_4.eq_1 := rfl
def C42_5 : ACode := .seq (.reg L42_9) C42_4
theorem u42_5 : VC C42_5.eq_1 := rfl
def C42_6 : ACode := .seq (.reg L42_12) .ret
theorem u42_6 : VC C42_6.eq_1 := rfl
def C42_7 : ACode := .seq C42_5 C42_6
theorem u42_7 : VC C42_7.eq_1 := rfl
def C42_8 : ACode := .seq (.reg L42_7) C42_7
theorem u42_8 : VC C42_8.eq_1 := rfl
def C42_9 : ACode := .seq C42_2 C42_8
theorem u42_9 : VC C42_9.eq_1 := rfl
def C42_10 : ACode := .seq (.reg L42_0) C42_9
theorem u42_10 : VC C42_10.eq_1 := rfl
def F42 : AFunc := ⟨23, [.tmp 4], C42_10⟩
theorem cF42 : compB Try.prog 42 = some F42 := by kernel_rfl
attribute [local go_sem ↓] u42_0 u42_1 u42_2 u42_3 u42_4 u42_5 u42_6 u42_7 u42_8 u42_9 u42_10 v42_0 v42_1 v42_2 v42_3 v42_4 v42_5 v42_6 v42_7 v42_8 v42_9 v42_10 v42_11 v42_12
theorem k_sFirstOf (l : List Sg) (f : Flat) (v p n : CV) (h : H) (hl : SlV h v l) (hf : SlF h p n f) (m : miniV l) (hm : miniF f) : bm Try.prog 42 [.one v, .agg [p, n]] h = some (ii (firstF l f), h) := by
  refine bm_eq cF42 ?_
  have vs := c_validSet l v h hl m
  have vf := c_validFlat f p n h hf.pl hf.nl hm.sm
  unfold firstF
  cases b1 : overl l with
  | false =>
    rw [b1] at vs
    simp +contextual (maxSteps := 2000000) only [go_sem, Nat.reduceEqDiff, reduceCtorEq, Nat.reduceAdd, Nat.reduceLeDiff, F42, vs, Bool.false_and, if_false]
  | true =>
  rw [b1] at vs
  cases b2 : okFlat f with
  | false =>
    rw [b2] at vf
    simp +contextual (maxSteps := 2000000) only [go_sem, Nat.reduceEqDiff, reduceCtorEq, Nat.reduceAdd, Nat.reduceLeDiff, F42, vs, vf, Bool.true_and, if_false]
  | true =>
    rw [b2] at vf
    simp +contextual (maxSteps := 2000000) only [go_sem, Nat.reduceEqDiff, reduceCtorEq, Nat.reduceAdd, Nat.reduceLeDiff, F42, vs, vf, Bool.true_and, if_true]
    refine wp_call (c_accepted l f v p n h hl hf b1 b2) ?_
    rintro r h1 ⟨g1, w, rfl, z⟩
    have zs := z.sl lenI
    by_cases b3 : 0 < (allT l f l.length).length
    · have d3 : decide (((allT l f l.length).length : Int) = 0) = false := decide_eq_false (by omega)
      have zi : iaddrO 1 (.one w) (.one (.int .i64 0)) = some (.one (.ptr (some (elem 1 (.one w) 0)))) := zs.iaddr b3
      have zo : loadO 1 false h1 (.one (.ptr (some (elem 1 (.one w) 0)))) = some (.one (.int .i64 ((allT l f l.length).headD (-1)))) := by
        rw [zs.oneO b3, encI_0, head_nat b3]
        rfl
      simp +contextual (maxSteps := 2000000) only [go_sem, Nat.reduceEqDiff, reduceCtorEq, Nat.reduceAdd, Nat.reduceLeDiff, zs.len, d3, zi, zo]
      exact gcR_of g1 rfl ⟨rfl, rfl⟩
    · have e3 : allT l f l.length = [] := List.length_eq_zero_iff.1 (by omega)
      have d3 : decide (((allT l f l.length).length : Int) = 0) = true := by rw [e3]; rfl
      simp +contextual (maxSteps := 2000000) only [go_sem, Nat.reduceEqDiff, reduceCtorEq, Nat.reduceAdd, Nat.reduceLeDiff, zs.len, d3]
      rw [e3]
      exact gcR_of g1 rfl ⟨rfl, rfl⟩
/-! impl.FirstOf -/
def L43_0 : List AStep := [⟨.box 39 (.t 1), (some 3), none, []⟩, ⟨.mov (.c (.int .i64 0)), (some 4), none, []⟩]
theorem v43_0 : VS L43_0.eq_1 := rfl
def L43_1 : List AStep := [⟨.not (.t 11), (some 12), (some (9, false)), []⟩, ⟨.pick (.t 9) (.c (.bool true)) (.t 12), (some 13), none, []⟩]
theorem v43_1 : VS L43_1.eq_1 := rfl
def L43_2 : List AStep := ⟨.load 2 true (.t 3), (some 10), (some (9, false)), []⟩ :: ⟨.call 76 [(.t 10)], (some 11), (some (9, false)), []⟩ :: L43_1
theorem v43_2 : VS L43_2.eq_1 := rfl
def L43_3 : List AStep := ⟨.not (.t 7), (some 8), none, []⟩ :: ⟨.mov (.t 8), (some 9), none, []⟩ :: L43_2
theorem v43_3 : VS L43_3.eq_1 := rfl
def L43_4 : List AStep := ⟨.mov (.t 0), (some 6), none, []⟩ :: ⟨.call 75 [(.t 6)], (some 7), none, []⟩ :: L43_3
theorem v43_4 : VS L43_4.eq_1 := rfl
def L43_5 : List AStep := [⟨.mov (.c (.int .i64 (-2))), (some 4), none, []⟩]
theorem v43_5 : VS L43_5.eq_1 := rfl
def L43_6 : List AStep := [⟨.call 36 [(.t 14), (.t 15)], (some 16), none, []⟩, ⟨.mov (.t 16), (some 5), none, []⟩]
theorem v43_6 : VS L43_6.eq_1 := rfl
def L43_7 : List AStep := ⟨.mov (.t 0), (some 14), none, []⟩ :: ⟨.load 2 true (.t 3), (some 15), none, []⟩ :: L43_6
theorem v43_7 : VS L43_7.eq_1 := rfl
def L43_8 : List AStep := [⟨.bin .eql (.t 18) (.c (.int .i64 0)), (some 19), none, []⟩]
theorem v43_8 : VS L43_8.eq_1 := rfl
def L43_9 : List AStep := ⟨.mov (.t 5), (some 17), none, []⟩ :: ⟨.len (.t 17), (some 18), none, []⟩ :: L43_8
theorem v43_9 : VS L43_9.eq_1 := rfl
def L43_10 : List AStep := [⟨.mov (.c (.int .i64 (-1))), (some 4), none, []⟩]
theorem v43_10 : VS L43_10.eq_1 := rfl
def L43_11 : List AStep := [⟨.load 1 false (.t 21), (some 22), none, []⟩, ⟨.mov (.t 22), (some 4), none, []⟩]
theorem v43_11 : VS L43_11.eq_1 := rfl
def L43_12 : List AStep := ⟨.mov (.t 5), (some 20), none, []⟩ :: ⟨.iaddr 1 (.t 20) (.c (.int .i64 0)), (some 21), none, []⟩ :: L43_11
theorem v43_12 : VS L43_12.eq_1 := rfl
def C43_0 : ACode := .seq (.reg L43_5) .ret
theorem u43_0 : VC C43_0.eq_1 := rfl
def C43_1 : ACode := .cond (.t 13) C43_0 .skip
theorem u43_1 : VC C43_1.eq_1 := rfl
def C43_2 : ACode := .seq (.reg L43_4) C43_1
theorem u43_2 : VC C43_2.eq_1 := rfl
def C43_3 : ACode := .seq (.reg L43_10) .ret
theorem u43_3 : VC C43_3.eq_1 := rfl
def C43_4 : ACode := .cond (.t 19) C43_3 .skip
theorem u43_4 : VC C43_4.eq_1 := rfl
def C43_5 : ACode := .seq (.reg L43_9) C43_4
theorem u43_5 : VC C43_5.eq_1 := rfl
def C43_6 : ACode := .seq (.reg L43_12) .ret
theorem u43_6 : VC C43_6.eq_1 := rfl
def C43_7 : ACode := .seq C43_5 C43_6
theorem u43_7 : VC C43_7.eq_1 := rfl
def C43_8 : ACode := .seq (.reg L43_7) C43_7
theorem u43_8 : VC C43_8.eq_1 := rfl
def C43_9 : ACode := .seq C43_2 C43_8
theorem u43_9 : VC C43_9.eq_1 := rfl
def C43_10 : ACode := .seq (.reg L43_0) C43_9
theorem u43_10 : VC C43_10.eq_1 := rfl
def F43 : AFunc := ⟨23, [.tmp 4], C43_10⟩
theorem cF43 : compB Try.prog 43 = some F43 := by kernel_rfl
attribute [local go_sem ↓] u43_0 u43_1 u43_2 u43_3 u43_4 u43_5 u43_6 u43_7 u43_8 u43_9 u43_10 v43_0 v43_1 v43_2 v43_3 v43_4 v43_5 v43_6 v43_7 v43_8 v43_9 v43_10 v43_11 v43_12
theorem k_iFirstOf (l : List Sg) (f : Flat) (v p n : CV) (h : H) (hl : SlV h v l) (hf : SlF h p n f) (m : miniV l) (hm : miniF f) : bm Try.prog 43 [.one v, .agg [p, n]] h = some (ii (firstF l f), h) := by
  refine bm_eq cF43 ?_
  have vs := c_overloads l v h hl m
  have vf := c_ValidFlat f p n h hf.pl hf.nl hm.sm
  unfold firstF
  cases b1 : overl l with
  | false =>
    rw [b1] at vs
    simp +contextual (maxSteps := 2000000) only [go_sem, Nat.reduceEqDiff, reduceCtorEq, Nat.reduceAdd, Nat.reduceLeDiff, F43, vs, Bool.false_and, if_false]
  | true =>
  rw [b1] at vs
  cases b2 : okFlat f with
  | false =>
    rw [b2] at vf
    simp +contextual (maxSteps := 2000000) only [go_sem, Nat.reduceEqDiff, reduceCtorEq, Nat.reduceAdd, Nat.reduceLeDiff, F43, vs, vf, Bool.true_and, if_false]
  | true =>
    rw [b2] at vf
    simp +contextual (maxSteps := 2000000) only [go_sem, Nat.reduceEqDiff, reduceCtorEq, Nat.reduceAdd, Nat.reduceLeDiff, F43, vs, vf, Bool.true_and, if_true]
    refine wp_call (k_iAllOf l f v p n h hl hf m hm) ?_
    rintro r h1 ⟨g1, w, rfl, z⟩
    have zs := z.out.sl lenI
    unfold allF at zs
    rw [b1, b2, Bool.and_true, if_pos rfl] at zs
    by_cases b3 : 0 < (allT l f l.length).length
    · have d3 : decide (((allT l f l.length).length : Int) = 0) = false := decide_eq_false (by omega)
      have zi : iaddrO 1 (.one w) (.one (.int .i64 0)) = some (.one (.ptr (some (elem 1 (.one w) 0)))) := zs.iaddr b3
      have zo : loadO 1 false h1 (.one (.ptr (some (elem 1 (.one w) 0)))) = some (.one (.int .i64 ((allT l f l.length).headD (-1)))) := by
        rw [zs.oneO b3, encI_0, head_nat b3]
        rfl
      simp +contextual (maxSteps := 2000000) only [go_sem, Nat.reduceEqDiff, reduceCtorEq, Nat.reduceAdd, Nat.reduceLeDiff, zs.len, d3, zi, zo]
      exact gcR_of g1 rfl ⟨rfl, rfl⟩
    · have e3 : allT l f l.length = [] := List.length_eq_zero_iff.1 (by omega)
      have d3 : decide (((allT l f l.length).length : Int) = 0) = true := by rw [e3]; rfl
      simp +contextual (maxSteps := 2000000) only [go_sem, Nat.reduceEqDiff, reduceCtorEq, Nat.reduceAdd, Nat.reduceLeDiff, zs.len, d3]
      rw [e3]
      exact gcR_of g1 rfl ⟨rfl, rfl⟩
end Go.Proofs.Ytdalgphpacikkab.Am
