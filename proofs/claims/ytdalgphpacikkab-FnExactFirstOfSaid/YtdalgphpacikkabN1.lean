/- Contracts of the laws on lists whose elements hold slices: equal, marked, held. -/
import Derived.Test.YtdalgphpacikkabDN
import Derived.Test.YtdalgphpacikkabL1
import Derived.Test.YtdalgphpacikkabL3
namespace Go.Proofs.Ytdalgphpacikkab.Am
open Go
set_option maxRecDepth 100000
set_option maxHeartbeats 4000000
set_option linter.unusedSimpArgs false
set_option linter.unusedVariables false
attribute [local go_sem ↓] bv_t bv_c ev_t ev_c put_same put_ne put_none kill_at pro_at lb_same lb_ne start_zero start_succ wpC_seq wpC_reg wpC_cond wpC_block wpC_skip wpC_exit wpC_ret thenQ_normal thenQ_exit thenQ_ret inBlk_normal inBlk_exit inBlk_ret wpS_nil wpS_step wpS_again wpS_guard wpO_mov wpO_load wpO_faddr wpO_nilCheck wpO_pick wpO_build wpO_bin wpO_eqb wpO_eqst wpO_eqnil wpO_not wpO_conv wpO_bytesStr wpO_iaddr wpO_idxStr wpO_field wpO_extract wpO_len wpO_lenStr wpO_cap wpO_min wpO_slice wpO_sliceStr wpO_alloc wpO_box wpO_store wpO_call wpO_callv wpO_mkfn wpO_buildSlice wpO_mkslice wpO_append wpO_appz proA_nil proA_cons tmpX_nil tmpX_tmp tmpX_cell doneB_normal doneB_ret agK_cons agK_nil agK_guard agG_tt agG_ff agG_tf agG_ft agG_undef pureB_load results_one results_two results_nil resBs_cons resBs_nil resB_tmp resB_cell
attribute [local go_sem] kill_v kill_lp_ne kill_lp_same pro_v pro_lp_same pro_lp_ne av_v av_lp optB_some optX_some valX_eq ldX_lp ldX_v faX_lp faX_v ncX_lp ncX_ptr ncX_fn boxK_one boxK_agg stL_some stK_lp_one stK_lp_agg stK_v_one stK_v_agg proM_v proM_lp callG_mk callVG_mk callvK_fn fnG_mk ptrsA_nil ptrsA_cons callH_some whenA_true whenA_false guardH_tt guardH_ff guardH_tf guardH_ft guardH_undef agV_one agV_agg lenO_sl lenStrO_str notO_bool pickO_bool convO_int eqbO_bool eqnilO_sl extractO_tup capO_sl minO_int loadL_one loadL_all storeL_eq fillA_nil fillA_one fillA_agg nat_ge neg_ge nat_lt neg_lt buildO bin_add bin_sub bin_mul bin_eql bin_neq bin_lss bin_leq bin_gtr bin_geq str_eql str_neq str_lss str_leq str_gtr str_geq retK_some endK_mk gcK_same gcK_int gcK_bool tupO_one tupO_agg rdy_self ib ii Option.map_none Option.map_some Option.some.injEq exists_eq_left' exists_eq_left ne_eq not_false_eq_true if_true if_false List.map_cons List.map_nil List.getElem?_cons_zero List.getElem?_cons_succ List.length_cons List.length_nil List.take_succ_cons List.take_zero List.take_nil List.drop_succ_cons List.drop_zero List.drop_nil List.cons_append List.nil_append List.append_nil List.set_cons_zero List.set_cons_succ Nat.zero_add forall_const true_and and_true and_self Bool.false_eq_true false_implies true_implies implies_true Bool.not_true Bool.not_false Bool.not_eq_true' Bool.not_eq_false' beq_self_eq_true Bool.bne_true Bool.bne_false
attribute [local go_sem] lenI lenS lenP lenQ lenB lenL lenT encI_0 encS_0 encP_0 encP_1 encQ_0 encQ_1 encQ_2 encQ_3 encB_0 encB_1 encL_0 encL_1 encT_0 encT_1
attribute [local go_sem low] whenA_bool guardH_bool
attribute [local go_sem] lenY encY_0 encY_1 encY_2
attribute [local go_sem] lenV encV_0
/-! laws.eqSignatureS -/
def L38_0 : List AStep := [⟨.mov (.c (.bool false)), (some 4), none, []⟩]
theorem v38_0 : VS L38_0.eq_1 := rfl
def L38_1 : List AStep := [⟨.bin .neq (.t 7) (.t 9), (some 10), none, []⟩]
theorem v38_1 : VS L38_1.eq_1 := rfl
def L38_2 : List AStep := ⟨.mov (.t 1), (some 8), none, []⟩ :: ⟨.len (.t 8), (some 9), none, []⟩ :: L38_1
theorem v38_2 : VS L38_2.eq_1 := rfl
def L38_3 : List AStep := ⟨.mov (.t 0), (some 6), none, []⟩ :: ⟨.len (.t 6), (some 7), none, []⟩ :: L38_2
theorem v38_3 : VS L38_3.eq_1 := rfl
def L38_4 : List AStep := [⟨.mov (.c (.bool false)), (some 4), none, []⟩]
theorem v38_4 : VS L38_4.eq_1 := rfl
def L38_5 : List AStep := [⟨.mov (.c (.int .i64 0)), (some 5), none, []⟩]
theorem v38_5 : VS L38_5.eq_1 := rfl
def L38_6 : List AStep := [⟨.len (.t 12), (some 13), none, []⟩, ⟨.bin .lss (.t 11) (.t 13), (some 14), none, []⟩]
theorem v38_6 : VS L38_6.eq_1 := rfl
def L38_7 : List AStep := ⟨.mov (.t 5), (some 11), none, []⟩ :: ⟨.mov (.t 0), (some 12), none, []⟩ :: L38_6
theorem v38_7 : VS L38_7.eq_1 := rfl
def L38_8 : List AStep := [⟨.call 27 [(.t 20), (.t 24)], (some 25), none, []⟩, ⟨.not (.t 25), (some 26), none, []⟩]
theorem v38_8 : VS L38_8.eq_1 := rfl
def L38_9 : List AStep := ⟨.iaddr 1 (.t 21) (.t 22), (some 23), none, []⟩ :: ⟨.load 1 true (.t 23), (some 24), none, []⟩ :: L38_8
theorem v38_9 : VS L38_9.eq_1 := rfl
def L38_10 : List AStep := ⟨.mov (.t 1), (some 21), none, []⟩ :: ⟨.mov (.t 5), (some 22), none, []⟩ :: L38_9
theorem v38_10 : VS L38_10.eq_1 := rfl
def L38_11 : List AStep := ⟨.iaddr 1 (.t 17) (.t 18), (some 19), none, []⟩ :: ⟨.load 1 true (.t 19), (some 20), none, []⟩ :: L38_10
theorem v38_11 : VS L38_11.eq_1 := rfl
def L38_12 : List AStep := ⟨.mov (.t 0), (some 17), none, []⟩ :: ⟨.mov (.t 5), (some 18), none, []⟩ :: L38_11
theorem v38_12 : VS L38_12.eq_1 := rfl
def L38_13 : List AStep := [⟨.mov (.c (.bool false)), (some 4), none, []⟩]
theorem v38_13 : VS L38_13.eq_1 := rfl
def L38_14 : List AStep := [⟨.mov (.t 16), (some 5), none, []⟩]
theorem v38_14 : VS L38_14.eq_1 := rfl
def L38_15 : List AStep := ⟨.mov (.t 5), (some 15), none, []⟩ :: ⟨.bin .add (.t 15) (.c (.int .i64 1)), (some 16), none, []⟩ :: L38_14
theorem v38_15 : VS L38_15.eq_1 := rfl
def L38_16 : List AStep := [⟨.mov (.c (.bool true)), (some 4), none, []⟩]
theorem v38_16 : VS L38_16.eq_1 := rfl
def C38_0 : ACode := .seq (.reg L38_4) .ret
theorem u38_0 : VC C38_0.eq_1 := rfl
def C38_1 : ACode := .cond (.t 10) C38_0 .skip
theorem u38_1 : VC C38_1.eq_1 := rfl
def C38_2 : ACode := .seq (.reg L38_3) C38_1
theorem u38_2 : VC C38_2.eq_1 := rfl
def C38_3 : ACode := .cond (.t 14) .skip (.exit 0)
theorem u38_3 : VC C38_3.eq_1 := rfl
def C38_4 : ACode := .seq (.reg L38_7) C38_3
theorem u38_4 : VC C38_4.eq_1 := rfl
def C38_5 : ACode := .seq (.reg L38_13) .ret
theorem u38_5 : VC C38_5.eq_1 := rfl
def C38_6 : ACode := .cond (.t 26) C38_5 .skip
theorem u38_6 : VC C38_6.eq_1 := rfl
def C38_7 : ACode := .seq (.reg L38_12) C38_6
theorem u38_7 : VC C38_7.eq_1 := rfl
def C38_8 : ACode := .block 1 C38_7
theorem u38_8 : VC C38_8.eq_1 := rfl
def C38_9 : ACode := .seq C38_8 (.reg L38_15)
theorem u38_9 : VC C38_9.eq_1 := rfl
def C38_10 : ACode := .seq C38_4 C38_9
theorem u38_10 : VC C38_10.eq_1 := rfl
def C38_11 : ACode := .block 0 (.loop C38_10)
theorem u38_11 : VC C38_11.eq_1 := rfl
def C38_12 : ACode := .seq (.reg L38_5) C38_11
theorem u38_12 : VC C38_12.eq_1 := rfl
def C38_13 : ACode := .seq (.reg L38_16) .ret
theorem u38_13 : VC C38_13.eq_1 := rfl
def C38_14 : ACode := .seq C38_12 C38_13
theorem u38_14 : VC C38_14.eq_1 := rfl
def C38_15 : ACode := .seq C38_2 C38_14
theorem u38_15 : VC C38_15.eq_1 := rfl
def C38_16 : ACode := .seq (.reg L38_0) C38_15
theorem u38_16 : VC C38_16.eq_1 := rfl
def F38 : AFunc := ⟨27, [.tmp 4], C38_16⟩
theorem cF38 : compB Try.prog 38 = some F38 := by kernel_rfl
attribute [local go_sem ↓] u38_0 u38_1 u38_2 u38_3 u38_4 u38_5 u38_6 u38_7 u38_8 u38_9 u38_10 u38_11 u38_12 u38_13 u38_14 u38_15 u38_16 v38_0 v38_1 v38_2 v38_3 v38_4 v38_5 v38_6 v38_7 v38_8 v38_9 v38_10 v38_11 v38_12 v38_13 v38_14 v38_15 v38_16
theorem c_eqSignatureS (l m : List Sg) (v w : CV) (h : H) (hl : SlV h v l) (hm : SlV h w m) (hn : miniV l) : bm Try.prog 38 [.one v, .one w] h = some (ib (decide (l = m)), h) := by
  refine bm_eq cF38 ?_
  obtain ⟨rs, x⟩ := hl.ex
  obtain ⟨qs, y⟩ := hm.ex
  have len1 := x.out.len
  have len2 := y.out.len
  rw [x.len] at len1
  rw [y.len] at len2
  by_cases hlen : l.length = m.length
  case neg =>
    have e1 : decide ((l.length : Int) = (m.length : Int)) = false := decide_eq_false (by omega)
    simp +contextual (maxSteps := 2000000) only [go_sem, Nat.reduceEqDiff, reduceCtorEq, Nat.reduceAdd, Nat.reduceLeDiff, F38, len1, len2, e1]
    rw [ne_len e1]
  have e1 : decide ((l.length : Int) = (m.length : Int)) = true := decide_eq_true (by omega)
  simp +contextual (maxSteps := 2000000) only [go_sem, Nat.reduceEqDiff, reduceCtorEq, Nat.reduceAdd, Nat.reduceLeDiff, F38, len1, len2, e1]
  refine wpC_loop (fun i T L h' => h' = h ∧ T 0 = .v (.one v) ∧ T 1 = .v (.one w) ∧ T 5 = .v (.one (.int .i64 i)) ∧ Upto (eqAt l m) i) l.length ?_ ?_ (Nat.zero_le _) ?_
  · rintro i T L h' hi ⟨rfl, t0, t1, t5, hu⟩
    have him : i < m.length := by omega
    have hi1 : i < rs.length := by rw [x.len]; exact hi
    have hi2 : i < qs.length := by rw [y.len]; exact him
    have e2 := eqAt_eq hi him
    have hw1 := x.out.whole hi1
    have hw2 := y.out.whole hi2
    have ee := c_eqSignature _ _ _ _ _ (x.el i hi1).params (y.el i hi2).params (by rw [getV_eq hi]; exact Nat.le_trans (hn.params _ (List.getElem_mem hi)) (by decide))
    rw [getV_eq hi, getV_eq him] at ee
    have e9 : decide (l[i].params = m[i].params) = decide (l[i] = m[i]) := by
      rw [Bool.eq_iff_iff]
      cases l[i]
      cases m[i]
      simp
    rw [e9] at ee
    simp only [encV] at hw1 hw2
    simp +contextual (maxSteps := 2000000) only [go_sem, Nat.reduceEqDiff, reduceCtorEq, Nat.reduceAdd, Nat.reduceLeDiff, t0, t1, t5, len1, len2, x.out.iaddr hi1, y.out.iaddr hi2, hw1, hw2, ee, lt_true hi]
    (repeat' (first | refine And.intro ?_ ?_ | intro _)) <;> first | rfl | rw [wrap_next hi (Nat.lt_of_le_of_lt hn.len (by decide))] | (refine hu.next ?_; rw [e2]; (simp_all; done)) | (rw [ne_at (l := l) (m := m) (i := i)]; rw [e2]; (simp_all; done))
  · rintro T L h' ⟨rfl, t0, t1, t5, hu⟩
    simp +contextual (maxSteps := 2000000) only [go_sem, Nat.reduceEqDiff, reduceCtorEq, Nat.reduceAdd, Nat.reduceLeDiff, t0, t1, t5, len1, len2, lt_false, decide_eq_true (eq_of_upto hlen hu)]
  · simp +contextual (maxSteps := 2000000) only [go_sem, Nat.reduceEqDiff, reduceCtorEq, Nat.reduceAdd, Nat.reduceLeDiff]
    (repeat' (first | refine And.intro ?_ ?_ | intro _)) <;> first | rfl | exact Upto.zero
/-! laws.markSignatureS -/
def L39_0 : List AStep := [⟨.mov (.c (.int .i64 0)), (some 4), none, []⟩]
theorem v39_0 : VS L39_0.eq_1 := rfl
def L39_1 : List AStep := [⟨.mov (.c (.int .i64 0)), (some 5), none, []⟩]
theorem v39_1 : VS L39_1.eq_1 := rfl
def L39_2 : List AStep := [⟨.len (.t 7), (some 8), none, []⟩, ⟨.bin .lss (.t 6) (.t 8), (some 9), none, []⟩]
theorem v39_2 : VS L39_2.eq_1 := rfl
def L39_3 : List AStep := ⟨.mov (.t 5), (some 6), none, []⟩ :: ⟨.mov (.t 0), (some 7), none, []⟩ :: L39_2
theorem v39_3 : VS L39_3.eq_1 := rfl
def L39_4 : List AStep := [⟨.call 66 [(.t 16), (.t 17)], (some 18), none, []⟩, ⟨.mov (.t 18), (some 1), none, []⟩]
theorem v39_4 : VS L39_4.eq_1 := rfl
def L39_5 : List AStep := ⟨.load 1 false (.t 15), (some 16), none, []⟩ :: ⟨.mov (.t 1), (some 17), none, []⟩ :: L39_4
theorem v39_5 : VS L39_5.eq_1 := rfl
def L39_6 : List AStep := ⟨.iaddr 1 (.t 12) (.t 13), (some 14), none, []⟩ :: ⟨.faddr 0 (.t 14), (some 15), none, []⟩ :: L39_5
theorem v39_6 : VS L39_6.eq_1 := rfl
def L39_7 : List AStep := ⟨.mov (.t 0), (some 12), none, []⟩ :: ⟨.mov (.t 5), (some 13), none, []⟩ :: L39_6
theorem v39_7 : VS L39_7.eq_1 := rfl
def L39_8 : List AStep := [⟨.mov (.t 11), (some 5), none, []⟩]
theorem v39_8 : VS L39_8.eq_1 := rfl
def L39_9 : List AStep := ⟨.mov (.t 5), (some 10), none, []⟩ :: ⟨.bin .add (.t 10) (.c (.int .i64 1)), (some 11), none, []⟩ :: L39_8
theorem v39_9 : VS L39_9.eq_1 := rfl
def L39_10 : List AStep := [⟨.mov (.t 1), (some 19), none, []⟩, ⟨.mov (.t 19), (some 4), none, []⟩]
theorem v39_10 : VS L39_10.eq_1 := rfl
def C39_0 : ACode := .cond (.t 9) .skip (.exit 0)
theorem u39_0 : VC C39_0.eq_1 := rfl
def C39_1 : ACode := .seq (.reg L39_3) C39_0
theorem u39_1 : VC C39_1.eq_1 := rfl
def C39_2 : ACode := .block 1 (.reg L39_7)
theorem u39_2 : VC C39_2.eq_1 := rfl
def C39_3 : ACode := .seq C39_2 (.reg L39_9)
theorem u39_3 : VC C39_3.eq_1 := rfl
def C39_4 : ACode := .seq C39_1 C39_3
theorem u39_4 : VC C39_4.eq_1 := rfl
def C39_5 : ACode := .block 0 (.loop C39_4)
theorem u39_5 : VC C39_5.eq_1 := rfl
def C39_6 : ACode := .seq (.reg L39_1) C39_5
theorem u39_6 : VC C39_6.eq_1 := rfl
def C39_7 : ACode := .seq (.reg L39_10) .ret
theorem u39_7 : VC C39_7.eq_1 := rfl
def C39_8 : ACode := .seq C39_6 C39_7
theorem u39_8 : VC C39_8.eq_1 := rfl
def C39_9 : ACode := .seq (.reg L39_0) C39_8
theorem u39_9 : VC C39_9.eq_1 := rfl
def F39 : AFunc := ⟨20, [.tmp 4], C39_9⟩
theorem cF39 : compB Try.prog 39 = some F39 := by kernel_rfl
attribute [local go_sem ↓] u39_0 u39_1 u39_2 u39_3 u39_4 u39_5 u39_6 u39_7 u39_8 u39_9 v39_0 v39_1 v39_2 v39_3 v39_4 v39_5 v39_6 v39_7 v39_8 v39_9 v39_10
theorem c_markSignatureS (l : List Sg) (v : CV) (rs : List RSg) (k : Int) (h0 hb h : H) {l0 : List Sg} (hl : NwV h0 h v rs l) (ho : NwV h0 hb v rs l0) (g : Grow h0 h) (k1 : 0 ≤ k) (k2 : k ≤ 2 ^ 32) (hn : miniV l) :
    callK (bm Try.prog 39 [.one v, .one (.int .i64 k)] h) fun r h' => r = ii (k + (cellsV l : Nat)) ∧ Grow h0 h' ∧ SlV h' v (mkV k l) ∧ Mid h0.n hb.n h h' ∧ (Grow h h' → SlV h v (mkV k l)) := by
  refine bm_of cF39 ?_
  simp +contextual (maxSteps := 2000000) only [go_sem, Nat.reduceEqDiff, reduceCtorEq, Nat.reduceAdd, Nat.reduceLeDiff, F39]
  refine wpC_loop (fun i T L h' => Grow h0 h' ∧ Mid h0.n hb.n h h' ∧ T 0 = .v (.one v) ∧ T 1 = .v (.one (.int .i64 (k + ((wsum cellsEV l i : Nat) : Int)))) ∧ T 5 = .v (.one (.int .i64 i)) ∧ ∃ rs2 : List RSg, (∀ j (hj : j < rs.length) (hj2 : j < rs2.length), rs2[j].qv = rs[j].qv) ∧ OwV h0 h' v rs2 l.length (mixV k l i)) l.length ?_ ?_ (Nat.zero_le _) ?_
  · rintro i T L h' hi ⟨g, M, t0, t1, t5, rs2, hsame, x⟩
    have hi2 : i < rs2.length := by rw [x.len]; exact hi
    have hi1 : i < rs.length := by rw [ho.out.len.trans (ho.out.len.symm.trans hl.out.len)]; exact hi
    have hsm := hsame i hi1 hi2
    have hlen := x.out.length
    rw [x.len] at hlen
    have hws : wsum cellsEV l (i + 1) ≤ cellsV l := wsum_le (by omega)
    have hwn := wsum_next (f := cellsEV) hi
    have hcl := hn.cells
    have hzqv := hn.params _ (List.getElem_mem hi)
    have hfi := mixV_at (k := k) hi
    have hel := x.el i hi2
    rw [hfi] at hel
    have o0 := x
    have M0 := M
    have hi3 := hi2
    have f0 : mixV k l i i = (⟨l[i].params⟩ : Sg) := hfi
    have ib0 := o0.out.iaddr hi3 (kd := .i64)
    have e0 := o0.el i hi3
    rw [f0] at e0
    have hq0 := (o0.out.sl lenV).fieldO (off := 0) hi3 (by omega)
    simp +contextual (maxSteps := 2000000) only [go_sem, Nat.reduceEqDiff, reduceCtorEq, Nat.reduceAdd, Nat.reduceLeDiff, t0, t1, t5, hlen, lt_true hi, ib0, hq0]
    refine wp_call (c_markParamS l[i].params (.one rs2[i].qv) (k + ((wsum cellsEV l i : Nat) : Int)) h0 h' e0.params g (by omega) (by omega) (by have := hn.params _ (List.getElem_mem hi); omega)) ?_
    rintro r hc0 ⟨rfl, gc0, nc0, sc0⟩
    have o1 : OwV h0 hc0 v rs2 l.length (updV (mixV k l i) i (⟨markL mkQ 4 (k + ((wsum cellsEV l i : Nat) : Int)) l[i].params.length⟩ : Sg)) := by
      have z := o0.params hi3 (nc0) (sc0)
      rw [f0] at z
      exact z
    have M1 := M0.trans (((ho.out.el i hi1).params).mid (h1 := hc0) (by rw [← hsm]; exact sc0))
    have f1 : updV (mixV k l i) i (⟨markL mkQ 4 (k + ((wsum cellsEV l i : Nat) : Int)) l[i].params.length⟩ : Sg) i = (⟨markL mkQ 4 (k + ((wsum cellsEV l i : Nat) : Int)) l[i].params.length⟩ : Sg) := updV_at
    simp +contextual (maxSteps := 2000000) only [go_sem, Nat.reduceEqDiff, reduceCtorEq, Nat.reduceAdd, Nat.reduceLeDiff, t0, t1, t5, hlen, lt_true hi]
    have ek : ((k + ((wsum cellsEV l i : Nat) : Int)) + ((4 * l[i].params.length : Nat) : Int)) = k + ((wsum cellsEV l (i + 1) : Nat) : Int) := by rw [hwn]; unfold cellsEV; omega
    have o9 := o1
    rw [show (⟨markL mkQ 4 (k + ((wsum cellsEV l i : Nat) : Int)) l[i].params.length⟩ : Sg) = mkEV (k + ((wsum cellsEV l i : Nat) : Int)) l[i] from rfl, mixV_next hi] at o9
    refine ⟨gc0, M1, ?_, ?_, _, fun j hj hj2 => by
      have z := hsame j hj (by simpa using hj2)
      exact z, o9⟩
    · rw [ek]
    · rw [wrap_next hi (Nat.lt_of_le_of_lt hn.len (by decide))]
  · rintro T L h' ⟨g, M, t0, t1, t5, rs2, hsame, x⟩
    have hlen := x.out.length
    rw [x.len] at hlen
    simp +contextual (maxSteps := 2000000) only [go_sem, Nat.reduceEqDiff, reduceCtorEq, Nat.reduceAdd, Nat.reduceLeDiff, t0, t1, t5, hlen, lt_false]
    have y := x.congr (fun j hj => mixV_all hj)
    have yr : SlV h' v (mkV k l) := ⟨rs2, by rw [mkV_len]; exact y.rd⟩
    have back : Grow h h' → SlV h v (mkV k l) := fun gg => ⟨rs2, (y.out.back hl.out.out gg).sl lenV, by rw [mkV_len]; exact y.len, fun j hj => by
      have hj1 : j < rs.length := by rw [hl.out.len, ← y.len]; exact hj
      have z := hsame j hj1 hj
      exact ⟨((y.el j hj).params.back (by rw [z]; exact (hl.out.el j hj1).params) gg).sl lenQ⟩⟩
    exact gcK_of ⟨rfl, g, yr, M, back⟩ (fun _ gg => ⟨rfl, ‹Grow h0 h›, back gg, (Grow.refl h).mid, fun _ => back gg⟩)
  · simp +contextual (maxSteps := 2000000) only [go_sem, Nat.reduceEqDiff, reduceCtorEq, Nat.reduceAdd, Nat.reduceLeDiff]
    exact ⟨g, (Grow.refl h).mid, by simp [wsum_zero], rfl, rs, fun j hj hj2 => by simp, hl.out.congr (fun j hj => mixV_zero.symm)⟩
end Go.Proofs.Ytdalgphpacikkab.Am
