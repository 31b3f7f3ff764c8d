/- Contracts: calls with holes, of both sides. -/
import Derived.Test.YtdalgphpacikkacA1
import Derived.Test.YtdalgphpacikkacA3
import Derived.Test.YtdalgphpacikkacB1
import Derived.Test.YtdalgphpacikkacB2
namespace Go.Proofs.Ytdalgphpacikkac.Am
open Go
set_option maxRecDepth 100000
set_option maxHeartbeats 4000000
set_option linter.unusedSimpArgs false
set_option linter.unusedVariables false
attribute [local go_sem ↓] bv_t bv_c ev_t ev_c put_same put_ne put_none kill_at pro_at lb_same lb_ne start_zero start_succ wpC_seq wpC_reg wpC_cond wpC_block wpC_skip wpC_exit wpC_ret thenQ_normal thenQ_exit thenQ_ret inBlk_normal inBlk_exit inBlk_ret wpS_nil wpS_step wpS_again wpS_guard wpO_mov wpO_load wpO_faddr wpO_nilCheck wpO_pick wpO_build wpO_bin wpO_eqb wpO_eqst wpO_eqnil wpO_not wpO_conv wpO_bytesStr wpO_iaddr wpO_idxStr wpO_field wpO_extract wpO_len wpO_lenStr wpO_cap wpO_min wpO_slice wpO_sliceStr wpO_alloc wpO_box wpO_store wpO_call wpO_callv wpO_mkfn wpO_buildSlice wpO_mkslice wpO_append wpO_appz proA_nil proA_cons tmpX_nil tmpX_tmp tmpX_cell doneB_normal doneB_ret agK_cons agK_nil agK_guard agG_tt agG_ff agG_tf agG_ft agG_undef pureB_load results_one results_two results_nil resBs_cons resBs_nil resB_tmp resB_cell
attribute [local go_sem] kill_v kill_lp_ne kill_lp_same pro_v pro_lp_same pro_lp_ne av_v av_lp optB_some optX_some valX_eq ldX_lp ldX_v faX_lp faX_v ncX_lp ncX_ptr ncX_fn boxK_one boxK_agg stL_some stK_lp_one stK_lp_agg stK_v_one stK_v_agg proM_v proM_lp callG_mk callVG_mk callvK_fn fnG_mk ptrsA_nil ptrsA_cons callH_some whenA_true whenA_false guardH_tt guardH_ff guardH_tf guardH_ft guardH_undef agV_one agV_agg lenO_sl lenStrO_str notO_bool pickO_bool convO_int eqbO_bool eqnilO_sl extractO_tup capO_sl minO_int loadL_one loadL_all storeL_eq fillA_nil fillA_one fillA_agg nat_ge neg_ge nat_lt neg_lt buildO bin_add bin_sub bin_mul bin_eql bin_neq bin_lss bin_leq bin_gtr bin_geq str_eql str_neq str_lss str_leq str_gtr str_geq retK_some endK_mk gcK_same gcK_int gcK_bool tupO_one tupO_agg rdy_self ib ii Option.map_none Option.map_some Option.some.injEq exists_eq_left' exists_eq_left ne_eq not_false_eq_true if_true if_false List.map_cons List.map_nil List.getElem?_cons_zero List.getElem?_cons_succ List.length_cons List.length_nil List.take_succ_cons List.take_zero List.take_nil List.drop_succ_cons List.drop_zero List.drop_nil List.cons_append List.nil_append List.append_nil List.set_cons_zero List.set_cons_succ Nat.zero_add forall_const true_and and_true and_self Bool.false_eq_true false_implies true_implies implies_true Bool.not_true Bool.not_false Bool.not_eq_true' Bool.not_eq_false' beq_self_eq_true Bool.bne_true Bool.bne_false
attribute [local go_sem] lenI lenS lenP lenQ lenB lenL lenT encI_0 encS_0 encP_0 encP_1 encQ_0 encQ_1 encQ_2 encQ_3 encB_0 encB_1 encL_0 encL_1 encT_0 encT_1
attribute [local go_sem low] whenA_bool guardH_bool
theorem smF_names {f : Holes} (h : smH f) : smF ⟨[], f.nl⟩ := ⟨by simp, h.nl⟩
/-! spec.validHoles -/
def L40_0 : List AStep := [⟨.box 38 (.t 0), (some 1), none, []⟩, ⟨.mov (.c (.bool false)), (some 2), none, []⟩]
theorem v40_0 : VS L40_0.eq_1 := rfl
def L40_1 : List AStep := [⟨.mov (.c (.int .i64 0)), (some 3), none, []⟩]
theorem v40_1 : VS L40_1.eq_1 := rfl
def L40_2 : List AStep := [⟨.bin .lss (.t 4) (.t 7), (some 8), none, []⟩]
theorem v40_2 : VS L40_2.eq_1 := rfl
def L40_3 : List AStep := ⟨.load 1 false (.t 5), (some 6), none, []⟩ :: ⟨.len (.t 6), (some 7), none, []⟩ :: L40_2
theorem v40_3 : VS L40_3.eq_1 := rfl
def L40_4 : List AStep := ⟨.mov (.t 3), (some 4), none, []⟩ :: ⟨.faddr 0 (.t 1), (some 5), none, []⟩ :: L40_3
theorem v40_4 : VS L40_4.eq_1 := rfl
def L40_5 : List AStep := [⟨.pick (.t 26) (.c (.bool true)) (.t 34), (some 35), none, []⟩]
theorem v40_5 : VS L40_5.eq_1 := rfl
def L40_6 : List AStep := ⟨.call 87 [(.t 32)], (some 33), (some (26, false)), []⟩ :: ⟨.not (.t 33), (some 34), (some (26, false)), []⟩ :: L40_5
theorem v40_6 : VS L40_6.eq_1 := rfl
def L40_7 : List AStep := ⟨.faddr 1 (.t 30), (some 31), (some (26, false)), []⟩ :: ⟨.load 1 false (.t 31), (some 32), (some (26, false)), []⟩ :: L40_6
theorem v40_7 : VS L40_7.eq_1 := rfl
def L40_8 : List AStep := ⟨.mov (.t 3), (some 29), (some (26, false)), []⟩ :: ⟨.iaddr 2 (.t 28) (.t 29), (some 30), (some (26, false)), []⟩ :: L40_7
theorem v40_8 : VS L40_8.eq_1 := rfl
def L40_9 : List AStep := ⟨.faddr 0 (.t 1), (some 27), (some (26, false)), []⟩ :: ⟨.load 1 false (.t 27), (some 28), (some (26, false)), []⟩ :: L40_8
theorem v40_9 : VS L40_9.eq_1 := rfl
def L40_10 : List AStep := ⟨.pick (.t 17) (.t 24) (.c (.bool false)), (some 25), none, []⟩ :: ⟨.mov (.t 25), (some 26), none, []⟩ :: L40_9
theorem v40_10 : VS L40_10.eq_1 := rfl
def L40_11 : List AStep := ⟨.load 1 false (.t 22), (some 23), (some (17, true)), []⟩ :: ⟨.bin .neq (.t 23) (.c (.int .i64 0)), (some 24), (some (17, true)), []⟩ :: L40_10
theorem v40_11 : VS L40_11.eq_1 := rfl
def L40_12 : List AStep := ⟨.iaddr 2 (.t 19) (.t 20), (some 21), (some (17, true)), []⟩ :: ⟨.faddr 1 (.t 21), (some 22), (some (17, true)), []⟩ :: L40_11
theorem v40_12 : VS L40_12.eq_1 := rfl
def L40_13 : List AStep := ⟨.load 1 false (.t 18), (some 19), (some (17, true)), []⟩ :: ⟨.mov (.t 3), (some 20), (some (17, true)), []⟩ :: L40_12
theorem v40_13 : VS L40_13.eq_1 := rfl
def L40_14 : List AStep := ⟨.mov (.t 16), (some 17), none, []⟩ :: ⟨.faddr 0 (.t 1), (some 18), (some (17, true)), []⟩ :: L40_13
theorem v40_14 : VS L40_14.eq_1 := rfl
def L40_15 : List AStep := ⟨.faddr 0 (.t 14), (some 15), none, []⟩ :: ⟨.load 1 false (.t 15), (some 16), none, []⟩ :: L40_14
theorem v40_15 : VS L40_15.eq_1 := rfl
def L40_16 : List AStep := ⟨.mov (.t 3), (some 13), none, []⟩ :: ⟨.iaddr 2 (.t 12) (.t 13), (some 14), none, []⟩ :: L40_15
theorem v40_16 : VS L40_16.eq_1 := rfl
def L40_17 : List AStep := ⟨.faddr 0 (.t 1), (some 11), none, []⟩ :: ⟨.load 1 false (.t 11), (some 12), none, []⟩ :: L40_16
theorem v40_17 : VS L40_17.eq_1 := rfl
def L40_18 : List AStep := [⟨.mov (.c (.bool false)), (some 2), none, []⟩]
theorem v40_18 : VS L40_18.eq_1 := rfl
def L40_19 : List AStep := [⟨.mov (.t 10), (some 3), none, []⟩]
theorem v40_19 : VS L40_19.eq_1 := rfl
def L40_20 : List AStep := ⟨.mov (.t 3), (some 9), none, []⟩ :: ⟨.bin .add (.t 9) (.c (.int .i64 1)), (some 10), none, []⟩ :: L40_19
theorem v40_20 : VS L40_20.eq_1 := rfl
def L40_21 : List AStep := [⟨.mov (.t 45), (some 2), none, []⟩]
theorem v40_21 : VS L40_21.eq_1 := rfl
def L40_22 : List AStep := ⟨.call 41 [(.t 43)], (some 44), (some (40, true)), []⟩ :: ⟨.pick (.t 40) (.t 44) (.c (.bool false)), (some 45), none, []⟩ :: L40_21
theorem v40_22 : VS L40_22.eq_1 := rfl
def L40_23 : List AStep := ⟨.load 1 false (.t 41), (some 42), (some (40, true)), []⟩ :: ⟨.build [(.sl none 0 (some 0)), (.sl none 0 (some 0))] [(1, 1, (.t 42))], (some 43), (some (40, true)), []⟩ :: L40_22
theorem v40_23 : VS L40_23.eq_1 := rfl
def L40_24 : List AStep := ⟨.mov (.t 39), (some 40), none, []⟩ :: ⟨.faddr 1 (.t 1), (some 41), (some (40, true)), []⟩ :: L40_23
theorem v40_24 : VS L40_24.eq_1 := rfl
def L40_25 : List AStep := ⟨.len (.t 37), (some 38), none, []⟩ :: ⟨.bin .leq (.t 38) (.c (.int .i64 8)), (some 39), none, []⟩ :: L40_24
theorem v40_25 : VS L40_25.eq_1 := rfl
def L40_26 : List AStep := ⟨.faddr 0 (.t 1), (some 36), none, []⟩ :: ⟨.load 1 false (.t 36), (some 37), none, []⟩ :: L40_25
theorem v40_26 : VS L40_26.eq_1 := rfl
def C40_0 : ACode := .cond (.t 8) .skip (.exit 0)
theorem u40_0 : VC C40_0.eq_1 := rfl
def C40_1 : ACode := .seq (.reg L40_4) C40_0
theorem u40_1 : VC C40_1.eq_1 := rfl
def C40_2 : ACode := .seq (.reg L40_18) .ret
theorem u40_2 : VC C40_2.eq_1 := rfl
def C40_3 : ACode := .cond (.t 35) C40_2 .skip
theorem u40_3 : VC C40_3.eq_1 := rfl
def C40_4 : ACode := .seq (.reg L40_17) C40_3
theorem u40_4 : VC C40_4.eq_1 := rfl
def C40_5 : ACode := .block 1 C40_4
theorem u40_5 : VC C40_5.eq_1 := rfl
def C40_6 : ACode := .seq C40_5 (.reg L40_20)
theorem u40_6 : VC C40_6.eq_1 := rfl
def C40_7 : ACode := .seq C40_1 C40_6
theorem u40_7 : VC C40_7.eq_1 := rfl
def C40_8 : ACode := .block 0 (.loop C40_7)
theorem u40_8 : VC C40_8.eq_1 := rfl
def C40_9 : ACode := .seq (.reg L40_1) C40_8
theorem u40_9 : VC C40_9.eq_1 := rfl
def C40_10 : ACode := .seq (.reg L40_26) .ret
theorem u40_10 : VC C40_10.eq_1 := rfl
def C40_11 : ACode := .seq C40_9 C40_10
theorem u40_11 : VC C40_11.eq_1 := rfl
def C40_12 : ACode := .seq (.reg L40_0) C40_11
theorem u40_12 : VC C40_12.eq_1 := rfl
def F40 : AFunc := ⟨46, [.tmp 2], C40_12⟩
theorem cF40 : compB Try.prog 40 = some F40 := by kernel_rfl
attribute [local go_sem ↓] u40_0 u40_1 u40_2 u40_3 u40_4 u40_5 u40_6 u40_7 u40_8 u40_9 u40_10 u40_11 u40_12 v40_0 v40_1 v40_2 v40_3 v40_4 v40_5 v40_6 v40_7 v40_8 v40_9 v40_10 v40_11 v40_12 v40_13 v40_14 v40_15 v40_16 v40_17 v40_18 v40_19 v40_20 v40_21 v40_22 v40_23 v40_24 v40_25 v40_26
theorem c_validHoles (f : Holes) (p n : CV) (h : H) (hf : SlH h p n f) (hn : smH f) : bm Try.prog 40 [.agg [p, n]] h = some (ib (okHoles f), h) := by
  refine bm_eq cF40 ?_
  simp +contextual (maxSteps := 2000000) only [go_sem, Nat.reduceEqDiff, reduceCtorEq, Nat.reduceAdd, Nat.reduceLeDiff, F40]
  refine wpC_loop (fun i T L h' => h' = h ∧ T 1 = .lp 1 0 ∧ (L 1).2 = [p, n] ∧ T 3 = .v (.one (.int .i64 i)) ∧ Pre okPlace true f.pl i) f.pl.length ?_ ?_ (Nat.zero_le _) ?_
  · rintro i T L h' hi ⟨rfl, t1, l1, t3, hp⟩
    have ep : okPlace f.pl[i] = (!(f.pl[i].hole && !(decide (f.pl[i].value = 0))) && okNum f.pl[i].value) := rfl
    simp +contextual (maxSteps := 2000000) only [go_sem, Nat.reduceEqDiff, reduceCtorEq, Nat.reduceAdd, Nat.reduceLeDiff, t1, l1, t3, hf.pl.len, hf.pl.iaddr hi, hf.pl.fieldO hi, lt_true hi, c_validNumber]
    (repeat' (first | refine And.intro ?_ ?_ | intro _)) <;> first | rfl | rw [wrap_next hi (big_lt hn.pl)] | (refine hp.next hi ?_; rw [ep]; simp_all; done) | (rw [okHoles, all_stop (p := okPlace) hi] <;> first | rfl | (rw [ep]; simp_all; done))
  · rintro T L h' ⟨rfl, t1, l1, t3, hp⟩
    cases b1 : decide ((f.pl.length : Int) ≤ 8) with
    | false => simp +contextual (maxSteps := 2000000) only [go_sem, Nat.reduceEqDiff, reduceCtorEq, Nat.reduceAdd, Nat.reduceLeDiff, t1, l1, t3, hf.pl.len, lt_false, b1, okHoles, hp.all, Bool.true_and, Bool.false_and]
    | true => simp +contextual (maxSteps := 2000000) only [go_sem, Nat.reduceEqDiff, reduceCtorEq, Nat.reduceAdd, Nat.reduceLeDiff, t1, l1, t3, hf.pl.len, lt_false, b1, okHoles, hp.all, Bool.true_and, c_validFlat ⟨[], f.nl⟩ _ _ _ (Sl.nil lenI) hf.nl (smF_names hn)]
  · simp +contextual (maxSteps := 2000000) only [go_sem, Nat.reduceEqDiff, reduceCtorEq, Nat.reduceAdd, Nat.reduceLeDiff]
    (repeat' (first | refine And.intro ?_ ?_ | intro _)) <;> first | rfl | exact Pre.zero
/-! spec.countHoles -/
def L42_0 : List AStep := [⟨.box 38 (.t 0), (some 1), none, []⟩, ⟨.mov (.c (.int .i64 0)), (some 2), none, []⟩]
theorem v42_0 : VS L42_0.eq_1 := rfl
def L42_1 : List AStep := [⟨.mov (.c (.int .i64 0)), (some 3), none, []⟩]
theorem v42_1 : VS L42_1.eq_1 := rfl
def L42_2 : List AStep := [⟨.mov (.c (.int .i64 0)), (some 4), none, []⟩]
theorem v42_2 : VS L42_2.eq_1 := rfl
def L42_3 : List AStep := [⟨.bin .lss (.t 5) (.t 8), (some 9), none, []⟩]
theorem v42_3 : VS L42_3.eq_1 := rfl
def L42_4 : List AStep := ⟨.load 1 false (.t 6), (some 7), none, []⟩ :: ⟨.len (.t 7), (some 8), none, []⟩ :: L42_3
theorem v42_4 : VS L42_4.eq_1 := rfl
def L42_5 : List AStep := ⟨.mov (.t 4), (some 5), none, []⟩ :: ⟨.faddr 0 (.t 1), (some 6), none, []⟩ :: L42_4
theorem v42_5 : VS L42_5.eq_1 := rfl
def L42_6 : List AStep := [⟨.faddr 0 (.t 15), (some 16), none, []⟩, ⟨.load 1 false (.t 16), (some 17), none, []⟩]
theorem v42_6 : VS L42_6.eq_1 := rfl
def L42_7 : List AStep := ⟨.mov (.t 4), (some 14), none, []⟩ :: ⟨.iaddr 2 (.t 13) (.t 14), (some 15), none, []⟩ :: L42_6
theorem v42_7 : VS L42_7.eq_1 := rfl
def L42_8 : List AStep := ⟨.faddr 0 (.t 1), (some 12), none, []⟩ :: ⟨.load 1 false (.t 12), (some 13), none, []⟩ :: L42_7
theorem v42_8 : VS L42_8.eq_1 := rfl
def L42_9 : List AStep := [⟨.mov (.t 19), (some 3), none, []⟩]
theorem v42_9 : VS L42_9.eq_1 := rfl
def L42_10 : List AStep := ⟨.mov (.t 3), (some 18), none, []⟩ :: ⟨.bin .add (.t 18) (.c (.int .i64 1)), (some 19), none, []⟩ :: L42_9
theorem v42_10 : VS L42_10.eq_1 := rfl
def L42_11 : List AStep := [⟨.mov (.t 11), (some 4), none, []⟩]
theorem v42_11 : VS L42_11.eq_1 := rfl
def L42_12 : List AStep := ⟨.mov (.t 4), (some 10), none, []⟩ :: ⟨.bin .add (.t 10) (.c (.int .i64 1)), (some 11), none, []⟩ :: L42_11
theorem v42_12 : VS L42_12.eq_1 := rfl
def L42_13 : List AStep := [⟨.mov (.t 3), (some 20), none, []⟩, ⟨.mov (.t 20), (some 2), none, []⟩]
theorem v42_13 : VS L42_13.eq_1 := rfl
def C42_0 : ACode := .cond (.t 9) .skip (.exit 0)
theorem u42_0 : VC C42_0.eq_1 := rfl
def C42_1 : ACode := .seq (.reg L42_5) C42_0
theorem u42_1 : VC C42_1.eq_1 := rfl
def C42_2 : ACode := .cond (.t 17) (.reg L42_10) .skip
theorem u42_2 : VC C42_2.eq_1 := rfl
def C42_3 : ACode := .seq (.reg L42_8) C42_2
theorem u42_3 : VC C42_3.eq_1 := rfl
def C42_4 : ACode := .block 1 C42_3
theorem u42_4 : VC C42_4.eq_1 := rfl
def C42_5 : ACode := .seq C42_4 (.reg L42_12)
theorem u42_5 : VC C42_5.eq_1 := rfl
def C42_6 : ACode := .seq C42_1 C42_5
theorem u42_6 : VC C42_6.eq_1 := rfl
def C42_7 : ACode := .block 0 (.loop C42_6)
theorem u42_7 : VC C42_7.eq_1 := rfl
def C42_8 : ACode := .seq (.reg L42_2) C42_7
theorem u42_8 : VC C42_8.eq_1 := rfl
def C42_9 : ACode := .seq (.reg L42_13) .ret
theorem u42_9 : VC C42_9.eq_1 := rfl
def C42_10 : ACode := .seq C42_8 C42_9
theorem u42_10 : VC C42_10.eq_1 := rfl
def C42_11 : ACode := .seq (.reg L42_1) C42_10
theorem u42_11 : VC C42_11.eq_1 := rfl
def C42_12 : ACode := .seq (.reg L42_0) C42_11
theorem u42_12 : VC C42_12.eq_1 := rfl
def F42 : AFunc := ⟨21, [.tmp 2], C42_12⟩
theorem cF42 : compB Try.prog 42 = some F42 := by kernel_rfl
attribute [local go_sem ↓] u42_0 u42_1 u42_2 u42_3 u42_4 u42_5 u42_6 u42_7 u42_8 u42_9 u42_10 u42_11 u42_12 v42_0 v42_1 v42_2 v42_3 v42_4 v42_5 v42_6 v42_7 v42_8 v42_9 v42_10 v42_11 v42_12 v42_13
theorem c_countHoles (f : Holes) (p n : CV) (h : H) (hf : SlH h p n f) (hn : smH f) : bm Try.prog 42 [.agg [p, n]] h = some (ii (countH f.pl), h) := by
  refine bm_eq cF42 ?_
  simp +contextual (maxSteps := 2000000) only [go_sem, Nat.reduceEqDiff, reduceCtorEq, Nat.reduceAdd, Nat.reduceLeDiff, F42]
  refine wpC_loop (fun i T L h' => h' = h ∧ T 1 = .lp 1 0 ∧ (L 1).2 = [p, n] ∧ T 3 = .v (.one (.int .i64 (cnt (fun p : Place => p.hole) f.pl i))) ∧ T 4 = .v (.one (.int .i64 i))) f.pl.length ?_ ?_ (Nat.zero_le _) ?_
  · rintro i T L h' hi ⟨rfl, t1, l1, t3, t4⟩
    have e := cnt_next (p := fun p : Place => p.hole) hi
    have e2 := cnt_le (p := fun p : Place => p.hole) (l := f.pl) (i := i)
    have hb := big_lt hn.pl
    cases b : f.pl[i].hole with
    | true =>
      rw [if_pos b] at e
      simp +contextual (maxSteps := 2000000) only [go_sem, Nat.reduceEqDiff, reduceCtorEq, Nat.reduceAdd, Nat.reduceLeDiff, t1, l1, t3, t4, hf.pl.len, hf.pl.iaddr hi, hf.pl.fieldO hi, lt_true hi, b]
      rw [wrap_next hi hb, wrap_next (show cnt (fun p : Place => p.hole) f.pl i < f.pl.length by omega) hb, e]
      exact ⟨rfl, rfl⟩
    | false =>
      rw [if_neg (by simp [b])] at e
      simp +contextual (maxSteps := 2000000) only [go_sem, Nat.reduceEqDiff, reduceCtorEq, Nat.reduceAdd, Nat.reduceLeDiff, t1, l1, t3, t4, hf.pl.len, hf.pl.iaddr hi, hf.pl.fieldO hi, lt_true hi, b]
      rw [wrap_next hi hb, e]
      exact ⟨rfl, rfl⟩
  · rintro T L h' ⟨rfl, t1, l1, t3, t4⟩
    simp +contextual (maxSteps := 2000000) only [go_sem, Nat.reduceEqDiff, reduceCtorEq, Nat.reduceAdd, Nat.reduceLeDiff, t1, l1, t3, t4, hf.pl.len, lt_false, cnt_all, countH]
  · simp +contextual (maxSteps := 2000000) only [go_sem, Nat.reduceEqDiff, reduceCtorEq, Nat.reduceAdd, Nat.reduceLeDiff, cnt_zero]
    (repeat' (first | refine And.intro ?_ ?_ | intro _)) <;> first | rfl
/-! impl.ValidHoles$1 -/
def L134_0 : List AStep := [⟨.box 86 (.t 0), (some 1), none, []⟩, ⟨.mov (.c (.bool false)), (some 2), none, []⟩]
theorem v134_0 : VS L134_0.eq_1 := rfl
def L134_1 : List AStep := [⟨.pick (.t 7) (.c (.bool true)) (.t 14), (some 15), none, []⟩, ⟨.mov (.t 15), (some 2), none, []⟩]
theorem v134_1 : VS L134_1.eq_1 := rfl
def L134_2 : List AStep := ⟨.bin .neq (.t 12) (.c (.int .i64 0)), (some 13), (some (10, true)), []⟩ :: ⟨.pick (.t 10) (.t 13) (.c (.bool false)), (some 14), (some (7, false)), []⟩ :: L134_1
theorem v134_2 : VS L134_2.eq_1 := rfl
def L134_3 : List AStep := ⟨.faddr 1 (.t 1), (some 11), (some (10, true)), []⟩ :: ⟨.load 1 false (.t 11), (some 12), (some (10, true)), []⟩ :: L134_2
theorem v134_3 : VS L134_3.eq_1 := rfl
def L134_4 : List AStep := ⟨.load 1 false (.t 8), (some 9), (some (7, false)), []⟩ :: ⟨.mov (.t 9), (some 10), (some (7, false)), []⟩ :: L134_3
theorem v134_4 : VS L134_4.eq_1 := rfl
def L134_5 : List AStep := ⟨.mov (.t 6), (some 7), none, []⟩ :: ⟨.faddr 0 (.t 1), (some 8), (some (7, false)), []⟩ :: L134_4
theorem v134_5 : VS L134_5.eq_1 := rfl
def L134_6 : List AStep := ⟨.call 128 [(.t 4)], (some 5), none, []⟩ :: ⟨.not (.t 5), (some 6), none, []⟩ :: L134_5
theorem v134_6 : VS L134_6.eq_1 := rfl
def L134_7 : List AStep := ⟨.faddr 1 (.t 1), (some 3), none, []⟩ :: ⟨.load 1 false (.t 3), (some 4), none, []⟩ :: L134_6
theorem v134_7 : VS L134_7.eq_1 := rfl
def C134_0 : ACode := .seq (.reg L134_7) .ret
theorem u134_0 : VC C134_0.eq_1 := rfl
def C134_1 : ACode := .seq (.reg L134_0) C134_0
theorem u134_1 : VC C134_1.eq_1 := rfl
def F134 : AFunc := ⟨16, [.tmp 2], C134_1⟩
theorem cF134 : compB Try.prog 134 = some F134 := by kernel_rfl
attribute [local go_sem ↓] u134_0 u134_1 v134_0 v134_1 v134_2 v134_3 v134_4 v134_5 v134_6 v134_7
theorem c_ValidHoles1 (x : Place) (h : H) : bm Try.prog 134 [.agg (encL x)] h = some (ib (!(okPlace x)), h) := by
  refine bm_eq cF134 ?_
  have ep : okPlace x = (!(x.hole && !(decide (x.value = 0))) && okNum x.value) := rfl
  rw [ep]
  cases b1 : okNum x.value with
  | false => simp +contextual (maxSteps := 2000000) only [go_sem, Nat.reduceEqDiff, reduceCtorEq, Nat.reduceAdd, Nat.reduceLeDiff, F134, c_isValue, b1, Bool.and_false]
  | true =>
    cases b2 : x.hole with
    | false => simp +contextual (maxSteps := 2000000) only [go_sem, Nat.reduceEqDiff, reduceCtorEq, Nat.reduceAdd, Nat.reduceLeDiff, F134, c_isValue, b1, b2, Bool.and_true, Bool.false_and]
    | true => simp +contextual (maxSteps := 2000000) only [go_sem, Nat.reduceEqDiff, reduceCtorEq, Nat.reduceAdd, Nat.reduceLeDiff, F134, c_isValue, b1, b2, Bool.and_true, Bool.true_and, Bool.not_not]
/-! (impl.Holes).holes -/
def L99_0 : List AStep := [⟨.box 38 (.t 0), (some 1), none, []⟩, ⟨.mov (.c (.int .i64 0)), (some 2), none, []⟩]
theorem v99_0 : VS L99_0.eq_1 := rfl
def L99_1 : List AStep := [⟨.mov (.c (.int .i64 0)), (some 3), none, []⟩]
theorem v99_1 : VS L99_1.eq_1 := rfl
def L99_2 : List AStep := [⟨.len (.t 7), (some 8), none, []⟩, ⟨.mov (.c (.int .i64 0)), (some 9), none, []⟩]
theorem v99_2 : VS L99_2.eq_1 := rfl
def L99_3 : List AStep := ⟨.faddr 0 (.t 1), (some 6), none, []⟩ :: ⟨.load 1 false (.t 6), (some 7), none, []⟩ :: L99_2
theorem v99_3 : VS L99_3.eq_1 := rfl
def L99_4 : List AStep := [⟨.bin .lss (.t 9) (.t 8), (some 10), none, []⟩]
theorem v99_4 : VS L99_4.eq_1 := rfl
def L99_5 : List AStep := [⟨.alloc 86 [(.bool false), (.int .i64 0)], (some 5), none, []⟩, ⟨.store 2 (.t 5) (.t 12), none, none, []⟩]
theorem v99_5 : VS L99_5.eq_1 := rfl
def L99_6 : List AStep := ⟨.iaddr 2 (.t 7) (.t 9), (some 11), none, []⟩ :: ⟨.load 2 true (.t 11), (some 12), none, []⟩ :: L99_5
theorem v99_6 : VS L99_6.eq_1 := rfl
def L99_7 : List AStep := [⟨.faddr 0 (.t 5), (some 13), none, []⟩, ⟨.load 1 false (.t 13), (some 14), none, []⟩]
theorem v99_7 : VS L99_7.eq_1 := rfl
def L99_8 : List AStep := [⟨.mov (.t 16), (some 3), none, []⟩]
theorem v99_8 : VS L99_8.eq_1 := rfl
def L99_9 : List AStep := ⟨.mov (.t 3), (some 15), none, []⟩ :: ⟨.bin .add (.t 15) (.c (.int .i64 1)), (some 16), none, []⟩ :: L99_8
theorem v99_9 : VS L99_9.eq_1 := rfl
def L99_10 : List AStep := [⟨.bin .add (.t 9) (.c (.int .i64 1)), (some 17), none, []⟩, ⟨.mov (.t 17), (some 9), none, []⟩]
theorem v99_10 : VS L99_10.eq_1 := rfl
def L99_11 : List AStep := [⟨.mov (.t 3), (some 18), none, []⟩, ⟨.mov (.t 18), (some 2), none, []⟩]
theorem v99_11 : VS L99_11.eq_1 := rfl
def C99_0 : ACode := .cond (.t 10) .skip (.exit 0)
theorem u99_0 : VC C99_0.eq_1 := rfl
def C99_1 : ACode := .cond (.t 14) (.reg L99_9) .skip
theorem u99_1 : VC C99_1.eq_1 := rfl
def C99_2 : ACode := .seq (.reg L99_7) C99_1
theorem u99_2 : VC C99_2.eq_1 := rfl
def C99_3 : ACode := .seq (.reg L99_6) C99_2
theorem u99_3 : VC C99_3.eq_1 := rfl
def C99_4 : ACode := .block 1 C99_3
theorem u99_4 : VC C99_4.eq_1 := rfl
def C99_5 : ACode := .seq C99_4 (.reg L99_10)
theorem u99_5 : VC C99_5.eq_1 := rfl
def C99_6 : ACode := .seq C99_0 C99_5
theorem u99_6 : VC C99_6.eq_1 := rfl
def C99_7 : ACode := .seq (.reg L99_4) C99_6
theorem u99_7 : VC C99_7.eq_1 := rfl
def C99_8 : ACode := .block 0 (.loop C99_7)
theorem u99_8 : VC C99_8.eq_1 := rfl
def C99_9 : ACode := .seq (.reg L99_3) C99_8
theorem u99_9 : VC C99_9.eq_1 := rfl
def C99_10 : ACode := .seq (.reg L99_11) .ret
theorem u99_10 : VC C99_10.eq_1 := rfl
def C99_11 : ACode := .seq C99_9 C99_10
theorem u99_11 : VC C99_11.eq_1 := rfl
def C99_12 : ACode := .seq (.reg L99_1) C99_11
theorem u99_12 : VC C99_12.eq_1 := rfl
def C99_13 : ACode := .seq (.reg L99_0) C99_12
theorem u99_13 : VC C99_13.eq_1 := rfl
def F99 : AFunc := ⟨19, [.tmp 2], C99_13⟩
theorem cF99 : compB Try.prog 99 = some F99 := by kernel_rfl
attribute [local go_sem ↓] u99_0 u99_1 u99_2 u99_3 u99_4 u99_5 u99_6 u99_7 u99_8 u99_9 u99_10 u99_11 u99_12 u99_13 v99_0 v99_1 v99_2 v99_3 v99_4 v99_5 v99_6 v99_7 v99_8 v99_9 v99_10 v99_11
theorem c_holes (f : Holes) (p n : CV) (h : H) (hf : SlH h p n f) (hn : smH f) : bm Try.prog 99 [.agg [p, n]] h = some (ii (countH f.pl), h) := by
  refine bm_eq cF99 ?_
  simp +contextual (maxSteps := 2000000) only [go_sem, Nat.reduceEqDiff, reduceCtorEq, Nat.reduceAdd, Nat.reduceLeDiff, F99, hf.pl.len]
  refine wpC_loop (fun i T L h' => h' = h ∧ T 3 = .v (.one (.int .i64 (cnt (fun p : Place => p.hole) f.pl i))) ∧ T 7 = .v (.one p) ∧ T 8 = .v (.one (.int .i64 f.pl.length)) ∧ T 9 = .v (.one (.int .i64 i))) f.pl.length ?_ ?_ (Nat.zero_le _) ?_
  · rintro i T L h' hi ⟨rfl, t3, t7, t8, t9⟩
    have e := cnt_next (p := fun p : Place => p.hole) hi
    have e2 := cnt_le (p := fun p : Place => p.hole) (l := f.pl) (i := i)
    have hb := big_lt hn.pl
    cases b : f.pl[i].hole with
    | true =>
      rw [if_pos b] at e
      simp +contextual (maxSteps := 2000000) only [go_sem, Nat.reduceEqDiff, reduceCtorEq, Nat.reduceAdd, Nat.reduceLeDiff, t3, t7, t8, t9, hf.pl.iaddr hi, hf.pl.whole hi, encL, lt_true hi, b]
      rw [wrap_next hi hb, wrap_next (show cnt (fun p : Place => p.hole) f.pl i < f.pl.length by omega) hb, e]
      exact ⟨rfl, rfl⟩
    | false =>
      rw [if_neg (by simp [b])] at e
      simp +contextual (maxSteps := 2000000) only [go_sem, Nat.reduceEqDiff, reduceCtorEq, Nat.reduceAdd, Nat.reduceLeDiff, t3, t7, t8, t9, hf.pl.iaddr hi, hf.pl.whole hi, encL, lt_true hi, b]
      rw [wrap_next hi hb, e]
      exact ⟨rfl, rfl⟩
  · rintro T L h' ⟨rfl, t3, t7, t8, t9⟩
    simp +contextual (maxSteps := 2000000) only [go_sem, Nat.reduceEqDiff, reduceCtorEq, Nat.reduceAdd, Nat.reduceLeDiff, t3, t7, t8, t9, lt_false, cnt_all, countH]
  · simp +contextual (maxSteps := 2000000) only [go_sem, Nat.reduceEqDiff, reduceCtorEq, Nat.reduceAdd, Nat.reduceLeDiff, cnt_zero]
    (repeat' (first | refine And.intro ?_ ?_ | intro _)) <;> first | rfl
/-! impl.ValidHoles -/
def L98_0 : List AStep := [⟨.box 38 (.t 0), (some 1), none, []⟩, ⟨.mov (.c (.bool false)), (some 2), none, []⟩]
theorem v98_0 : VS L98_0.eq_1 := rfl
def L98_1 : List AStep := [⟨.mov (.t 18), (some 2), none, []⟩]
theorem v98_1 : VS L98_1.eq_1 := rfl
def L98_2 : List AStep := ⟨.not (.t 16), (some 17), (some (13, true)), []⟩ :: ⟨.pick (.t 13) (.t 17) (.c (.bool false)), (some 18), none, []⟩ :: L98_1
theorem v98_2 : VS L98_2.eq_1 := rfl
def L98_3 : List AStep := ⟨.load 1 false (.t 14), (some 15), (some (13, true)), []⟩ :: ⟨.call 133 [(.t 15), (.c (.fn 134 []))], (some 16), (some (13, true)), []⟩ :: L98_2
theorem v98_3 : VS L98_3.eq_1 := rfl
def L98_4 : List AStep := ⟨.mov (.t 12), (some 13), none, []⟩ :: ⟨.faddr 0 (.t 1), (some 14), (some (13, true)), []⟩ :: L98_3
theorem v98_4 : VS L98_4.eq_1 := rfl
def L98_5 : List AStep := ⟨.call 48 [(.t 10)], (some 11), (some (7, true)), []⟩ :: ⟨.pick (.t 7) (.t 11) (.c (.bool false)), (some 12), none, []⟩ :: L98_4
theorem v98_5 : VS L98_5.eq_1 := rfl
def L98_6 : List AStep := ⟨.load 1 false (.t 8), (some 9), (some (7, true)), []⟩ :: ⟨.build [(.sl none 0 (some 0)), (.sl none 0 (some 0))] [(0, 1, (.c (.sl none 0 (some 0)))), (1, 1, (.t 9))], (some 10), (some (7, true)), []⟩ :: L98_5
theorem v98_6 : VS L98_6.eq_1 := rfl
def L98_7 : List AStep := ⟨.mov (.t 6), (some 7), none, []⟩ :: ⟨.faddr 1 (.t 1), (some 8), (some (7, true)), []⟩ :: L98_6
theorem v98_7 : VS L98_7.eq_1 := rfl
def L98_8 : List AStep := ⟨.len (.t 4), (some 5), none, []⟩ :: ⟨.bin .leq (.t 5) (.c (.int .i64 8)), (some 6), none, []⟩ :: L98_7
theorem v98_8 : VS L98_8.eq_1 := rfl
def L98_9 : List AStep := ⟨.faddr 0 (.t 1), (some 3), none, []⟩ :: ⟨.load 1 false (.t 3), (some 4), none, []⟩ :: L98_8
theorem v98_9 : VS L98_9.eq_1 := rfl
def C98_0 : ACode := .seq (.reg L98_9) .ret
theorem u98_0 : VC C98_0.eq_1 := rfl
def C98_1 : ACode := .seq (.reg L98_0) C98_0
theorem u98_1 : VC C98_1.eq_1 := rfl
def F98 : AFunc := ⟨19, [.tmp 2], C98_1⟩
theorem cF98 : compB Try.prog 98 = some F98 := by kernel_rfl
attribute [local go_sem ↓] u98_0 u98_1 v98_0 v98_1 v98_2 v98_3 v98_4 v98_5 v98_6 v98_7 v98_8 v98_9
theorem c_ValidHoles (f : Holes) (p n : CV) (h : H) (hf : SlH h p n f) (hn : smH f) : bm Try.prog 98 [.agg [p, n]] h = some (ib (okHoles f), h) := by
  refine bm_eq cF98 ?_
  have e := c_hasL f.pl _ 134 [] (fun x => !(okPlace x)) h hf.pl hn.pl (fun i hi x hx => c_ValidHoles1 x h)
  have e2 : f.pl.any (fun x => !(okPlace x)) = !(f.pl.all okPlace) := by rw [← List.not_all_eq_any_not]
  rw [e2] at e
  have eo : okHoles f = (f.pl.all okPlace && (decide ((f.pl.length : Int) ≤ 8) && okFlat ⟨[], f.nl⟩)) := rfl
  have ev := c_ValidFlat ⟨[], f.nl⟩ _ _ _ (Sl.nil lenI) hf.nl (smF_names hn)
  rw [eo]
  cases b1 : decide ((f.pl.length : Int) ≤ 8) with
  | false => simp +contextual (maxSteps := 2000000) only [go_sem, Nat.reduceEqDiff, reduceCtorEq, Nat.reduceAdd, Nat.reduceLeDiff, F98, hf.pl.len, b1, Bool.false_and, Bool.and_false]
  | true =>
    cases b2 : okFlat ⟨[], f.nl⟩ with
    | false => simp +contextual (maxSteps := 2000000) only [go_sem, Nat.reduceEqDiff, reduceCtorEq, Nat.reduceAdd, Nat.reduceLeDiff, F98, hf.pl.len, b1, ev, b2, Bool.and_false]
    | true => simp +contextual (maxSteps := 2000000) only [go_sem, Nat.reduceEqDiff, reduceCtorEq, Nat.reduceAdd, Nat.reduceLeDiff, F98, hf.pl.len, b1, ev, b2, e, Bool.and_true, Bool.true_and, Bool.not_not]
end Go.Proofs.Ytdalgphpacikkac.Am
