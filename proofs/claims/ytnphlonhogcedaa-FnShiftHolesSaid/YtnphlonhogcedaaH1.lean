/- Contracts: calls with holes, of both sides. -/
import Derived.Test.YtnphlonhogcedaaA1
import Derived.Test.YtnphlonhogcedaaA3
import Derived.Test.YtnphlonhogcedaaB1
import Derived.Test.YtnphlonhogcedaaB2
namespace Go.Proofs.Ytnphlonhogcedaa.Am
open Go
set_option maxRecDepth 100000
set_option maxHeartbeats 4000000
set_option linter.unusedSimpArgs false
set_option linter.unusedVariables false
attribute [local go_sem ↓] bv_t bv_c ev_t ev_c put_same put_ne put_none kill_at pro_at lb_same lb_ne start_zero start_succ wpC_seq wpC_reg wpC_cond wpC_block wpC_skip wpC_exit wpC_ret thenQ_normal thenQ_exit thenQ_ret inBlk_normal inBlk_exit inBlk_ret wpS_nil wpS_step wpS_again wpS_guard wpO_mov wpO_load wpO_faddr wpO_nilCheck wpO_pick wpO_build wpO_bin wpO_eqb wpO_eqst wpO_eqnil wpO_not wpO_conv wpO_bytesStr wpO_iaddr wpO_idxStr wpO_field wpO_extract wpO_len wpO_lenStr wpO_cap wpO_min wpO_slice wpO_sliceStr wpO_alloc wpO_box wpO_store wpO_call wpO_callv wpO_mkfn wpO_buildSlice wpO_mkslice wpO_append wpO_appz proA_nil proA_cons tmpX_nil tmpX_tmp tmpX_cell doneB_normal doneB_ret agK_cons agK_nil agK_guard agG_tt agG_ff agG_tf agG_ft agG_undef pureB_load results_one results_two results_nil resBs_cons resBs_nil resB_tmp resB_cell
attribute [local go_sem] kill_v kill_lp_ne kill_lp_same pro_v pro_lp_same pro_lp_ne av_v av_lp optB_some optX_some valX_eq ldX_lp ldX_v faX_lp faX_v ncX_lp ncX_ptr ncX_fn boxK_one boxK_agg stL_some stK_lp_one stK_lp_agg stK_v_one stK_v_agg proM_v proM_lp callG_mk callVG_mk callvK_fn fnG_mk ptrsA_nil ptrsA_cons callH_some whenA_true whenA_false guardH_tt guardH_ff guardH_tf guardH_ft guardH_undef agV_one agV_agg lenO_sl lenStrO_str notO_bool pickO_bool convO_int eqbO_bool eqnilO_sl extractO_tup capO_sl minO_int loadL_one loadL_all storeL_eq fillA_nil fillA_one fillA_agg nat_ge neg_ge nat_lt neg_lt buildO bin_add bin_sub bin_mul bin_eql bin_neq bin_lss bin_leq bin_gtr bin_geq str_eql str_neq str_lss str_leq str_gtr str_geq retK_some endK_mk gcK_same gcK_int gcK_bool tupO_one tupO_agg rdy_self ib ii Option.map_none Option.map_some Option.some.injEq exists_eq_left' exists_eq_left ne_eq not_false_eq_true if_true if_false List.map_cons List.map_nil List.getElem?_cons_zero List.getElem?_cons_succ List.length_cons List.length_nil List.take_succ_cons List.take_zero List.take_nil List.drop_succ_cons List.drop_zero List.drop_nil List.cons_append List.nil_append List.append_nil List.set_cons_zero List.set_cons_succ Nat.zero_add forall_const true_and and_true and_self Bool.false_eq_true false_implies true_implies implies_true Bool.not_true Bool.not_false Bool.not_eq_true' Bool.not_eq_false' beq_self_eq_true Bool.bne_true Bool.bne_false
attribute [local go_sem] lenI lenS lenP lenQ lenB lenL lenT encI_0 encS_0 encP_0 encP_1 encQ_0 encQ_1 encQ_2 encQ_3 encB_0 encB_1 encL_0 encL_1 encT_0 encT_1
attribute [local go_sem low] whenA_bool guardH_bool
theorem smF_names {f : Holes} (h : smH f) : smF ⟨[], f.nl⟩ := ⟨by simp, h.nl⟩
/-! spec.validHoles -/
def L88_0 : List AStep := [⟨.box 41 (.t 0), (some 1), none, []⟩, ⟨.mov (.c (.bool false)), (some 2), none, []⟩]
theorem v88_0 : VS L88_0.eq_1 := rfl
def L88_1 : List AStep := [⟨.mov (.c (.int .i64 0)), (some 3), none, []⟩]
theorem v88_1 : VS L88_1.eq_1 := rfl
def L88_2 : List AStep := [⟨.bin .lss (.t 4) (.t 7), (some 8), none, []⟩]
theorem v88_2 : VS L88_2.eq_1 := rfl
def L88_3 : List AStep := ⟨.load 1 false (.t 5), (some 6), none, []⟩ :: ⟨.len (.t 6), (some 7), none, []⟩ :: L88_2
theorem v88_3 : VS L88_3.eq_1 := rfl
def L88_4 : List AStep := ⟨.mov (.t 3), (some 4), none, []⟩ :: ⟨.faddr 0 (.t 1), (some 5), none, []⟩ :: L88_3
theorem v88_4 : VS L88_4.eq_1 := rfl
def L88_5 : List AStep := [⟨.pick (.t 26) (.c (.bool true)) (.t 34), (some 35), none, []⟩]
theorem v88_5 : VS L88_5.eq_1 := rfl
def L88_6 : List AStep := ⟨.call 168 [(.t 32)], (some 33), (some (26, false)), []⟩ :: ⟨.not (.t 33), (some 34), (some (26, false)), []⟩ :: L88_5
theorem v88_6 : VS L88_6.eq_1 := rfl
def L88_7 : List AStep := ⟨.faddr 1 (.t 30), (some 31), (some (26, false)), []⟩ :: ⟨.load 1 false (.t 31), (some 32), (some (26, false)), []⟩ :: L88_6
theorem v88_7 : VS L88_7.eq_1 := rfl
def L88_8 : List AStep := ⟨.mov (.t 3), (some 29), (some (26, false)), []⟩ :: ⟨.iaddr 2 (.t 28) (.t 29), (some 30), (some (26, false)), []⟩ :: L88_7
theorem v88_8 : VS L88_8.eq_1 := rfl
def L88_9 : List AStep := ⟨.faddr 0 (.t 1), (some 27), (some (26, false)), []⟩ :: ⟨.load 1 false (.t 27), (some 28), (some (26, false)), []⟩ :: L88_8
theorem v88_9 : VS L88_9.eq_1 := rfl
def L88_10 : List AStep := ⟨.pick (.t 17) (.t 24) (.c (.bool false)), (some 25), none, []⟩ :: ⟨.mov (.t 25), (some 26), none, []⟩ :: L88_9
theorem v88_10 : VS L88_10.eq_1 := rfl
def L88_11 : List AStep := ⟨.load 1 false (.t 22), (some 23), (some (17, true)), []⟩ :: ⟨.bin .neq (.t 23) (.c (.int .i64 0)), (some 24), (some (17, true)), []⟩ :: L88_10
theorem v88_11 : VS L88_11.eq_1 := rfl
def L88_12 : List AStep := ⟨.iaddr 2 (.t 19) (.t 20), (some 21), (some (17, true)), []⟩ :: ⟨.faddr 1 (.t 21), (some 22), (some (17, true)), []⟩ :: L88_11
theorem v88_12 : VS L88_12.eq_1 := rfl
def L88_13 : List AStep := ⟨.load 1 false (.t 18), (some 19), (some (17, true)), []⟩ :: ⟨.mov (.t 3), (some 20), (some (17, true)), []⟩ :: L88_12
theorem v88_13 : VS L88_13.eq_1 := rfl
def L88_14 : List AStep := ⟨.mov (.t 16), (some 17), none, []⟩ :: ⟨.faddr 0 (.t 1), (some 18), (some (17, true)), []⟩ :: L88_13
theorem v88_14 : VS L88_14.eq_1 := rfl
def L88_15 : List AStep := ⟨.faddr 0 (.t 14), (some 15), none, []⟩ :: ⟨.load 1 false (.t 15), (some 16), none, []⟩ :: L88_14
theorem v88_15 : VS L88_15.eq_1 := rfl
def L88_16 : List AStep := ⟨.mov (.t 3), (some 13), none, []⟩ :: ⟨.iaddr 2 (.t 12) (.t 13), (some 14), none, []⟩ :: L88_15
theorem v88_16 : VS L88_16.eq_1 := rfl
def L88_17 : List AStep := ⟨.faddr 0 (.t 1), (some 11), none, []⟩ :: ⟨.load 1 false (.t 11), (some 12), none, []⟩ :: L88_16
theorem v88_17 : VS L88_17.eq_1 := rfl
def L88_18 : List AStep := [⟨.mov (.c (.bool false)), (some 2), none, []⟩]
theorem v88_18 : VS L88_18.eq_1 := rfl
def L88_19 : List AStep := [⟨.mov (.t 10), (some 3), none, []⟩]
theorem v88_19 : VS L88_19.eq_1 := rfl
def L88_20 : List AStep := ⟨.mov (.t 3), (some 9), none, []⟩ :: ⟨.bin .add (.t 9) (.c (.int .i64 1)), (some 10), none, []⟩ :: L88_19
theorem v88_20 : VS L88_20.eq_1 := rfl
def L88_21 : List AStep := [⟨.mov (.t 45), (some 2), none, []⟩]
theorem v88_21 : VS L88_21.eq_1 := rfl
def L88_22 : List AStep := ⟨.call 105 [(.t 43)], (some 44), (some (40, true)), []⟩ :: ⟨.pick (.t 40) (.t 44) (.c (.bool false)), (some 45), none, []⟩ :: L88_21
theorem v88_22 : VS L88_22.eq_1 := rfl
def L88_23 : List AStep := ⟨.load 1 false (.t 41), (some 42), (some (40, true)), []⟩ :: ⟨.build [(.sl none 0 (some 0)), (.sl none 0 (some 0))] [(1, 1, (.t 42))], (some 43), (some (40, true)), []⟩ :: L88_22
theorem v88_23 : VS L88_23.eq_1 := rfl
def L88_24 : List AStep := ⟨.mov (.t 39), (some 40), none, []⟩ :: ⟨.faddr 1 (.t 1), (some 41), (some (40, true)), []⟩ :: L88_23
theorem v88_24 : VS L88_24.eq_1 := rfl
def L88_25 : List AStep := ⟨.len (.t 37), (some 38), none, []⟩ :: ⟨.bin .leq (.t 38) (.c (.int .i64 8)), (some 39), none, []⟩ :: L88_24
theorem v88_25 : VS L88_25.eq_1 := rfl
def L88_26 : List AStep := ⟨.faddr 0 (.t 1), (some 36), none, []⟩ :: ⟨.load 1 false (.t 36), (some 37), none, []⟩ :: L88_25
theorem v88_26 : VS L88_26.eq_1 := rfl
def C88_0 : ACode := .cond (.t 8) .skip (.exit 0)
theorem u88_0 : VC C88_0.eq_1 := rfl
def C88_1 : ACode := .seq (.reg L88_4) C88_0
theorem u88_1 : VC C88_1.eq_1 := rfl
def C88_2 : ACode := .seq (.reg L88_18) .ret
theorem u88_2 : VC C88_2.eq_1 := rfl
def C88_3 : ACode := .cond (.t 35) C88_2 .skip
theorem u88_3 : VC C88_3.eq_1 := rfl
def C88_4 : ACode := .seq (.reg L88_17) C88_3
theorem u88_4 : VC C88_4.eq_1 := rfl
def C88_5 : ACode := .block 1 C88_4
theorem u88_5 : VC C88_5.eq_1 := rfl
def C88_6 : ACode := .seq C88_5 (.reg L88_20)
theorem u88_6 : VC C88_6.eq_1 := rfl
def C88_7 : ACode := .seq C88_1 C88_6
theorem u88_7 : VC C88_7.eq_1 := rfl
def C88_8 : ACode := .block 0 (.loop C88_7)
theorem u88_8 : VC C88_8.eq_1 := rfl
def C88_9 : ACode := .seq (.reg L88_1) C88_8
theorem u88_9 : VC C88_9.eq_1 := rfl
def C88_10 : ACode := .seq (.reg L88_26) .ret
theorem u88_10 : VC C88_10.eq_1 := rfl
def C88_11 : ACode := .seq C88_9 C88_10
theorem u88_11 : VC C88_11.eq_1 := rfl
def C88_12 : ACode := .seq (.reg L88_0) C88_11
theorem u88_12 : VC C88_12.eq_1 := rfl
def F88 : AFunc := ⟨46, [.tmp 2], C88_12⟩
theorem cF88 : compB Try.prog 88 = some F88 := by kernel_rfl
attribute [local go_sem ↓] u88_0 u88_1 u88_2 u88_3 u88_4 u88_5 u88_6 u88_7 u88_8 u88_9 u88_10 u88_11 u88_12 v88_0 v88_1 v88_2 v88_3 v88_4 v88_5 v88_6 v88_7 v88_8 v88_9 v88_10 v88_11 v88_12 v88_13 v88_14 v88_15 v88_16 v88_17 v88_18 v88_19 v88_20 v88_21 v88_22 v88_23 v88_24 v88_25 v88_26
theorem c_validHoles (f : Holes) (p n : CV) (h : H) (hf : SlH h p n f) (hn : smH f) : bm Try.prog 88 [.agg [p, n]] h = some (ib (okHoles f), h) := by
  refine bm_eq cF88 ?_
  simp +contextual (maxSteps := 2000000) only [go_sem, Nat.reduceEqDiff, reduceCtorEq, Nat.reduceAdd, Nat.reduceLeDiff, F88]
  refine wpC_loop (fun i T L h' => h' = h ∧ T 1 = .lp 1 0 ∧ (L 1).2 = [p, n] ∧ T 3 = .v (.one (.int .i64 i)) ∧ Pre okPlace true f.pl i) f.pl.length ?_ ?_ (Nat.zero_le _) ?_
  · rintro i T L h' hi ⟨rfl, t1, l1, t3, hp⟩
    have ep : okPlace f.pl[i] = (!(f.pl[i].hole && !(decide (f.pl[i].value = 0))) && okNum f.pl[i].value) := rfl
    simp +contextual (maxSteps := 2000000) only [go_sem, Nat.reduceEqDiff, reduceCtorEq, Nat.reduceAdd, Nat.reduceLeDiff, t1, l1, t3, hf.pl.len, hf.pl.iaddr hi, hf.pl.fieldO hi, lt_true hi, c_validNumber]
    (repeat' (first | refine And.intro ?_ ?_ | intro _)) <;> first | rfl | rw [wrap_next hi (big_lt hn.pl)] | (refine hp.next hi ?_; rw [ep]; simp_all; done) | (rw [okHoles, all_stop (p := okPlace) hi] <;> first | rfl | (rw [ep]; simp_all; done))
  · rintro T L h' ⟨rfl, t1, l1, t3, hp⟩
    cases b1 : decide ((f.pl.length : Int) ≤ 8) with
    | false => simp +contextual (maxSteps := 2000000) only [go_sem, Nat.reduceEqDiff, reduceCtorEq, Nat.reduceAdd, Nat.reduceLeDiff, t1, l1, t3, hf.pl.len, lt_false, b1, okHoles, hp.all, Bool.true_and, Bool.false_and]
    | true => simp +contextual (maxSteps := 2000000) only [go_sem, Nat.reduceEqDiff, reduceCtorEq, Nat.reduceAdd, Nat.reduceLeDiff, t1, l1, t3, hf.pl.len, lt_false, b1, okHoles, hp.all, Bool.true_and, c_validFlat ⟨[], f.nl⟩ _ _ _ (Sl.nil lenI) hf.nl (smF_names hn)]
  · simp +contextual (maxSteps := 2000000) only [go_sem, Nat.reduceEqDiff, reduceCtorEq, Nat.reduceAdd, Nat.reduceLeDiff]
    (repeat' (first | refine And.intro ?_ ?_ | intro _)) <;> first | rfl | exact Pre.zero
/-! spec.countHoles -/
def L89_0 : List AStep := [⟨.box 41 (.t 0), (some 1), none, []⟩, ⟨.mov (.c (.int .i64 0)), (some 2), none, []⟩]
theorem v89_0 : VS L89_0.eq_1 := rfl
def L89_1 : List AStep := [⟨.mov (.c (.int .i64 0)), (some 3), none, []⟩]
theorem v89_1 : VS L89_1.eq_1 := rfl
def L89_2 : List AStep := [⟨.mov (.c (.int .i64 0)), (some 4), none, []⟩]
theorem v89_2 : VS L89_2.eq_1 := rfl
def L89_3 : List AStep := [⟨.bin .lss (.t 5) (.t 8), (some 9), none, []⟩]
theorem v89_3 : VS L89_3.eq_1 := rfl
def L89_4 : List AStep := ⟨.load 1 false (.t 6), (some 7), none, []⟩ :: ⟨.len (.t 7), (some 8), none, []⟩ :: L89_3
theorem v89_4 : VS L89_4.eq_1 := rfl
def L89_5 : List AStep := ⟨.mov (.t 4), (some 5), none, []⟩ :: ⟨.faddr 0 (.t 1), (some 6), none, []⟩ :: L89_4
theorem v89_5 : VS L89_5.eq_1 := rfl
def L89_6 : List AStep := [⟨.faddr 0 (.t 15), (some 16), none, []⟩, ⟨.load 1 false (.t 16), (some 17), none, []⟩]
theorem v89_6 : VS L89_6.eq_1 := rfl
def L89_7 : List AStep := ⟨.mov (.t 4), (some 14), none, []⟩ :: ⟨.iaddr 2 (.t 13) (.t 14), (some 15), none, []⟩ :: L89_6
theorem v89_7 : VS L89_7.eq_1 := rfl
def L89_8 : List AStep := ⟨.faddr 0 (.t 1), (some 12), none, []⟩ :: ⟨.load 1 false (.t 12), (some 13), none, []⟩ :: L89_7
theorem v89_8 : VS L89_8.eq_1 := rfl
def L89_9 : List AStep := [⟨.mov (.t 19), (some 3), none, []⟩]
theorem v89_9 : VS L89_9.eq_1 := rfl
def L89_10 : List AStep := ⟨.mov (.t 3), (some 18), none, []⟩ :: ⟨.bin .add (.t 18) (.c (.int .i64 1)), (some 19), none, []⟩ :: L89_9
theorem v89_10 : VS L89_10.eq_1 := rfl
def L89_11 : List AStep := [⟨.mov (.t 11), (some 4), none, []⟩]
theorem v89_11 : VS L89_11.eq_1 := rfl
def L89_12 : List AStep := ⟨.mov (.t 4), (some 10), none, []⟩ :: ⟨.bin .add (.t 10) (.c (.int .i64 1)), (some 11), none, []⟩ :: L89_11
theorem v89_12 : VS L89_12.eq_1 := rfl
def L89_13 : List AStep := [⟨.mov (.t 3), (some 20), none, []⟩, ⟨.mov (.t 20), (some 2), none, []⟩]
theorem v89_13 : VS L89_13.eq_1 := rfl
def C89_0 : ACode := .cond (.t 9) .skip (.exit 0)
theorem u89_0 : VC C89_0.eq_1 := rfl
def C89_1 : ACode := .seq (.reg L89_5) C89_0
theorem u89_1 : VC C89_1.eq_1 := rfl
def C89_2 : ACode := .cond (.t 17) (.reg L89_10) .skip
theorem u89_2 : VC C89_2.eq_1 := rfl
def C89_3 : ACode := .seq (.reg L89_8) C89_2
theorem u89_3 : VC C89_3.eq_1 := rfl
def C89_4 : ACode := .block 1 C89_3
theorem u89_4 : VC C89_4.eq_1 := rfl
def C89_5 : ACode := .seq C89_4 (.reg L89_12)
theorem u89_5 : VC C89_5.eq_1 := rfl
def C89_6 : ACode := .seq C89_1 C89_5
theorem u89_6 : VC C89_6.eq_1 := rfl
def C89_7 : ACode := .block 0 (.loop C89_6)
theorem u89_7 : VC C89_7.eq_1 := rfl
def C89_8 : ACode := .seq (.reg L89_2) C89_7
theorem u89_8 : VC C89_8.eq_1 := rfl
def C89_9 : ACode := .seq (.reg L89_13) .ret
theorem u89_9 : VC C89_9.eq_1 := rfl
def C89_10 : ACode := .seq C89_8 C89_9
theorem u89_10 : VC C89_10.eq_1 := rfl
def C89_11 : ACode := .seq (.reg L89_1) C89_10
theorem u89_11 : VC C89_11.eq_1 := rfl
def C89_12 : ACode := .seq (.reg L89_0) C89_11
theorem u89_12 : VC C89_12.eq_1 := rfl
def F89 : AFunc := ⟨21, [.tmp 2], C89_12⟩
theorem cF89 : compB Try.prog 89 = some F89 := by kernel_rfl
attribute [local go_sem ↓] u89_0 u89_1 u89_2 u89_3 u89_4 u89_5 u89_6 u89_7 u89_8 u89_9 u89_10 u89_11 u89_12 v89_0 v89_1 v89_2 v89_3 v89_4 v89_5 v89_6 v89_7 v89_8 v89_9 v89_10 v89_11 v89_12 v89_13
theorem c_countHoles (f : Holes) (p n : CV) (h : H) (hf : SlH h p n f) (hn : smH f) : bm Try.prog 89 [.agg [p, n]] h = some (ii (countH f.pl), h) := by
  refine bm_eq cF89 ?_
  simp +contextual (maxSteps := 2000000) only [go_sem, Nat.reduceEqDiff, reduceCtorEq, Nat.reduceAdd, Nat.reduceLeDiff, F89]
  refine wpC_loop (fun i T L h' => h' = h ∧ T 1 = .lp 1 0 ∧ (L 1).2 = [p, n] ∧ T 3 = .v (.one (.int .i64 (cnt (fun p : Place => p.hole) f.pl i))) ∧ T 4 = .v (.one (.int .i64 i))) f.pl.length ?_ ?_ (Nat.zero_le _) ?_
  · rintro i T L h' hi ⟨rfl, t1, l1, t3, t4⟩
    have e := cnt_next (p := fun p : Place => p.hole) hi
    have e2 := cnt_le (p := fun p : Place => p.hole) (l := f.pl) (i := i)
    have hb := big_lt hn.pl
    cases b : f.pl[i].hole with
    | true =>
      rw [if_pos b] at e
      simp +contextual (maxSteps := 2000000) only [go_sem, Nat.reduceEqDiff, reduceCtorEq, Nat.reduceAdd, Nat.reduceLeDiff, t1, l1, t3, t4, hf.pl.len, hf.pl.iaddr hi, hf.pl.fieldO hi, lt_true hi, b]
      rw [wrap_next hi hb, wrap_next (show cnt (fun p : Place => p.hole) f.pl i < f.pl.length by omega) hb, e]
      exact ⟨rfl, rfl⟩
    | false =>
      rw [if_neg (by simp [b])] at e
      simp +contextual (maxSteps := 2000000) only [go_sem, Nat.reduceEqDiff, reduceCtorEq, Nat.reduceAdd, Nat.reduceLeDiff, t1, l1, t3, t4, hf.pl.len, hf.pl.iaddr hi, hf.pl.fieldO hi, lt_true hi, b]
      rw [wrap_next hi hb, e]
      exact ⟨rfl, rfl⟩
  · rintro T L h' ⟨rfl, t1, l1, t3, t4⟩
    simp +contextual (maxSteps := 2000000) only [go_sem, Nat.reduceEqDiff, reduceCtorEq, Nat.reduceAdd, Nat.reduceLeDiff, t1, l1, t3, t4, hf.pl.len, lt_false, cnt_all, countH]
  · simp +contextual (maxSteps := 2000000) only [go_sem, Nat.reduceEqDiff, reduceCtorEq, Nat.reduceAdd, Nat.reduceLeDiff, cnt_zero]
    (repeat' (first | refine And.intro ?_ ?_ | intro _)) <;> first | rfl
/-! impl.ValidHoles$1 -/
def L162_0 : List AStep := [⟨.box 83 (.t 0), (some 1), none, []⟩, ⟨.mov (.c (.bool false)), (some 2), none, []⟩]
theorem v162_0 : VS L162_0.eq_1 := rfl
def L162_1 : List AStep := [⟨.pick (.t 7) (.c (.bool true)) (.t 14), (some 15), none, []⟩, ⟨.mov (.t 15), (some 2), none, []⟩]
theorem v162_1 : VS L162_1.eq_1 := rfl
def L162_2 : List AStep := ⟨.bin .neq (.t 12) (.c (.int .i64 0)), (some 13), (some (10, true)), []⟩ :: ⟨.pick (.t 10) (.t 13) (.c (.bool false)), (some 14), (some (7, false)), []⟩ :: L162_1
theorem v162_2 : VS L162_2.eq_1 := rfl
def L162_3 : List AStep := ⟨.faddr 1 (.t 1), (some 11), (some (10, true)), []⟩ :: ⟨.load 1 false (.t 11), (some 12), (some (10, true)), []⟩ :: L162_2
theorem v162_3 : VS L162_3.eq_1 := rfl
def L162_4 : List AStep := ⟨.load 1 false (.t 8), (some 9), (some (7, false)), []⟩ :: ⟨.mov (.t 9), (some 10), (some (7, false)), []⟩ :: L162_3
theorem v162_4 : VS L162_4.eq_1 := rfl
def L162_5 : List AStep := ⟨.mov (.t 6), (some 7), none, []⟩ :: ⟨.faddr 0 (.t 1), (some 8), (some (7, false)), []⟩ :: L162_4
theorem v162_5 : VS L162_5.eq_1 := rfl
def L162_6 : List AStep := ⟨.call 163 [(.t 4)], (some 5), none, []⟩ :: ⟨.not (.t 5), (some 6), none, []⟩ :: L162_5
theorem v162_6 : VS L162_6.eq_1 := rfl
def L162_7 : List AStep := ⟨.faddr 1 (.t 1), (some 3), none, []⟩ :: ⟨.load 1 false (.t 3), (some 4), none, []⟩ :: L162_6
theorem v162_7 : VS L162_7.eq_1 := rfl
def C162_0 : ACode := .seq (.reg L162_7) .ret
theorem u162_0 : VC C162_0.eq_1 := rfl
def C162_1 : ACode := .seq (.reg L162_0) C162_0
theorem u162_1 : VC C162_1.eq_1 := rfl
def F162 : AFunc := ⟨16, [.tmp 2], C162_1⟩
theorem cF162 : compB Try.prog 162 = some F162 := by kernel_rfl
attribute [local go_sem ↓] u162_0 u162_1 v162_0 v162_1 v162_2 v162_3 v162_4 v162_5 v162_6 v162_7
theorem c_ValidHoles1 (x : Place) (h : H) : bm Try.prog 162 [.agg (encL x)] h = some (ib (!(okPlace x)), h) := by
  refine bm_eq cF162 ?_
  have ep : okPlace x = (!(x.hole && !(decide (x.value = 0))) && okNum x.value) := rfl
  rw [ep]
  cases b1 : okNum x.value with
  | false => simp +contextual (maxSteps := 2000000) only [go_sem, Nat.reduceEqDiff, reduceCtorEq, Nat.reduceAdd, Nat.reduceLeDiff, F162, c_isValue, b1, Bool.and_false]
  | true =>
    cases b2 : x.hole with
    | false => simp +contextual (maxSteps := 2000000) only [go_sem, Nat.reduceEqDiff, reduceCtorEq, Nat.reduceAdd, Nat.reduceLeDiff, F162, c_isValue, b1, b2, Bool.and_true, Bool.false_and]
    | true => simp +contextual (maxSteps := 2000000) only [go_sem, Nat.reduceEqDiff, reduceCtorEq, Nat.reduceAdd, Nat.reduceLeDiff, F162, c_isValue, b1, b2, Bool.and_true, Bool.true_and, Bool.not_not]
/-! (impl.Holes).holes -/
def L84_0 : List AStep := [⟨.box 41 (.t 0), (some 1), none, []⟩, ⟨.mov (.c (.int .i64 0)), (some 2), none, []⟩]
theorem v84_0 : VS L84_0.eq_1 := rfl
def L84_1 : List AStep := [⟨.mov (.c (.int .i64 0)), (some 3), none, []⟩]
theorem v84_1 : VS L84_1.eq_1 := rfl
def L84_2 : List AStep := [⟨.len (.t 7), (some 8), none, []⟩, ⟨.mov (.c (.int .i64 0)), (some 9), none, []⟩]
theorem v84_2 : VS L84_2.eq_1 := rfl
def L84_3 : List AStep := ⟨.faddr 0 (.t 1), (some 6), none, []⟩ :: ⟨.load 1 false (.t 6), (some 7), none, []⟩ :: L84_2
theorem v84_3 : VS L84_3.eq_1 := rfl
def L84_4 : List AStep := [⟨.bin .lss (.t 9) (.t 8), (some 10), none, []⟩]
theorem v84_4 : VS L84_4.eq_1 := rfl
def L84_5 : List AStep := [⟨.alloc 83 [(.bool false), (.int .i64 0)], (some 5), none, []⟩, ⟨.store 2 (.t 5) (.t 12), none, none, []⟩]
theorem v84_5 : VS L84_5.eq_1 := rfl
def L84_6 : List AStep := ⟨.iaddr 2 (.t 7) (.t 9), (some 11), none, []⟩ :: ⟨.load 2 true (.t 11), (some 12), none, []⟩ :: L84_5
theorem v84_6 : VS L84_6.eq_1 := rfl
def L84_7 : List AStep := [⟨.faddr 0 (.t 5), (some 13), none, []⟩, ⟨.load 1 false (.t 13), (some 14), none, []⟩]
theorem v84_7 : VS L84_7.eq_1 := rfl
def L84_8 : List AStep := [⟨.mov (.t 16), (some 3), none, []⟩]
theorem v84_8 : VS L84_8.eq_1 := rfl
def L84_9 : List AStep := ⟨.mov (.t 3), (some 15), none, []⟩ :: ⟨.bin .add (.t 15) (.c (.int .i64 1)), (some 16), none, []⟩ :: L84_8
theorem v84_9 : VS L84_9.eq_1 := rfl
def L84_10 : List AStep := [⟨.bin .add (.t 9) (.c (.int .i64 1)), (some 17), none, []⟩, ⟨.mov (.t 17), (some 9), none, []⟩]
theorem v84_10 : VS L84_10.eq_1 := rfl
def L84_11 : List AStep := [⟨.mov (.t 3), (some 18), none, []⟩, ⟨.mov (.t 18), (some 2), none, []⟩]
theorem v84_11 : VS L84_11.eq_1 := rfl
def C84_0 : ACode := .cond (.t 10) .skip (.exit 0)
theorem u84_0 : VC C84_0.eq_1 := rfl
def C84_1 : ACode := .cond (.t 14) (.reg L84_9) .skip
theorem u84_1 : VC C84_1.eq_1 := rfl
def C84_2 : ACode := .seq (.reg L84_7) C84_1
theorem u84_2 : VC C84_2.eq_1 := rfl
def C84_3 : ACode := .seq (.reg L84_6) C84_2
theorem u84_3 : VC C84_3.eq_1 := rfl
def C84_4 : ACode := .block 1 C84_3
theorem u84_4 : VC C84_4.eq_1 := rfl
def C84_5 : ACode := .seq C84_4 (.reg L84_10)
theorem u84_5 : VC C84_5.eq_1 := rfl
def C84_6 : ACode := .seq C84_0 C84_5
theorem u84_6 : VC C84_6.eq_1 := rfl
def C84_7 : ACode := .seq (.reg L84_4) C84_6
theorem u84_7 : VC C84_7.eq_1 := rfl
def C84_8 : ACode := .block 0 (.loop C84_7)
theorem u84_8 : VC C84_8.eq_1 := rfl
def C84_9 : ACode := .seq (.reg L84_3) C84_8
theorem u84_9 : VC C84_9.eq_1 := rfl
def C84_10 : ACode := .seq (.reg L84_11) .ret
theorem u84_10 : VC C84_10.eq_1 := rfl
def C84_11 : ACode := .seq C84_9 C84_10
theorem u84_11 : VC C84_11.eq_1 := rfl
def C84_12 : ACode := .seq (.reg L84_1) C84_11
theorem u84_12 : VC C84_12.eq_1 := rfl
def C84_13 : ACode := .seq (.reg L84_0) C84_12
theorem u84_13 : VC C84_13.eq_1 := rfl
def F84 : AFunc := ⟨19, [.tmp 2], C84_13⟩
theorem cF84 : compB Try.prog 84 = some F84 := by kernel_rfl
attribute [local go_sem ↓] u84_0 u84_1 u84_2 u84_3 u84_4 u84_5 u84_6 u84_7 u84_8 u84_9 u84_10 u84_11 u84_12 u84_13 v84_0 v84_1 v84_2 v84_3 v84_4 v84_5 v84_6 v84_7 v84_8 v84_9 v84_10 v84_11
theorem c_holes (f : Holes) (p n : CV) (h : H) (hf : SlH h p n f) (hn : smH f) : bm Try.prog 84 [.agg [p, n]] h = some (ii (countH f.pl), h) := by
  refine bm_eq cF84 ?_
  simp +contextual (maxSteps := 2000000) only [go_sem, Nat.reduceEqDiff, reduceCtorEq, Nat.reduceAdd, Nat.reduceLeDiff, F84, hf.pl.len]
  refine wpC_loop (fun i T L h' => h' = h ∧ T 3 = .v (.one (.int .i64 (cnt (fun p : Place => p.hole) f.pl i))) ∧ T 7 = .v (.one p) ∧ T 8 = .v (.one (.int .i64 f.pl.length)) ∧ T 9 = .v (.one (.int .i64 i))) f.pl.length ?_ ?_ (Nat.zero_le _) ?_
  · rintro i T L h' hi ⟨rfl, t3, t7, t8, t9⟩
    have e := cnt_next (p := fun p : Place => p.hole) hi
    have e2 := cnt_le (p := fun p : Place => p.hole) (l := f.pl) (i := i)
    have hb := big_lt hn.pl
    cases b : f.pl[i].hole with
    | true =>
      rw [if_pos b] at e
      simp +contextual (maxSteps := 2000000) only [go_sem, Nat.reduceEqDiff, reduceCtorEq, Nat.reduceAdd, Nat.reduceLeDiff, t3, t7, t8, t9, hf.pl.iaddr hi, hf.pl.whole hi, encL, lt_true hi, b]
      rw [wrap_next hi hb, wrap_next (show cnt (fun p : Place => p.hole) f.pl i < f.pl.length by omega) hb, e]
      exact ⟨rfl, rfl⟩
    | false =>
      rw [if_neg (by simp [b])] at e
      simp +contextual (maxSteps := 2000000) only [go_sem, Nat.reduceEqDiff, reduceCtorEq, Nat.reduceAdd, Nat.reduceLeDiff, t3, t7, t8, t9, hf.pl.iaddr hi, hf.pl.whole hi, encL, lt_true hi, b]
      rw [wrap_next hi hb, e]
      exact ⟨rfl, rfl⟩
  · rintro T L h' ⟨rfl, t3, t7, t8, t9⟩
    simp +contextual (maxSteps := 2000000) only [go_sem, Nat.reduceEqDiff, reduceCtorEq, Nat.reduceAdd, Nat.reduceLeDiff, t3, t7, t8, t9, lt_false, cnt_all, countH]
  · simp +contextual (maxSteps := 2000000) only [go_sem, Nat.reduceEqDiff, reduceCtorEq, Nat.reduceAdd, Nat.reduceLeDiff, cnt_zero]
    (repeat' (first | refine And.intro ?_ ?_ | intro _)) <;> first | rfl
/-! impl.ValidHoles -/
def L83_0 : List AStep := [⟨.box 41 (.t 0), (some 1), none, []⟩, ⟨.mov (.c (.bool false)), (some 2), none, []⟩]
theorem v83_0 : VS L83_0.eq_1 := rfl
def L83_1 : List AStep := [⟨.mov (.t 18), (some 2), none, []⟩]
theorem v83_1 : VS L83_1.eq_1 := rfl
def L83_2 : List AStep := ⟨.not (.t 16), (some 17), (some (13, true)), []⟩ :: ⟨.pick (.t 13) (.t 17) (.c (.bool false)), (some 18), none, []⟩ :: L83_1
theorem v83_2 : VS L83_2.eq_1 := rfl
def L83_3 : List AStep := ⟨.load 1 false (.t 14), (some 15), (some (13, true)), []⟩ :: ⟨.call 161 [(.t 15), (.c (.fn 162 []))], (some 16), (some (13, true)), []⟩ :: L83_2
theorem v83_3 : VS L83_3.eq_1 := rfl
def L83_4 : List AStep := ⟨.mov (.t 12), (some 13), none, []⟩ :: ⟨.faddr 0 (.t 1), (some 14), (some (13, true)), []⟩ :: L83_3
theorem v83_4 : VS L83_4.eq_1 := rfl
def L83_5 : List AStep := ⟨.call 60 [(.t 10)], (some 11), (some (7, true)), []⟩ :: ⟨.pick (.t 7) (.t 11) (.c (.bool false)), (some 12), none, []⟩ :: L83_4
theorem v83_5 : VS L83_5.eq_1 := rfl
def L83_6 : List AStep := ⟨.load 1 false (.t 8), (some 9), (some (7, true)), []⟩ :: ⟨.build [(.sl none 0 (some 0)), (.sl none 0 (some 0))] [(0, 1, (.c (.sl none 0 (some 0)))), (1, 1, (.t 9))], (some 10), (some (7, true)), []⟩ :: L83_5
theorem v83_6 : VS L83_6.eq_1 := rfl
def L83_7 : List AStep := ⟨.mov (.t 6), (some 7), none, []⟩ :: ⟨.faddr 1 (.t 1), (some 8), (some (7, true)), []⟩ :: L83_6
theorem v83_7 : VS L83_7.eq_1 := rfl
def L83_8 : List AStep := ⟨.len (.t 4), (some 5), none, []⟩ :: ⟨.bin .leq (.t 5) (.c (.int .i64 8)), (some 6), none, []⟩ :: L83_7
theorem v83_8 : VS L83_8.eq_1 := rfl
def L83_9 : List AStep := ⟨.faddr 0 (.t 1), (some 3), none, []⟩ :: ⟨.load 1 false (.t 3), (some 4), none, []⟩ :: L83_8
theorem v83_9 : VS L83_9.eq_1 := rfl
def C83_0 : ACode := .seq (.reg L83_9) .ret
theorem u83_0 : VC C83_0.eq_1 := rfl
def C83_1 : ACode := .seq (.reg L83_0) C83_0
theorem u83_1 : VC C83_1.eq_1 := rfl
def F83 : AFunc := ⟨19, [.tmp 2], C83_1⟩
theorem cF83 : compB Try.prog 83 = some F83 := by kernel_rfl
attribute [local go_sem ↓] u83_0 u83_1 v83_0 v83_1 v83_2 v83_3 v83_4 v83_5 v83_6 v83_7 v83_8 v83_9
theorem c_ValidHoles (f : Holes) (p n : CV) (h : H) (hf : SlH h p n f) (hn : smH f) : bm Try.prog 83 [.agg [p, n]] h = some (ib (okHoles f), h) := by
  refine bm_eq cF83 ?_
  have e := c_hasL f.pl _ 162 [] (fun x => !(okPlace x)) h hf.pl hn.pl (fun i hi x hx => c_ValidHoles1 x h)
  have e2 : f.pl.any (fun x => !(okPlace x)) = !(f.pl.all okPlace) := by rw [← List.not_all_eq_any_not]
  rw [e2] at e
  have eo : okHoles f = (f.pl.all okPlace && (decide ((f.pl.length : Int) ≤ 8) && okFlat ⟨[], f.nl⟩)) := rfl
  have ev := c_ValidFlat ⟨[], f.nl⟩ _ _ _ (Sl.nil lenI) hf.nl (smF_names hn)
  rw [eo]
  cases b1 : decide ((f.pl.length : Int) ≤ 8) with
  | false => simp +contextual (maxSteps := 2000000) only [go_sem, Nat.reduceEqDiff, reduceCtorEq, Nat.reduceAdd, Nat.reduceLeDiff, F83, hf.pl.len, b1, Bool.false_and, Bool.and_false]
  | true =>
    cases b2 : okFlat ⟨[], f.nl⟩ with
    | false => simp +contextual (maxSteps := 2000000) only [go_sem, Nat.reduceEqDiff, reduceCtorEq, Nat.reduceAdd, Nat.reduceLeDiff, F83, hf.pl.len, b1, ev, b2, Bool.and_false]
    | true => simp +contextual (maxSteps := 2000000) only [go_sem, Nat.reduceEqDiff, reduceCtorEq, Nat.reduceAdd, Nat.reduceLeDiff, F83, hf.pl.len, b1, ev, b2, e, Bool.and_true, Bool.true_and, Bool.not_not]
end Go.Proofs.Ytnphlonhogcedaa.Am
