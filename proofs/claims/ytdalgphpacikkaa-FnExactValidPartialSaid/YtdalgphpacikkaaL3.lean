/- Contracts of the laws: copies, marks, and what is held of them. -/
import Derived.Test.YtdalgphpacikkaaDat
namespace Go.Proofs.Ytdalgphpacikkaa.Am
open Go
set_option maxRecDepth 100000
set_option maxHeartbeats 4000000
set_option linter.unusedSimpArgs false
set_option linter.unusedVariables false
attribute [local go_sem ↓] bv_t bv_c ev_t ev_c put_same put_ne put_none kill_at pro_at lb_same lb_ne start_zero start_succ wpC_seq wpC_reg wpC_cond wpC_block wpC_skip wpC_exit wpC_ret thenQ_normal thenQ_exit thenQ_ret inBlk_normal inBlk_exit inBlk_ret wpS_nil wpS_step wpS_again wpS_guard wpO_mov wpO_load wpO_faddr wpO_nilCheck wpO_pick wpO_build wpO_bin wpO_eqb wpO_eqst wpO_eqnil wpO_not wpO_conv wpO_bytesStr wpO_iaddr wpO_idxStr wpO_field wpO_extract wpO_len wpO_lenStr wpO_cap wpO_min wpO_slice wpO_sliceStr wpO_alloc wpO_box wpO_store wpO_call wpO_callv wpO_mkfn wpO_buildSlice wpO_mkslice wpO_append wpO_appz proA_nil proA_cons tmpX_nil tmpX_tmp tmpX_cell doneB_normal doneB_ret agK_cons agK_nil agK_guard agG_tt agG_ff agG_tf agG_ft agG_undef pureB_load results_one results_two results_nil resBs_cons resBs_nil resB_tmp resB_cell
attribute [local go_sem] kill_v kill_lp_ne kill_lp_same pro_v pro_lp_same pro_lp_ne av_v av_lp optB_some optX_some valX_eq ldX_lp ldX_v faX_lp faX_v ncX_lp ncX_ptr ncX_fn boxK_one boxK_agg stL_some stK_lp_one stK_lp_agg stK_v_one stK_v_agg proM_v proM_lp callG_mk callVG_mk callvK_fn fnG_mk ptrsA_nil ptrsA_cons callH_some whenA_true whenA_false guardH_tt guardH_ff guardH_tf guardH_ft guardH_undef agV_one agV_agg lenO_sl lenStrO_str notO_bool pickO_bool convO_int eqbO_bool eqnilO_sl extractO_tup capO_sl minO_int loadL_one loadL_all storeL_eq fillA_nil fillA_one fillA_agg nat_ge neg_ge nat_lt neg_lt buildO bin_add bin_sub bin_mul bin_eql bin_neq bin_lss bin_leq bin_gtr bin_geq str_eql str_neq str_lss str_leq str_gtr str_geq retK_some endK_mk gcK_same gcK_int gcK_bool tupO_one tupO_agg rdy_self ib ii Option.map_none Option.map_some Option.some.injEq exists_eq_left' exists_eq_left ne_eq not_false_eq_true if_true if_false List.map_cons List.map_nil List.getElem?_cons_zero List.getElem?_cons_succ List.length_cons List.length_nil List.take_succ_cons List.take_zero List.take_nil List.drop_succ_cons List.drop_zero List.drop_nil List.cons_append List.nil_append List.append_nil List.set_cons_zero List.set_cons_succ Nat.zero_add forall_const true_and and_true and_self Bool.false_eq_true false_implies true_implies implies_true Bool.not_true Bool.not_false Bool.not_eq_true' Bool.not_eq_false' beq_self_eq_true Bool.bne_true Bool.bne_false
attribute [local go_sem] lenI lenS lenP lenQ lenB lenL lenT encI_0 encS_0 encP_0 encP_1 encQ_0 encQ_1 encQ_2 encQ_3 encB_0 encB_1 encL_0 encL_1 encT_0 encT_1
attribute [local go_sem low] whenA_bool guardH_bool
def encU (n : Int) : List CV := [.int .u8 n]
/-! laws.markText -/
def L59_0 : List AStep := [⟨.mov (.c (.str (strOfNums []))), (some 2), none, []⟩]
theorem v59_0 : VS L59_0.eq_1 := rfl
def L59_1 : List AStep := [⟨.mov (.t 0), (some 4), none, []⟩, ⟨.bin .leq (.t 4) (.c (.int .i64 0)), (some 5), none, []⟩]
theorem v59_1 : VS L59_1.eq_1 := rfl
def L59_2 : List AStep := [⟨.mov (.c (.str (strOfNums [109, 48]))), (some 2), none, []⟩]
theorem v59_2 : VS L59_2.eq_1 := rfl
def L59_3 : List AStep := [⟨.mov (.c (.str (strOfNums []))), (some 3), none, []⟩]
theorem v59_3 : VS L59_3.eq_1 := rfl
def L59_4 : List AStep := [⟨.mov (.t 0), (some 6), none, []⟩, ⟨.bin .gtr (.t 6) (.c (.int .i64 0)), (some 7), none, []⟩]
theorem v59_4 : VS L59_4.eq_1 := rfl
def L59_5 : List AStep := [⟨.mov (.t 15), (some 3), none, []⟩]
theorem v59_5 : VS L59_5.eq_1 := rfl
def L59_6 : List AStep := ⟨.mov (.t 3), (some 14), none, []⟩ :: ⟨.bin .add (.t 13) (.t 14), (some 15), none, []⟩ :: L59_5
theorem v59_6 : VS L59_6.eq_1 := rfl
def L59_7 : List AStep := ⟨.buildSlice 5 1 [(.int .u8 0)] [(0, 1, (.t 11))], (some 12), none, []⟩ :: ⟨.bytesStr (.t 12), (some 13), none, []⟩ :: L59_6
theorem v59_7 : VS L59_7.eq_1 := rfl
def L59_8 : List AStep := ⟨.bin .add (.c (.int .i64 48)) (.t 9), (some 10), none, []⟩ :: ⟨.conv .u8 (.t 10), (some 11), none, []⟩ :: L59_7
theorem v59_8 : VS L59_8.eq_1 := rfl
def L59_9 : List AStep := ⟨.mov (.t 0), (some 8), none, []⟩ :: ⟨.bin .rem (.t 8) (.c (.int .i64 10)), (some 9), none, []⟩ :: L59_8
theorem v59_9 : VS L59_9.eq_1 := rfl
def L59_10 : List AStep := [⟨.mov (.t 17), (some 0), none, []⟩]
theorem v59_10 : VS L59_10.eq_1 := rfl
def L59_11 : List AStep := ⟨.mov (.t 0), (some 16), none, []⟩ :: ⟨.bin .quo (.t 16) (.c (.int .i64 10)), (some 17), none, []⟩ :: L59_10
theorem v59_11 : VS L59_11.eq_1 := rfl
def L59_12 : List AStep := [⟨.mov (.t 19), (some 2), none, []⟩]
theorem v59_12 : VS L59_12.eq_1 := rfl
def L59_13 : List AStep := ⟨.mov (.t 3), (some 18), none, []⟩ :: ⟨.bin .add (.c (.str (strOfNums [109]))) (.t 18), (some 19), none, []⟩ :: L59_12
theorem v59_13 : VS L59_13.eq_1 := rfl
def C59_0 : ACode := .seq (.reg L59_2) .ret
theorem u59_0 : VC C59_0.eq_1 := rfl
def C59_1 : ACode := .cond (.t 5) C59_0 .skip
theorem u59_1 : VC C59_1.eq_1 := rfl
def C59_2 : ACode := .seq (.reg L59_1) C59_1
theorem u59_2 : VC C59_2.eq_1 := rfl
def C59_3 : ACode := .cond (.t 7) .skip (.exit 0)
theorem u59_3 : VC C59_3.eq_1 := rfl
def C59_4 : ACode := .seq (.reg L59_4) C59_3
theorem u59_4 : VC C59_4.eq_1 := rfl
def C59_5 : ACode := .seq (.reg L59_9) (.reg L59_11)
theorem u59_5 : VC C59_5.eq_1 := rfl
def C59_6 : ACode := .block 1 C59_5
theorem u59_6 : VC C59_6.eq_1 := rfl
def C59_7 : ACode := .seq C59_4 C59_6
theorem u59_7 : VC C59_7.eq_1 := rfl
def C59_8 : ACode := .block 0 (.loop C59_7)
theorem u59_8 : VC C59_8.eq_1 := rfl
def C59_9 : ACode := .seq (.reg L59_13) .ret
theorem u59_9 : VC C59_9.eq_1 := rfl
def C59_10 : ACode := .seq C59_8 C59_9
theorem u59_10 : VC C59_10.eq_1 := rfl
def C59_11 : ACode := .seq (.reg L59_3) C59_10
theorem u59_11 : VC C59_11.eq_1 := rfl
def C59_12 : ACode := .seq C59_2 C59_11
theorem u59_12 : VC C59_12.eq_1 := rfl
def C59_13 : ACode := .seq (.reg L59_0) C59_12
theorem u59_13 : VC C59_13.eq_1 := rfl
def F59 : AFunc := ⟨20, [.tmp 2], C59_13⟩
theorem cF59 : compB Try.prog 59 = some F59 := by kernel_rfl
attribute [local go_sem ↓] u59_0 u59_1 u59_2 u59_3 u59_4 u59_5 u59_6 u59_7 u59_8 u59_9 u59_10 u59_11 u59_12 u59_13 v59_0 v59_1 v59_2 v59_3 v59_4 v59_5 v59_6 v59_7 v59_8 v59_9 v59_10 v59_11 v59_12 v59_13
theorem c_markText (k : Int) (h : H) (h1 : k < 2 ^ 60) : bm Try.prog 59 [.one (.int .i64 k)] h = some (.one (.str (mtxt k)), h) := by
  by_cases hk : k ≤ 0
  · refine bm_eq cF59 ?_
    simp +contextual (maxSteps := 2000000) only [go_sem, Nat.reduceEqDiff, reduceCtorEq, Nat.reduceAdd, Nat.reduceLeDiff, F59, decide_eq_true hk]
    unfold mtxt
    rw [if_pos hk]
  obtain ⟨n, rfl⟩ : ∃ n : Nat, k = n := ⟨k.toNat, by omega⟩
  have key : callK (bm Try.prog 59 [.one (.int .i64 n)] h) fun v h' => v = .one (.str (mtxt n)) ∧ h' = h := by
    refine bm_of cF59 ?_
    simp +contextual (maxSteps := 2000000) only [go_sem, Nat.reduceEqDiff, reduceCtorEq, Nat.reduceAdd, Nat.reduceLeDiff, F59, decide_eq_false hk]
    refine wpC_while (fun m T L h' => Grow h h' ∧ T 0 = .v (.one (.int .i64 m)) ∧ ∃ s, T 3 = .v (.one (.str s)) ∧ mDig m s = mDig n (strOfNums []) ∧ s.size + m ≤ n) ?_ ?_ (m := n)
    · rintro m T L h' ⟨g, t0, s, t3, e1, e2⟩
      by_cases hm : m = 0
      · subst hm
        have e3 : mDig 0 s = s := by unfold mDig; simp
        rw [e3] at e1
        simp +contextual (maxSteps := 2000000) only [go_sem, Nat.reduceEqDiff, reduceCtorEq, Nat.reduceAdd, Nat.reduceLeDiff, t0, t3, show decide (((0 : Nat) : Int) > 0) = false from rfl]
        have e4 : (strOfNums [109]).size = 1 := strOfNums_size _
        simp +contextual (maxSteps := 2000000) only [go_sem, Nat.reduceEqDiff, reduceCtorEq, Nat.reduceAdd, Nat.reduceLeDiff, str_add (s := strOfNums [109]) (t := s) (by rw [e4]; omega)]
        refine gcR_of g rfl ⟨?_, rfl⟩
        unfold mtxt
        rw [if_neg hk, e1]
        rfl
      · have e5 : mDig m s = mDig (m / 10) (strOfNums [digit m] ++ s) := by rw [mDig, dif_neg hm]
        simp +contextual (maxSteps := 2000000) only [go_sem, Nat.reduceEqDiff, reduceCtorEq, Nat.reduceAdd, Nat.reduceLeDiff, t0, t3, decide_eq_true (show ((m : Nat) : Int) > 0 by omega), bin_rem (k := .i64) (a := (m : Int)) (b := 10) (by decide), bin_quo (k := .i64) (a := (m : Int)) (b := 10) (by decide)]
        refine wp_lit (enc := encU) (k := 1) [digit m] rfl rfl ?_
        intro h2 v g2 n2 _
        have hb := bytes_at (n2.sl (fun _ => rfl)) (by simp)
        have e4 : (strOfNums [digit m]).size = 1 := strOfNums_size _
        simp +contextual (maxSteps := 2000000) only [go_sem, Nat.reduceEqDiff, reduceCtorEq, Nat.reduceAdd, Nat.reduceLeDiff, hb, t0, t3, str_add (s := strOfNums [digit m]) (t := s) (by rw [e4]; omega), bin_quo (k := .i64) (a := (m : Int)) (b := 10) (by decide)]
        refine ⟨m / 10, by omega, g.trans g2, ?_, _, rfl, ?_, ?_⟩
        · rw [show (m : Int).tdiv 10 = ((m / 10 : Nat) : Int) by rw [Int.tdiv_eq_ediv_of_nonneg (by omega)]; omega, wrap_nat (by omega)]
        · rw [← e5, e1]
        · rw [ByteArray.size_append, e4]
          omega
    · simp +contextual (maxSteps := 2000000) only [go_sem, Nat.reduceEqDiff, reduceCtorEq, Nat.reduceAdd, Nat.reduceLeDiff]
      exact ⟨Grow.refl h, _, rfl, rfl, by rw [strOfNums_size]; simp⟩
  obtain ⟨v, h', e1, rfl, rfl⟩ := key
  exact e1
/-! laws.toParam -/
def L69_0 : List AStep := [⟨.box 88 (.t 0), (some 1), none, []⟩, ⟨.alloc 100 [(.str (strOfNums [])), (.int .i64 0), (.bool false), (.int .i64 0)], (some 2), none, []⟩]
theorem v69_0 : VS L69_0.eq_1 := rfl
def L69_1 : List AStep := [⟨.alloc 100 [(.str (strOfNums [])), (.int .i64 0), (.bool false), (.int .i64 0)], (some 3), none, []⟩]
theorem v69_1 : VS L69_1.eq_1 := rfl
def L69_2 : List AStep := [⟨.faddr 0 (.t 3), (some 6), none, []⟩, ⟨.store 1 (.t 6) (.t 5), none, none, []⟩]
theorem v69_2 : VS L69_2.eq_1 := rfl
def L69_3 : List AStep := ⟨.faddr 0 (.t 1), (some 4), none, []⟩ :: ⟨.load 1 false (.t 4), (some 5), none, []⟩ :: L69_2
theorem v69_3 : VS L69_3.eq_1 := rfl
def L69_4 : List AStep := [⟨.faddr 1 (.t 3), (some 9), none, []⟩, ⟨.store 1 (.t 9) (.t 8), none, none, []⟩]
theorem v69_4 : VS L69_4.eq_1 := rfl
def L69_5 : List AStep := ⟨.faddr 1 (.t 1), (some 7), none, []⟩ :: ⟨.load 1 false (.t 7), (some 8), none, []⟩ :: L69_4
theorem v69_5 : VS L69_5.eq_1 := rfl
def L69_6 : List AStep := [⟨.faddr 2 (.t 3), (some 12), none, []⟩, ⟨.store 1 (.t 12) (.t 11), none, none, []⟩]
theorem v69_6 : VS L69_6.eq_1 := rfl
def L69_7 : List AStep := ⟨.faddr 2 (.t 1), (some 10), none, []⟩ :: ⟨.load 1 false (.t 10), (some 11), none, []⟩ :: L69_6
theorem v69_7 : VS L69_7.eq_1 := rfl
def L69_8 : List AStep := [⟨.faddr 3 (.t 3), (some 15), none, []⟩, ⟨.store 1 (.t 15) (.t 14), none, none, []⟩]
theorem v69_8 : VS L69_8.eq_1 := rfl
def L69_9 : List AStep := ⟨.faddr 3 (.t 1), (some 13), none, []⟩ :: ⟨.load 1 false (.t 13), (some 14), none, []⟩ :: L69_8
theorem v69_9 : VS L69_9.eq_1 := rfl
def L69_10 : List AStep := [⟨.load 4 true (.t 3), (some 16), none, []⟩, ⟨.store 4 (.t 2) (.t 16), none, none, []⟩]
theorem v69_10 : VS L69_10.eq_1 := rfl
def C69_0 : ACode := .seq (.reg L69_10) .ret
theorem u69_0 : VC C69_0.eq_1 := rfl
def C69_1 : ACode := .seq (.reg L69_9) C69_0
theorem u69_1 : VC C69_1.eq_1 := rfl
def C69_2 : ACode := .seq (.reg L69_7) C69_1
theorem u69_2 : VC C69_2.eq_1 := rfl
def C69_3 : ACode := .seq (.reg L69_5) C69_2
theorem u69_3 : VC C69_3.eq_1 := rfl
def C69_4 : ACode := .seq (.reg L69_3) C69_3
theorem u69_4 : VC C69_4.eq_1 := rfl
def C69_5 : ACode := .seq (.reg L69_1) C69_4
theorem u69_5 : VC C69_5.eq_1 := rfl
def C69_6 : ACode := .seq (.reg L69_0) C69_5
theorem u69_6 : VC C69_6.eq_1 := rfl
def F69 : AFunc := ⟨17, [.cell 2 4 true], C69_6⟩
theorem cF69 : compB Try.prog 69 = some F69 := by kernel_rfl
attribute [local go_sem ↓] u69_0 u69_1 u69_2 u69_3 u69_4 u69_5 u69_6 v69_0 v69_1 v69_2 v69_3 v69_4 v69_5 v69_6 v69_7 v69_8 v69_9 v69_10
theorem c_toParam (p : Param) (h : H) : bm Try.prog 69 [.agg (encQ p)] h = some (.agg (encQ p), h) := by
  refine bm_eq cF69 ?_
  simp +contextual (maxSteps := 2000000) only [go_sem, Nat.reduceEqDiff, reduceCtorEq, Nat.reduceAdd, Nat.reduceLeDiff, F69, encQ]
/-! laws.toPair -/
def L70_0 : List AStep := [⟨.box 91 (.t 0), (some 1), none, []⟩, ⟨.alloc 98 [(.str (strOfNums [])), (.int .i64 0)], (some 2), none, []⟩]
theorem v70_0 : VS L70_0.eq_1 := rfl
def L70_1 : List AStep := [⟨.alloc 98 [(.str (strOfNums [])), (.int .i64 0)], (some 3), none, []⟩]
theorem v70_1 : VS L70_1.eq_1 := rfl
def L70_2 : List AStep := [⟨.faddr 0 (.t 3), (some 6), none, []⟩, ⟨.store 1 (.t 6) (.t 5), none, none, []⟩]
theorem v70_2 : VS L70_2.eq_1 := rfl
def L70_3 : List AStep := ⟨.faddr 0 (.t 1), (some 4), none, []⟩ :: ⟨.load 1 false (.t 4), (some 5), none, []⟩ :: L70_2
theorem v70_3 : VS L70_3.eq_1 := rfl
def L70_4 : List AStep := [⟨.faddr 1 (.t 3), (some 9), none, []⟩, ⟨.store 1 (.t 9) (.t 8), none, none, []⟩]
theorem v70_4 : VS L70_4.eq_1 := rfl
def L70_5 : List AStep := ⟨.faddr 1 (.t 1), (some 7), none, []⟩ :: ⟨.load 1 false (.t 7), (some 8), none, []⟩ :: L70_4
theorem v70_5 : VS L70_5.eq_1 := rfl
def L70_6 : List AStep := [⟨.load 2 true (.t 3), (some 10), none, []⟩, ⟨.store 2 (.t 2) (.t 10), none, none, []⟩]
theorem v70_6 : VS L70_6.eq_1 := rfl
def C70_0 : ACode := .seq (.reg L70_6) .ret
theorem u70_0 : VC C70_0.eq_1 := rfl
def C70_1 : ACode := .seq (.reg L70_5) C70_0
theorem u70_1 : VC C70_1.eq_1 := rfl
def C70_2 : ACode := .seq (.reg L70_3) C70_1
theorem u70_2 : VC C70_2.eq_1 := rfl
def C70_3 : ACode := .seq (.reg L70_1) C70_2
theorem u70_3 : VC C70_3.eq_1 := rfl
def C70_4 : ACode := .seq (.reg L70_0) C70_3
theorem u70_4 : VC C70_4.eq_1 := rfl
def F70 : AFunc := ⟨11, [.cell 2 2 true], C70_4⟩
theorem cF70 : compB Try.prog 70 = some F70 := by kernel_rfl
attribute [local go_sem ↓] u70_0 u70_1 u70_2 u70_3 u70_4 v70_0 v70_1 v70_2 v70_3 v70_4 v70_5 v70_6
theorem c_toPair (p : Pair) (h : H) : bm Try.prog 70 [.agg (encP p)] h = some (.agg (encP p), h) := by
  refine bm_eq cF70 ?_
  simp +contextual (maxSteps := 2000000) only [go_sem, Nat.reduceEqDiff, reduceCtorEq, Nat.reduceAdd, Nat.reduceLeDiff, F70, encP]
/-! laws.toIntS -/
def L42_0 : List AStep := [⟨.mov (.c (.sl none 0 (some 0))), (some 2), none, []⟩]
theorem v42_0 : VS L42_0.eq_1 := rfl
def L42_1 : List AStep := [⟨.mkslice 3 8 [(.int .i64 0)] (.t 6) (.t 6), (some 7), none, []⟩, ⟨.mov (.t 7), (some 3), none, []⟩]
theorem v42_1 : VS L42_1.eq_1 := rfl
def L42_2 : List AStep := ⟨.mov (.t 0), (some 5), none, []⟩ :: ⟨.len (.t 5), (some 6), none, []⟩ :: L42_1
theorem v42_2 : VS L42_2.eq_1 := rfl
def L42_3 : List AStep := [⟨.mov (.c (.int .i64 0)), (some 4), none, []⟩]
theorem v42_3 : VS L42_3.eq_1 := rfl
def L42_4 : List AStep := [⟨.len (.t 9), (some 10), none, []⟩, ⟨.bin .lss (.t 8) (.t 10), (some 11), none, []⟩]
theorem v42_4 : VS L42_4.eq_1 := rfl
def L42_5 : List AStep := ⟨.mov (.t 4), (some 8), none, []⟩ :: ⟨.mov (.t 0), (some 9), none, []⟩ :: L42_4
theorem v42_5 : VS L42_5.eq_1 := rfl
def L42_6 : List AStep := [⟨.iaddr 1 (.t 14) (.t 15), (some 20), none, []⟩, ⟨.store 1 (.t 20) (.t 19), none, none, []⟩]
theorem v42_6 : VS L42_6.eq_1 := rfl
def L42_7 : List AStep := ⟨.iaddr 1 (.t 16) (.t 17), (some 18), none, []⟩ :: ⟨.load 1 false (.t 18), (some 19), none, []⟩ :: L42_6
theorem v42_7 : VS L42_7.eq_1 := rfl
def L42_8 : List AStep := ⟨.mov (.t 0), (some 16), none, []⟩ :: ⟨.mov (.t 4), (some 17), none, []⟩ :: L42_7
theorem v42_8 : VS L42_8.eq_1 := rfl
def L42_9 : List AStep := ⟨.mov (.t 3), (some 14), none, []⟩ :: ⟨.mov (.t 4), (some 15), none, []⟩ :: L42_8
theorem v42_9 : VS L42_9.eq_1 := rfl
def L42_10 : List AStep := [⟨.mov (.t 13), (some 4), none, []⟩]
theorem v42_10 : VS L42_10.eq_1 := rfl
def L42_11 : List AStep := ⟨.mov (.t 4), (some 12), none, []⟩ :: ⟨.bin .add (.t 12) (.c (.int .i64 1)), (some 13), none, []⟩ :: L42_10
theorem v42_11 : VS L42_11.eq_1 := rfl
def L42_12 : List AStep := [⟨.mov (.t 3), (some 21), none, []⟩, ⟨.mov (.t 21), (some 2), none, []⟩]
theorem v42_12 : VS L42_12.eq_1 := rfl
def C42_0 : ACode := .cond (.t 11) .skip (.exit 0)
theorem u42_0 : VC C42_0.eq_1 := rfl
def C42_1 : ACode := .seq (.reg L42_5) C42_0
theorem u42_1 : VC C42_1.eq_1 := rfl
def C42_2 : ACode := .block 1 (.reg L42_9)
theorem u42_2 : VC C42_2.eq_1 := rfl
def C42_3 : ACode := .seq C42_2 (.reg L42_11)
theorem u42_3 : VC C42_3.eq_1 := rfl
def C42_4 : ACode := .seq C42_1 C42_3
theorem u42_4 : VC C42_4.eq_1 := rfl
def C42_5 : ACode := .block 0 (.loop C42_4)
theorem u42_5 : VC C42_5.eq_1 := rfl
def C42_6 : ACode := .seq (.reg L42_3) C42_5
theorem u42_6 : VC C42_6.eq_1 := rfl
def C42_7 : ACode := .seq (.reg L42_12) .ret
theorem u42_7 : VC C42_7.eq_1 := rfl
def C42_8 : ACode := .seq C42_6 C42_7
theorem u42_8 : VC C42_8.eq_1 := rfl
def C42_9 : ACode := .seq (.reg L42_2) C42_8
theorem u42_9 : VC C42_9.eq_1 := rfl
def C42_10 : ACode := .seq (.reg L42_0) C42_9
theorem u42_10 : VC C42_10.eq_1 := rfl
def F42 : AFunc := ⟨22, [.tmp 2], C42_10⟩
theorem cF42 : compB Try.prog 42 = some F42 := by kernel_rfl
attribute [local go_sem ↓] u42_0 u42_1 u42_2 u42_3 u42_4 u42_5 u42_6 u42_7 u42_8 u42_9 u42_10 v42_0 v42_1 v42_2 v42_3 v42_4 v42_5 v42_6 v42_7 v42_8 v42_9 v42_10 v42_11 v42_12
theorem c_toIntS {t1 : Nat} (l : List Int) (v : AV) (h : H) (hl : Sl encI 1 t1 h v l) (hn : l.length ≤ 1048576) : callK (bm Try.prog 42 [v] h) fun r h' => Grow h h' ∧ NwI h h' r l := by
  refine bm_of cF42 ?_
  simp +contextual (maxSteps := 2000000) only [go_sem, Nat.reduceEqDiff, reduceCtorEq, Nat.reduceAdd, Nat.reduceLeDiff, F42, hl.len]
  refine wp_make (enc := encI) (k := 1) (0 : Int) rfl (by omega) (by omega) ?_
  intro h1 o g1 n1 _
  simp +contextual (maxSteps := 2000000) only [go_sem, Nat.reduceEqDiff, reduceCtorEq, Nat.reduceAdd, Nat.reduceLeDiff]
  refine wpC_loop (fun i T L h' => Grow h h' ∧ T 0 = .v v ∧ T 3 = .v o ∧ T 4 = .v (.one (.int .i64 i)) ∧ NwI h h' o (fillL l (0 : Int) i)) l.length ?_ ?_ (Nat.zero_le _) ?_
  · rintro i T L h' hi ⟨g, t0, t3, t4, no⟩
    have hl := (‹Sl encI 1 t1 h v l›).grow g
    have hio : i < (fillL l (0 : Int) i).length := by rw [fillL_len (by omega)]; exact hi
    simp +contextual (maxSteps := 2000000) only [go_sem, Nat.reduceEqDiff, reduceCtorEq, Nat.reduceAdd, Nat.reduceLeDiff, t0, t3, t4, hl.len, hl.iaddr hi, hl.oneO hi, no.iaddr hio, lt_true hi]
    refine wp_setE (x := l[i]) lenI no hio rfl rfl g ?_
    intro h2 g2 n2 _
    simp +contextual (maxSteps := 2000000) only [go_sem, Nat.reduceEqDiff, reduceCtorEq, Nat.reduceAdd, Nat.reduceLeDiff, t0, t3, t4]
    rw [fillL_set hi] at n2
    exact ⟨g2, by rw [wrap_next hi (by omega)], n2⟩
  · rintro T L h' ⟨g, t0, t3, t4, no⟩
    have hl := (‹Sl encI 1 t1 h v l›).grow g
    simp +contextual (maxSteps := 2000000) only [go_sem, Nat.reduceEqDiff, reduceCtorEq, Nat.reduceAdd, Nat.reduceLeDiff, t0, t3, t4, hl.len, lt_false]
    rw [fillL_all] at no
    exact gcK_of ⟨g, no⟩ (fun hs _ => ⟨Grow.refl h, no.scalar hs h⟩)
  · simp +contextual (maxSteps := 2000000) only [go_sem, Nat.reduceEqDiff, reduceCtorEq, Nat.reduceAdd, Nat.reduceLeDiff]
    exact ⟨g1, rfl, by rw [fillL_zero]; exact n1⟩
/-! laws.toParamS -/
def L41_0 : List AStep := [⟨.mov (.c (.sl none 0 (some 0))), (some 2), none, []⟩]
theorem v41_0 : VS L41_0.eq_1 := rfl
def L41_1 : List AStep := [⟨.mkslice 100 40 [(.str (strOfNums [])), (.int .i64 0), (.bool false), (.int .i64 0)] (.t 6) (.t 6), (some 7), none, []⟩, ⟨.mov (.t 7), (some 3), none, []⟩]
theorem v41_1 : VS L41_1.eq_1 := rfl
def L41_2 : List AStep := ⟨.mov (.t 0), (some 5), none, []⟩ :: ⟨.len (.t 5), (some 6), none, []⟩ :: L41_1
theorem v41_2 : VS L41_2.eq_1 := rfl
def L41_3 : List AStep := [⟨.mov (.c (.int .i64 0)), (some 4), none, []⟩]
theorem v41_3 : VS L41_3.eq_1 := rfl
def L41_4 : List AStep := [⟨.len (.t 9), (some 10), none, []⟩, ⟨.bin .lss (.t 8) (.t 10), (some 11), none, []⟩]
theorem v41_4 : VS L41_4.eq_1 := rfl
def L41_5 : List AStep := ⟨.mov (.t 4), (some 8), none, []⟩ :: ⟨.mov (.t 0), (some 9), none, []⟩ :: L41_4
theorem v41_5 : VS L41_5.eq_1 := rfl
def L41_6 : List AStep := [⟨.store 4 (.t 21) (.t 20), none, none, []⟩]
theorem v41_6 : VS L41_6.eq_1 := rfl
def L41_7 : List AStep := ⟨.call 69 [(.t 19)], (some 20), none, []⟩ :: ⟨.iaddr 4 (.t 14) (.t 15), (some 21), none, []⟩ :: L41_6
theorem v41_7 : VS L41_7.eq_1 := rfl
def L41_8 : List AStep := ⟨.iaddr 4 (.t 16) (.t 17), (some 18), none, []⟩ :: ⟨.load 4 true (.t 18), (some 19), none, []⟩ :: L41_7
theorem v41_8 : VS L41_8.eq_1 := rfl
def L41_9 : List AStep := ⟨.mov (.t 0), (some 16), none, []⟩ :: ⟨.mov (.t 4), (some 17), none, []⟩ :: L41_8
theorem v41_9 : VS L41_9.eq_1 := rfl
def L41_10 : List AStep := ⟨.mov (.t 3), (some 14), none, []⟩ :: ⟨.mov (.t 4), (some 15), none, []⟩ :: L41_9
theorem v41_10 : VS L41_10.eq_1 := rfl
def L41_11 : List AStep := [⟨.mov (.t 13), (some 4), none, []⟩]
theorem v41_11 : VS L41_11.eq_1 := rfl
def L41_12 : List AStep := ⟨.mov (.t 4), (some 12), none, []⟩ :: ⟨.bin .add (.t 12) (.c (.int .i64 1)), (some 13), none, []⟩ :: L41_11
theorem v41_12 : VS L41_12.eq_1 := rfl
def L41_13 : List AStep := [⟨.mov (.t 3), (some 22), none, []⟩, ⟨.mov (.t 22), (some 2), none, []⟩]
theorem v41_13 : VS L41_13.eq_1 := rfl
def C41_0 : ACode := .cond (.t 11) .skip (.exit 0)
theorem u41_0 : VC C41_0.eq_1 := rfl
def C41_1 : ACode := .seq (.reg L41_5) C41_0
theorem u41_1 : VC C41_1.eq_1 := rfl
def C41_2 : ACode := .block 1 (.reg L41_10)
theorem u41_2 : VC C41_2.eq_1 := rfl
def C41_3 : ACode := .seq C41_2 (.reg L41_12)
theorem u41_3 : VC C41_3.eq_1 := rfl
def C41_4 : ACode := .seq C41_1 C41_3
theorem u41_4 : VC C41_4.eq_1 := rfl
def C41_5 : ACode := .block 0 (.loop C41_4)
theorem u41_5 : VC C41_5.eq_1 := rfl
def C41_6 : ACode := .seq (.reg L41_3) C41_5
theorem u41_6 : VC C41_6.eq_1 := rfl
def C41_7 : ACode := .seq (.reg L41_13) .ret
theorem u41_7 : VC C41_7.eq_1 := rfl
def C41_8 : ACode := .seq C41_6 C41_7
theorem u41_8 : VC C41_8.eq_1 := rfl
def C41_9 : ACode := .seq (.reg L41_2) C41_8
theorem u41_9 : VC C41_9.eq_1 := rfl
def C41_10 : ACode := .seq (.reg L41_0) C41_9
theorem u41_10 : VC C41_10.eq_1 := rfl
def F41 : AFunc := ⟨23, [.tmp 2], C41_10⟩
theorem cF41 : compB Try.prog 41 = some F41 := by kernel_rfl
attribute [local go_sem ↓] u41_0 u41_1 u41_2 u41_3 u41_4 u41_5 u41_6 u41_7 u41_8 u41_9 u41_10 v41_0 v41_1 v41_2 v41_3 v41_4 v41_5 v41_6 v41_7 v41_8 v41_9 v41_10 v41_11 v41_12 v41_13
theorem c_toParamS {t1 : Nat} (l : List Param) (v : AV) (h : H) (hl : Sl encQ 4 t1 h v l) (hn : l.length ≤ 1048576) : callK (bm Try.prog 41 [v] h) fun r h' => Grow h h' ∧ NwQ h h' r l := by
  refine bm_of cF41 ?_
  simp +contextual (maxSteps := 2000000) only [go_sem, Nat.reduceEqDiff, reduceCtorEq, Nat.reduceAdd, Nat.reduceLeDiff, F41, hl.len]
  refine wp_make (enc := encQ) (k := 4) (⟨(strOfNums []), 0, false, 0⟩ : Param) rfl (by omega) (by omega) ?_
  intro h1 o g1 n1 _
  simp +contextual (maxSteps := 2000000) only [go_sem, Nat.reduceEqDiff, reduceCtorEq, Nat.reduceAdd, Nat.reduceLeDiff]
  refine wpC_loop (fun i T L h' => Grow h h' ∧ T 0 = .v v ∧ T 3 = .v o ∧ T 4 = .v (.one (.int .i64 i)) ∧ NwQ h h' o (fillL l (⟨(strOfNums []), 0, false, 0⟩ : Param) i)) l.length ?_ ?_ (Nat.zero_le _) ?_
  · rintro i T L h' hi ⟨g, t0, t3, t4, no⟩
    have hl := (‹Sl encQ 4 t1 h v l›).grow g
    have hio : i < (fillL l (⟨(strOfNums []), 0, false, 0⟩ : Param) i).length := by rw [fillL_len (by omega)]; exact hi
    simp +contextual (maxSteps := 2000000) only [go_sem, Nat.reduceEqDiff, reduceCtorEq, Nat.reduceAdd, Nat.reduceLeDiff, t0, t3, t4, hl.len, hl.iaddr hi, hl.whole hi, no.iaddr hio, lt_true hi, c_toParam]
    refine wp_setE (x := l[i]) lenQ no hio rfl rfl g ?_
    intro h2 g2 n2 _
    simp +contextual (maxSteps := 2000000) only [go_sem, Nat.reduceEqDiff, reduceCtorEq, Nat.reduceAdd, Nat.reduceLeDiff, t0, t3, t4]
    rw [fillL_set hi] at n2
    exact ⟨g2, by rw [wrap_next hi (by omega)], n2⟩
  · rintro T L h' ⟨g, t0, t3, t4, no⟩
    have hl := (‹Sl encQ 4 t1 h v l›).grow g
    simp +contextual (maxSteps := 2000000) only [go_sem, Nat.reduceEqDiff, reduceCtorEq, Nat.reduceAdd, Nat.reduceLeDiff, t0, t3, t4, hl.len, lt_false]
    rw [fillL_all] at no
    exact gcK_of ⟨g, no⟩ (fun hs _ => ⟨Grow.refl h, no.scalar hs h⟩)
  · simp +contextual (maxSteps := 2000000) only [go_sem, Nat.reduceEqDiff, reduceCtorEq, Nat.reduceAdd, Nat.reduceLeDiff]
    exact ⟨g1, rfl, by rw [fillL_zero]; exact n1⟩
/-! laws.toPairS -/
def L43_0 : List AStep := [⟨.mov (.c (.sl none 0 (some 0))), (some 2), none, []⟩]
theorem v43_0 : VS L43_0.eq_1 := rfl
def L43_1 : List AStep := [⟨.mkslice 98 24 [(.str (strOfNums [])), (.int .i64 0)] (.t 6) (.t 6), (some 7), none, []⟩, ⟨.mov (.t 7), (some 3), none, []⟩]
theorem v43_1 : VS L43_1.eq_1 := rfl
def L43_2 : List AStep := ⟨.mov (.t 0), (some 5), none, []⟩ :: ⟨.len (.t 5), (some 6), none, []⟩ :: L43_1
theorem v43_2 : VS L43_2.eq_1 := rfl
def L43_3 : List AStep := [⟨.mov (.c (.int .i64 0)), (some 4), none, []⟩]
theorem v43_3 : VS L43_3.eq_1 := rfl
def L43_4 : List AStep := [⟨.len (.t 9), (some 10), none, []⟩, ⟨.bin .lss (.t 8) (.t 10), (some 11), none, []⟩]
theorem v43_4 : VS L43_4.eq_1 := rfl
def L43_5 : List AStep := ⟨.mov (.t 4), (some 8), none, []⟩ :: ⟨.mov (.t 0), (some 9), none, []⟩ :: L43_4
theorem v43_5 : VS L43_5.eq_1 := rfl
def L43_6 : List AStep := [⟨.store 2 (.t 21) (.t 20), none, none, []⟩]
theorem v43_6 : VS L43_6.eq_1 := rfl
def L43_7 : List AStep := ⟨.call 70 [(.t 19)], (some 20), none, []⟩ :: ⟨.iaddr 2 (.t 14) (.t 15), (some 21), none, []⟩ :: L43_6
theorem v43_7 : VS L43_7.eq_1 := rfl
def L43_8 : List AStep := ⟨.iaddr 2 (.t 16) (.t 17), (some 18), none, []⟩ :: ⟨.load 2 true (.t 18), (some 19), none, []⟩ :: L43_7
theorem v43_8 : VS L43_8.eq_1 := rfl
def L43_9 : List AStep := ⟨.mov (.t 0), (some 16), none, []⟩ :: ⟨.mov (.t 4), (some 17), none, []⟩ :: L43_8
theorem v43_9 : VS L43_9.eq_1 := rfl
def L43_10 : List AStep := ⟨.mov (.t 3), (some 14), none, []⟩ :: ⟨.mov (.t 4), (some 15), none, []⟩ :: L43_9
theorem v43_10 : VS L43_10.eq_1 := rfl
def L43_11 : List AStep := [⟨.mov (.t 13), (some 4), none, []⟩]
theorem v43_11 : VS L43_11.eq_1 := rfl
def L43_12 : List AStep := ⟨.mov (.t 4), (some 12), none, []⟩ :: ⟨.bin .add (.t 12) (.c (.int .i64 1)), (some 13), none, []⟩ :: L43_11
theorem v43_12 : VS L43_12.eq_1 := rfl
def L43_13 : List AStep := [⟨.mov (.t 3), (some 22), none, []⟩, ⟨.mov (.t 22), (some 2), none, []⟩]
theorem v43_13 : VS L43_13.eq_1 := rfl
def C43_0 : ACode := .cond (.t 11) .skip (.exit 0)
theorem u43_0 : VC C43_0.eq_1 := rfl
def C43_1 : ACode := .seq (.reg L43_5) C43_0
theorem u43_1 : VC C43_1.eq_1 := rfl
def C43_2 : ACode := .block 1 (.reg L43_10)
theorem u43_2 : VC C43_2.eq_1 := rfl
def C43_3 : ACode := .seq C43_2 (.reg L43_12)
theorem u43_3 : VC C43_3.eq_1 := rfl
def C43_4 : ACode := .seq C43_1 C43_3
theorem u43_4 : VC C43_4.eq_1 := rfl
def C43_5 : ACode := .block 0 (.loop C43_4)
theorem u43_5 : VC C43_5.eq_1 := rfl
def C43_6 : ACode := .seq (.reg L43_3) C43_5
theorem u43_6 : VC C43_6.eq_1 := rfl
def C43_7 : ACode := .seq (.reg L43_13) .ret
theorem u43_7 : VC C43_7.eq_1 := rfl
def C43_8 : ACode := .seq C43_6 C43_7
theorem u43_8 : VC C43_8.eq_1 := rfl
def C43_9 : ACode := .seq (.reg L43_2) C43_8
theorem u43_9 : VC C43_9.eq_1 := rfl
def C43_10 : ACode := .seq (.reg L43_0) C43_9
theorem u43_10 : VC C43_10.eq_1 := rfl
def F43 : AFunc := ⟨23, [.tmp 2], C43_10⟩
theorem cF43 : compB Try.prog 43 = some F43 := by kernel_rfl
attribute [local go_sem ↓] u43_0 u43_1 u43_2 u43_3 u43_4 u43_5 u43_6 u43_7 u43_8 u43_9 u43_10 v43_0 v43_1 v43_2 v43_3 v43_4 v43_5 v43_6 v43_7 v43_8 v43_9 v43_10 v43_11 v43_12 v43_13
theorem c_toPairS {t1 : Nat} (l : List Pair) (v : AV) (h : H) (hl : Sl encP 2 t1 h v l) (hn : l.length ≤ 1048576) : callK (bm Try.prog 43 [v] h) fun r h' => Grow h h' ∧ NwP h h' r l := by
  refine bm_of cF43 ?_
  simp +contextual (maxSteps := 2000000) only [go_sem, Nat.reduceEqDiff, reduceCtorEq, Nat.reduceAdd, Nat.reduceLeDiff, F43, hl.len]
  refine wp_make (enc := encP) (k := 2) (⟨(strOfNums []), 0⟩ : Pair) rfl (by omega) (by omega) ?_
  intro h1 o g1 n1 _
  simp +contextual (maxSteps := 2000000) only [go_sem, Nat.reduceEqDiff, reduceCtorEq, Nat.reduceAdd, Nat.reduceLeDiff]
  refine wpC_loop (fun i T L h' => Grow h h' ∧ T 0 = .v v ∧ T 3 = .v o ∧ T 4 = .v (.one (.int .i64 i)) ∧ NwP h h' o (fillL l (⟨(strOfNums []), 0⟩ : Pair) i)) l.length ?_ ?_ (Nat.zero_le _) ?_
  · rintro i T L h' hi ⟨g, t0, t3, t4, no⟩
    have hl := (‹Sl encP 2 t1 h v l›).grow g
    have hio : i < (fillL l (⟨(strOfNums []), 0⟩ : Pair) i).length := by rw [fillL_len (by omega)]; exact hi
    simp +contextual (maxSteps := 2000000) only [go_sem, Nat.reduceEqDiff, reduceCtorEq, Nat.reduceAdd, Nat.reduceLeDiff, t0, t3, t4, hl.len, hl.iaddr hi, hl.whole hi, no.iaddr hio, lt_true hi, c_toPair]
    refine wp_setE (x := l[i]) lenP no hio rfl rfl g ?_
    intro h2 g2 n2 _
    simp +contextual (maxSteps := 2000000) only [go_sem, Nat.reduceEqDiff, reduceCtorEq, Nat.reduceAdd, Nat.reduceLeDiff, t0, t3, t4]
    rw [fillL_set hi] at n2
    exact ⟨g2, by rw [wrap_next hi (by omega)], n2⟩
  · rintro T L h' ⟨g, t0, t3, t4, no⟩
    have hl := (‹Sl encP 2 t1 h v l›).grow g
    simp +contextual (maxSteps := 2000000) only [go_sem, Nat.reduceEqDiff, reduceCtorEq, Nat.reduceAdd, Nat.reduceLeDiff, t0, t3, t4, hl.len, lt_false]
    rw [fillL_all] at no
    exact gcK_of ⟨g, no⟩ (fun hs _ => ⟨Grow.refl h, no.scalar hs h⟩)
  · simp +contextual (maxSteps := 2000000) only [go_sem, Nat.reduceEqDiff, reduceCtorEq, Nat.reduceAdd, Nat.reduceLeDiff]
    exact ⟨g1, rfl, by rw [fillL_zero]; exact n1⟩
/-! laws.markIntS -/
def L51_0 : List AStep := [⟨.mov (.c (.int .i64 0)), (some 4), none, []⟩]
theorem v51_0 : VS L51_0.eq_1 := rfl
def L51_1 : List AStep := [⟨.mov (.c (.int .i64 0)), (some 5), none, []⟩]
theorem v51_1 : VS L51_1.eq_1 := rfl
def L51_2 : List AStep := [⟨.len (.t 7), (some 8), none, []⟩, ⟨.bin .lss (.t 6) (.t 8), (some 9), none, []⟩]
theorem v51_2 : VS L51_2.eq_1 := rfl
def L51_3 : List AStep := ⟨.mov (.t 5), (some 6), none, []⟩ :: ⟨.mov (.t 0), (some 7), none, []⟩ :: L51_2
theorem v51_3 : VS L51_3.eq_1 := rfl
def L51_4 : List AStep := [⟨.store 1 (.t 15) (.t 14), none, none, []⟩]
theorem v51_4 : VS L51_4.eq_1 := rfl
def L51_5 : List AStep := ⟨.mov (.t 1), (some 14), none, []⟩ :: ⟨.iaddr 1 (.t 12) (.t 13), (some 15), none, []⟩ :: L51_4
theorem v51_5 : VS L51_5.eq_1 := rfl
def L51_6 : List AStep := ⟨.mov (.t 0), (some 12), none, []⟩ :: ⟨.mov (.t 5), (some 13), none, []⟩ :: L51_5
theorem v51_6 : VS L51_6.eq_1 := rfl
def L51_7 : List AStep := [⟨.mov (.t 17), (some 1), none, []⟩]
theorem v51_7 : VS L51_7.eq_1 := rfl
def L51_8 : List AStep := ⟨.mov (.t 1), (some 16), none, []⟩ :: ⟨.bin .add (.t 16) (.c (.int .i64 1)), (some 17), none, []⟩ :: L51_7
theorem v51_8 : VS L51_8.eq_1 := rfl
def L51_9 : List AStep := [⟨.mov (.t 11), (some 5), none, []⟩]
theorem v51_9 : VS L51_9.eq_1 := rfl
def L51_10 : List AStep := ⟨.mov (.t 5), (some 10), none, []⟩ :: ⟨.bin .add (.t 10) (.c (.int .i64 1)), (some 11), none, []⟩ :: L51_9
theorem v51_10 : VS L51_10.eq_1 := rfl
def L51_11 : List AStep := [⟨.mov (.t 1), (some 18), none, []⟩, ⟨.mov (.t 18), (some 4), none, []⟩]
theorem v51_11 : VS L51_11.eq_1 := rfl
def C51_0 : ACode := .cond (.t 9) .skip (.exit 0)
theorem u51_0 : VC C51_0.eq_1 := rfl
def C51_1 : ACode := .seq (.reg L51_3) C51_0
theorem u51_1 : VC C51_1.eq_1 := rfl
def C51_2 : ACode := .seq (.reg L51_6) (.reg L51_8)
theorem u51_2 : VC C51_2.eq_1 := rfl
def C51_3 : ACode := .block 1 C51_2
theorem u51_3 : VC C51_3.eq_1 := rfl
def C51_4 : ACode := .seq C51_3 (.reg L51_10)
theorem u51_4 : VC C51_4.eq_1 := rfl
def C51_5 : ACode := .seq C51_1 C51_4
theorem u51_5 : VC C51_5.eq_1 := rfl
def C51_6 : ACode := .block 0 (.loop C51_5)
theorem u51_6 : VC C51_6.eq_1 := rfl
def C51_7 : ACode := .seq (.reg L51_1) C51_6
theorem u51_7 : VC C51_7.eq_1 := rfl
def C51_8 : ACode := .seq (.reg L51_11) .ret
theorem u51_8 : VC C51_8.eq_1 := rfl
def C51_9 : ACode := .seq C51_7 C51_8
theorem u51_9 : VC C51_9.eq_1 := rfl
def C51_10 : ACode := .seq (.reg L51_0) C51_9
theorem u51_10 : VC C51_10.eq_1 := rfl
def F51 : AFunc := ⟨19, [.tmp 4], C51_10⟩
theorem cF51 : compB Try.prog 51 = some F51 := by kernel_rfl
attribute [local go_sem ↓] u51_0 u51_1 u51_2 u51_3 u51_4 u51_5 u51_6 u51_7 u51_8 u51_9 u51_10 v51_0 v51_1 v51_2 v51_3 v51_4 v51_5 v51_6 v51_7 v51_8 v51_9 v51_10 v51_11
theorem c_markIntS (l : List Int) (v : AV) (k : Int) (h0 h : H) (hl : NwI h0 h v l) (g : Grow h0 h) (k1 : 0 ≤ k) (k2 : k ≤ 2 ^ 40) (hn : l.length ≤ 2 ^ 30) :
    callK (bm Try.prog 51 [v, .one (.int .i64 k)] h) fun r h' => r = ii (k + ((1 * l.length : Nat) : Int)) ∧ Grow h0 h' ∧ NwI h0 h' v (markL mkI 1 k l.length) ∧ Stay v h h' := by
  refine bm_of cF51 ?_
  simp +contextual (maxSteps := 2000000) only [go_sem, Nat.reduceEqDiff, reduceCtorEq, Nat.reduceAdd, Nat.reduceLeDiff, F51]
  refine wpC_loop (fun i T L h' => Grow h0 h' ∧ T 0 = .v v ∧ T 1 = .v (.one (.int .i64 (k + ((1 * i : Nat) : Int)))) ∧ T 5 = .v (.one (.int .i64 i)) ∧ NwI h0 h' v (markT mkI 1 k l i) ∧ Stay v h h') l.length ?_ ?_ (Nat.zero_le _) ?_
  · rintro i T L h' hi ⟨g, t0, t1, t5, no, st⟩
    have hlen : (markT mkI 1 k l i).length = l.length := markT_len (by omega)
    have hio : i < (markT mkI 1 k l i).length := by omega
    have hln := no.length
    rw [hlen] at hln
    have hia := no.iaddr hio (kd := .i64)
    have wr1 : IntKind.i64.wrap ((k + ((1 * i : Nat) : Int)) + 1) = (k + ((1 * i : Nat) : Int) + 1) := (i64_wrap (by omega) (by omega)).trans (by omega)
    simp +contextual (maxSteps := 2000000) only [go_sem, Nat.reduceEqDiff, reduceCtorEq, Nat.reduceAdd, Nat.reduceLeDiff, t0, t1, t5, hln, hia, lt_true hi, wr1]
    refine wp_setE (x := (k + ((1 * i : Nat) : Int))) lenI no hio rfl rfl g ?_
    intro h2 g2 n2 s2
    simp +contextual (maxSteps := 2000000) only [go_sem, Nat.reduceEqDiff, reduceCtorEq, Nat.reduceAdd, Nat.reduceLeDiff, t0, t1, t5, hln, hia, wr1]
    have e : (markT mkI 1 k l i).set i (mkI (k + ((1 * i : Nat) : Int))) = markT mkI 1 k l (i + 1) := markT_set hi
    have n3 : NwI h0 h2 v (markT mkI 1 k l (i + 1)) := by rw [← e]; exact n2
    refine ⟨g2, by rw [show k + ((1 * (i + 1) : Nat) : Int) = (k + ((1 * i : Nat) : Int) + 1) by omega], by rw [wrap_next hi (by omega)], n3, (st.trans s2)⟩
  · rintro T L h' ⟨g, t0, t1, t5, no, st⟩
    have hln := no.length
    rw [markT_len (Nat.le_refl _)] at hln
    simp +contextual (maxSteps := 2000000) only [go_sem, Nat.reduceEqDiff, reduceCtorEq, Nat.reduceAdd, Nat.reduceLeDiff, t0, t1, t5, hln, lt_false]
    rw [markT_all] at no
    exact gcK_of ⟨rfl, g, no, st⟩ (fun _ gg => ⟨rfl, ‹Grow h0 h›, no.back hl gg, (Grow.refl h).stay v⟩)
  · simp +contextual (maxSteps := 2000000) only [go_sem, Nat.reduceEqDiff, reduceCtorEq, Nat.reduceAdd, Nat.reduceLeDiff]
    exact ⟨g, by simp, rfl, by rw [markT_zero]; exact hl, (Grow.refl h).stay v⟩
/-! laws.heldIntS -/
def L82_0 : List AStep := [⟨.mov (.c (.int .i64 0)), (some 4), none, []⟩]
theorem v82_0 : VS L82_0.eq_1 := rfl
def L82_1 : List AStep := [⟨.mov (.c (.int .i64 0)), (some 5), none, []⟩]
theorem v82_1 : VS L82_1.eq_1 := rfl
def L82_2 : List AStep := [⟨.len (.t 7), (some 8), none, []⟩, ⟨.bin .lss (.t 6) (.t 8), (some 9), none, []⟩]
theorem v82_2 : VS L82_2.eq_1 := rfl
def L82_3 : List AStep := ⟨.mov (.t 5), (some 6), none, []⟩ :: ⟨.mov (.t 0), (some 7), none, []⟩ :: L82_2
theorem v82_3 : VS L82_3.eq_1 := rfl
def L82_4 : List AStep := [⟨.mov (.t 1), (some 16), none, []⟩, ⟨.bin .neq (.t 15) (.t 16), (some 17), none, []⟩]
theorem v82_4 : VS L82_4.eq_1 := rfl
def L82_5 : List AStep := ⟨.iaddr 1 (.t 12) (.t 13), (some 14), none, []⟩ :: ⟨.load 1 false (.t 14), (some 15), none, []⟩ :: L82_4
theorem v82_5 : VS L82_5.eq_1 := rfl
def L82_6 : List AStep := ⟨.mov (.t 0), (some 12), none, []⟩ :: ⟨.mov (.t 5), (some 13), none, []⟩ :: L82_5
theorem v82_6 : VS L82_6.eq_1 := rfl
def L82_7 : List AStep := [⟨.mov (.c (.int .i64 (-1))), (some 4), none, []⟩]
theorem v82_7 : VS L82_7.eq_1 := rfl
def L82_8 : List AStep := [⟨.mov (.t 19), (some 1), none, []⟩]
theorem v82_8 : VS L82_8.eq_1 := rfl
def L82_9 : List AStep := ⟨.mov (.t 1), (some 18), none, []⟩ :: ⟨.bin .add (.t 18) (.c (.int .i64 1)), (some 19), none, []⟩ :: L82_8
theorem v82_9 : VS L82_9.eq_1 := rfl
def L82_10 : List AStep := [⟨.mov (.t 11), (some 5), none, []⟩]
theorem v82_10 : VS L82_10.eq_1 := rfl
def L82_11 : List AStep := ⟨.mov (.t 5), (some 10), none, []⟩ :: ⟨.bin .add (.t 10) (.c (.int .i64 1)), (some 11), none, []⟩ :: L82_10
theorem v82_11 : VS L82_11.eq_1 := rfl
def L82_12 : List AStep := [⟨.mov (.t 1), (some 20), none, []⟩, ⟨.mov (.t 20), (some 4), none, []⟩]
theorem v82_12 : VS L82_12.eq_1 := rfl
def C82_0 : ACode := .cond (.t 9) .skip (.exit 0)
theorem u82_0 : VC C82_0.eq_1 := rfl
def C82_1 : ACode := .seq (.reg L82_3) C82_0
theorem u82_1 : VC C82_1.eq_1 := rfl
def C82_2 : ACode := .seq (.reg L82_7) .ret
theorem u82_2 : VC C82_2.eq_1 := rfl
def C82_3 : ACode := .cond (.t 17) C82_2 .skip
theorem u82_3 : VC C82_3.eq_1 := rfl
def C82_4 : ACode := .seq (.reg L82_6) C82_3
theorem u82_4 : VC C82_4.eq_1 := rfl
def C82_5 : ACode := .seq C82_4 (.reg L82_9)
theorem u82_5 : VC C82_5.eq_1 := rfl
def C82_6 : ACode := .block 1 C82_5
theorem u82_6 : VC C82_6.eq_1 := rfl
def C82_7 : ACode := .seq C82_6 (.reg L82_11)
theorem u82_7 : VC C82_7.eq_1 := rfl
def C82_8 : ACode := .seq C82_1 C82_7
theorem u82_8 : VC C82_8.eq_1 := rfl
def C82_9 : ACode := .block 0 (.loop C82_8)
theorem u82_9 : VC C82_9.eq_1 := rfl
def C82_10 : ACode := .seq (.reg L82_1) C82_9
theorem u82_10 : VC C82_10.eq_1 := rfl
def C82_11 : ACode := .seq (.reg L82_12) .ret
theorem u82_11 : VC C82_11.eq_1 := rfl
def C82_12 : ACode := .seq C82_10 C82_11
theorem u82_12 : VC C82_12.eq_1 := rfl
def C82_13 : ACode := .seq (.reg L82_0) C82_12
theorem u82_13 : VC C82_13.eq_1 := rfl
def F82 : AFunc := ⟨21, [.tmp 4], C82_13⟩
theorem cF82 : compB Try.prog 82 = some F82 := by kernel_rfl
attribute [local go_sem ↓] u82_0 u82_1 u82_2 u82_3 u82_4 u82_5 u82_6 u82_7 u82_8 u82_9 u82_10 u82_11 u82_12 u82_13 v82_0 v82_1 v82_2 v82_3 v82_4 v82_5 v82_6 v82_7 v82_8 v82_9 v82_10 v82_11 v82_12
theorem c_heldIntS (n : Nat) (v : AV) (k : Int) (h : H) (hl : SlI h v (markL mkI 1 k n)) (k1 : 0 ≤ k) (k2 : k ≤ 2 ^ 40) (hn : n ≤ 2 ^ 30) :
    bm Try.prog 82 [v, .one (.int .i64 k)] h = some (ii (k + ((1 * n : Nat) : Int)), h) := by
  refine bm_eq cF82 ?_
  have hlen := hl.len
  rw [markL_len] at hlen
  simp +contextual (maxSteps := 2000000) only [go_sem, Nat.reduceEqDiff, reduceCtorEq, Nat.reduceAdd, Nat.reduceLeDiff, F82]
  refine wpC_loop (fun i T L h' => h' = h ∧ T 0 = .v v ∧ T 1 = .v (.one (.int .i64 (k + ((1 * i : Nat) : Int)))) ∧ T 5 = .v (.one (.int .i64 i))) n ?_ ?_ (Nat.zero_le _) ?_
  · rintro i T L h' hi ⟨rfl, t0, t1, t5⟩
    have hio : i < (markL mkI 1 k n).length := by rw [markL_len]; exact hi
    have hat := markL_at hio
    have hia := hl.iaddr hio (kd := .i64)
    have hf : ∀ off : Nat, off + 1 ≤ 1 → _ := fun off ho => hl.fieldO (off := off) hio ho
    rw [hat] at hf
    have h0 := hl.field0 (c := .int .i64 (k + ((1 * i : Nat) : Int))) hio (by rw [hat]; rfl)
    have wr1 : IntKind.i64.wrap ((k + ((1 * i : Nat) : Int)) + 1) = (k + ((1 * i : Nat) : Int) + 1) := (i64_wrap (by omega) (by omega)).trans (by omega)
    simp +contextual (maxSteps := 2000000) only [go_sem, Nat.reduceEqDiff, reduceCtorEq, Nat.reduceAdd, Nat.reduceLeDiff, t0, t1, t5, hlen, hia, hf, h0, lt_true hi, decide_true, mkI, mBool, wr1]
    rw [show k + ((1 * (i + 1) : Nat) : Int) = (k + ((1 * i : Nat) : Int) + 1) by omega, wrap_next hi (by omega)]
    try exact ⟨rfl, rfl⟩
  · rintro T L h' ⟨rfl, t0, t1, t5⟩
    simp +contextual (maxSteps := 2000000) only [go_sem, Nat.reduceEqDiff, reduceCtorEq, Nat.reduceAdd, Nat.reduceLeDiff, t0, t1, t5, hlen, lt_false]
  · simp +contextual (maxSteps := 2000000) only [go_sem, Nat.reduceEqDiff, reduceCtorEq, Nat.reduceAdd, Nat.reduceLeDiff]
    simp
/-! laws.markPairS -/
def L52_0 : List AStep := [⟨.mov (.c (.int .i64 0)), (some 4), none, []⟩]
theorem v52_0 : VS L52_0.eq_1 := rfl
def L52_1 : List AStep := [⟨.mov (.c (.int .i64 0)), (some 5), none, []⟩]
theorem v52_1 : VS L52_1.eq_1 := rfl
def L52_2 : List AStep := [⟨.len (.t 7), (some 8), none, []⟩, ⟨.bin .lss (.t 6) (.t 8), (some 9), none, []⟩]
theorem v52_2 : VS L52_2.eq_1 := rfl
def L52_3 : List AStep := ⟨.mov (.t 5), (some 6), none, []⟩ :: ⟨.mov (.t 0), (some 7), none, []⟩ :: L52_2
theorem v52_3 : VS L52_3.eq_1 := rfl
def L52_4 : List AStep := [⟨.store 1 (.t 17) (.t 15), none, none, []⟩]
theorem v52_4 : VS L52_4.eq_1 := rfl
def L52_5 : List AStep := ⟨.iaddr 2 (.t 12) (.t 13), (some 16), none, []⟩ :: ⟨.faddr 0 (.t 16), (some 17), none, []⟩ :: L52_4
theorem v52_5 : VS L52_5.eq_1 := rfl
def L52_6 : List AStep := ⟨.mov (.t 1), (some 14), none, []⟩ :: ⟨.call 59 [(.t 14)], (some 15), none, []⟩ :: L52_5
theorem v52_6 : VS L52_6.eq_1 := rfl
def L52_7 : List AStep := ⟨.mov (.t 0), (some 12), none, []⟩ :: ⟨.mov (.t 5), (some 13), none, []⟩ :: L52_6
theorem v52_7 : VS L52_7.eq_1 := rfl
def L52_8 : List AStep := [⟨.mov (.t 19), (some 1), none, []⟩]
theorem v52_8 : VS L52_8.eq_1 := rfl
def L52_9 : List AStep := ⟨.mov (.t 1), (some 18), none, []⟩ :: ⟨.bin .add (.t 18) (.c (.int .i64 1)), (some 19), none, []⟩ :: L52_8
theorem v52_9 : VS L52_9.eq_1 := rfl
def L52_10 : List AStep := [⟨.faddr 1 (.t 23), (some 24), none, []⟩, ⟨.store 1 (.t 24) (.t 22), none, none, []⟩]
theorem v52_10 : VS L52_10.eq_1 := rfl
def L52_11 : List AStep := ⟨.mov (.t 1), (some 22), none, []⟩ :: ⟨.iaddr 2 (.t 20) (.t 21), (some 23), none, []⟩ :: L52_10
theorem v52_11 : VS L52_11.eq_1 := rfl
def L52_12 : List AStep := ⟨.mov (.t 0), (some 20), none, []⟩ :: ⟨.mov (.t 5), (some 21), none, []⟩ :: L52_11
theorem v52_12 : VS L52_12.eq_1 := rfl
def L52_13 : List AStep := [⟨.mov (.t 26), (some 1), none, []⟩]
theorem v52_13 : VS L52_13.eq_1 := rfl
def L52_14 : List AStep := ⟨.mov (.t 1), (some 25), none, []⟩ :: ⟨.bin .add (.t 25) (.c (.int .i64 1)), (some 26), none, []⟩ :: L52_13
theorem v52_14 : VS L52_14.eq_1 := rfl
def L52_15 : List AStep := [⟨.mov (.t 11), (some 5), none, []⟩]
theorem v52_15 : VS L52_15.eq_1 := rfl
def L52_16 : List AStep := ⟨.mov (.t 5), (some 10), none, []⟩ :: ⟨.bin .add (.t 10) (.c (.int .i64 1)), (some 11), none, []⟩ :: L52_15
theorem v52_16 : VS L52_16.eq_1 := rfl
def L52_17 : List AStep := [⟨.mov (.t 1), (some 27), none, []⟩, ⟨.mov (.t 27), (some 4), none, []⟩]
theorem v52_17 : VS L52_17.eq_1 := rfl
def C52_0 : ACode := .cond (.t 9) .skip (.exit 0)
theorem u52_0 : VC C52_0.eq_1 := rfl
def C52_1 : ACode := .seq (.reg L52_3) C52_0
theorem u52_1 : VC C52_1.eq_1 := rfl
def C52_2 : ACode := .seq (.reg L52_12) (.reg L52_14)
theorem u52_2 : VC C52_2.eq_1 := rfl
def C52_3 : ACode := .seq (.reg L52_9) C52_2
theorem u52_3 : VC C52_3.eq_1 := rfl
def C52_4 : ACode := .seq (.reg L52_7) C52_3
theorem u52_4 : VC C52_4.eq_1 := rfl
def C52_5 : ACode := .block 1 C52_4
theorem u52_5 : VC C52_5.eq_1 := rfl
def C52_6 : ACode := .seq C52_5 (.reg L52_16)
theorem u52_6 : VC C52_6.eq_1 := rfl
def C52_7 : ACode := .seq C52_1 C52_6
theorem u52_7 : VC C52_7.eq_1 := rfl
def C52_8 : ACode := .block 0 (.loop C52_7)
theorem u52_8 : VC C52_8.eq_1 := rfl
def C52_9 : ACode := .seq (.reg L52_1) C52_8
theorem u52_9 : VC C52_9.eq_1 := rfl
def C52_10 : ACode := .seq (.reg L52_17) .ret
theorem u52_10 : VC C52_10.eq_1 := rfl
def C52_11 : ACode := .seq C52_9 C52_10
theorem u52_11 : VC C52_11.eq_1 := rfl
def C52_12 : ACode := .seq (.reg L52_0) C52_11
theorem u52_12 : VC C52_12.eq_1 := rfl
def F52 : AFunc := ⟨28, [.tmp 4], C52_12⟩
theorem cF52 : compB Try.prog 52 = some F52 := by kernel_rfl
attribute [local go_sem ↓] u52_0 u52_1 u52_2 u52_3 u52_4 u52_5 u52_6 u52_7 u52_8 u52_9 u52_10 u52_11 u52_12 v52_0 v52_1 v52_2 v52_3 v52_4 v52_5 v52_6 v52_7 v52_8 v52_9 v52_10 v52_11 v52_12 v52_13 v52_14 v52_15 v52_16 v52_17
theorem c_markPairS (l : List Pair) (v : AV) (k : Int) (h0 h : H) (hl : NwP h0 h v l) (g : Grow h0 h) (k1 : 0 ≤ k) (k2 : k ≤ 2 ^ 40) (hn : l.length ≤ 2 ^ 30) :
    callK (bm Try.prog 52 [v, .one (.int .i64 k)] h) fun r h' => r = ii (k + ((2 * l.length : Nat) : Int)) ∧ Grow h0 h' ∧ NwP h0 h' v (markL mkP 2 k l.length) ∧ Stay v h h' := by
  refine bm_of cF52 ?_
  simp +contextual (maxSteps := 2000000) only [go_sem, Nat.reduceEqDiff, reduceCtorEq, Nat.reduceAdd, Nat.reduceLeDiff, F52]
  refine wpC_loop (fun i T L h' => Grow h0 h' ∧ T 0 = .v v ∧ T 1 = .v (.one (.int .i64 (k + ((2 * i : Nat) : Int)))) ∧ T 5 = .v (.one (.int .i64 i)) ∧ NwP h0 h' v (markT mkP 2 k l i) ∧ Stay v h h') l.length ?_ ?_ (Nat.zero_le _) ?_
  · rintro i T L h' hi ⟨g, t0, t1, t5, no, st⟩
    have hlen : (markT mkP 2 k l i).length = l.length := markT_len (by omega)
    have hio : i < (markT mkP 2 k l i).length := by omega
    have hln := no.length
    rw [hlen] at hln
    have hia := no.iaddr hio (kd := .i64)
    have wr1 : IntKind.i64.wrap ((k + ((2 * i : Nat) : Int)) + 1) = (k + ((2 * i : Nat) : Int) + 1) := (i64_wrap (by omega) (by omega)).trans (by omega)
    have wr2 : IntKind.i64.wrap ((k + ((2 * i : Nat) : Int) + 1) + 1) = (k + ((2 * i : Nat) : Int) + 2) := (i64_wrap (by omega) (by omega)).trans (by omega)
    simp +contextual (maxSteps := 2000000) only [go_sem, Nat.reduceEqDiff, reduceCtorEq, Nat.reduceAdd, Nat.reduceLeDiff, t0, t1, t5, hln, hia, lt_true hi, wr1, wr2, c_markText (k + ((2 * i : Nat) : Int)) _ (by omega)]
    refine wp_set (x := (⟨mtxt (k + ((2 * i : Nat) : Int)), (markT mkP 2 k l i)[i].value⟩ : Pair)) (off := 0) (vs := [.str (mtxt (k + ((2 * i : Nat) : Int)))]) lenP no (by first | exact hio | (simp only [List.length_set]; exact hio)) rfl (by simp [encP, List.getElem_set_self]) (Nat.le_of_ble_eq_true rfl) g ?_
    intro h2 g2 n2 s2
    try rw [List.set_set] at n2
    simp +contextual (maxSteps := 2000000) only [go_sem, Nat.reduceEqDiff, reduceCtorEq, Nat.reduceAdd, Nat.reduceLeDiff, t0, t1, t5, hln, hia, wr1, wr2, c_markText (k + ((2 * i : Nat) : Int)) _ (by omega)]
    refine wp_set (x := (⟨mtxt (k + ((2 * i : Nat) : Int)), (k + ((2 * i : Nat) : Int) + 1)⟩ : Pair)) (off := 1) (vs := [.int .i64 (k + ((2 * i : Nat) : Int) + 1)]) lenP n2 (by first | exact hio | (simp only [List.length_set]; exact hio)) rfl (by simp [encP, List.getElem_set_self]) (Nat.le_of_ble_eq_true rfl) g2 ?_
    intro h3 g3 n3 s3
    try rw [List.set_set] at n3
    simp +contextual (maxSteps := 2000000) only [go_sem, Nat.reduceEqDiff, reduceCtorEq, Nat.reduceAdd, Nat.reduceLeDiff, t0, t1, t5, hln, hia, wr1, wr2, c_markText (k + ((2 * i : Nat) : Int)) _ (by omega)]
    have e : (markT mkP 2 k l i).set i (mkP (k + ((2 * i : Nat) : Int))) = markT mkP 2 k l (i + 1) := markT_set hi
    have n4 : NwP h0 h3 v (markT mkP 2 k l (i + 1)) := by rw [← e]; exact n3
    refine ⟨g3, by rw [show k + ((2 * (i + 1) : Nat) : Int) = (k + ((2 * i : Nat) : Int) + 2) by omega], by rw [wrap_next hi (by omega)], n4, ((st.trans s2).trans s3)⟩
  · rintro T L h' ⟨g, t0, t1, t5, no, st⟩
    have hln := no.length
    rw [markT_len (Nat.le_refl _)] at hln
    simp +contextual (maxSteps := 2000000) only [go_sem, Nat.reduceEqDiff, reduceCtorEq, Nat.reduceAdd, Nat.reduceLeDiff, t0, t1, t5, hln, lt_false]
    rw [markT_all] at no
    exact gcK_of ⟨rfl, g, no, st⟩ (fun _ gg => ⟨rfl, ‹Grow h0 h›, no.back hl gg, (Grow.refl h).stay v⟩)
  · simp +contextual (maxSteps := 2000000) only [go_sem, Nat.reduceEqDiff, reduceCtorEq, Nat.reduceAdd, Nat.reduceLeDiff]
    exact ⟨g, by simp, rfl, by rw [markT_zero]; exact hl, (Grow.refl h).stay v⟩
/-! laws.heldPairS -/
def L83_0 : List AStep := [⟨.mov (.c (.int .i64 0)), (some 4), none, []⟩]
theorem v83_0 : VS L83_0.eq_1 := rfl
def L83_1 : List AStep := [⟨.mov (.c (.int .i64 0)), (some 5), none, []⟩]
theorem v83_1 : VS L83_1.eq_1 := rfl
def L83_2 : List AStep := [⟨.len (.t 7), (some 8), none, []⟩, ⟨.bin .lss (.t 6) (.t 8), (some 9), none, []⟩]
theorem v83_2 : VS L83_2.eq_1 := rfl
def L83_3 : List AStep := ⟨.mov (.t 5), (some 6), none, []⟩ :: ⟨.mov (.t 0), (some 7), none, []⟩ :: L83_2
theorem v83_3 : VS L83_3.eq_1 := rfl
def L83_4 : List AStep := [⟨.call 59 [(.t 17)], (some 18), none, [(.load 1 false (.t 15), (some 16), none)]⟩, ⟨.bin .neq (.t 16) (.t 18), (some 19), none, []⟩]
theorem v83_4 : VS L83_4.eq_1 := rfl
def L83_5 : List AStep := ⟨.load 1 false (.t 15), (some 16), none, []⟩ :: ⟨.mov (.t 1), (some 17), none, []⟩ :: L83_4
theorem v83_5 : VS L83_5.eq_1 := rfl
def L83_6 : List AStep := ⟨.iaddr 2 (.t 12) (.t 13), (some 14), none, []⟩ :: ⟨.faddr 0 (.t 14), (some 15), none, []⟩ :: L83_5
theorem v83_6 : VS L83_6.eq_1 := rfl
def L83_7 : List AStep := ⟨.mov (.t 0), (some 12), none, []⟩ :: ⟨.mov (.t 5), (some 13), none, []⟩ :: L83_6
theorem v83_7 : VS L83_7.eq_1 := rfl
def L83_8 : List AStep := [⟨.mov (.c (.int .i64 (-1))), (some 4), none, []⟩]
theorem v83_8 : VS L83_8.eq_1 := rfl
def L83_9 : List AStep := [⟨.mov (.t 21), (some 1), none, []⟩]
theorem v83_9 : VS L83_9.eq_1 := rfl
def L83_10 : List AStep := ⟨.mov (.t 1), (some 20), none, []⟩ :: ⟨.bin .add (.t 20) (.c (.int .i64 1)), (some 21), none, []⟩ :: L83_9
theorem v83_10 : VS L83_10.eq_1 := rfl
def L83_11 : List AStep := [⟨.bin .neq (.t 26) (.t 27), (some 28), none, []⟩]
theorem v83_11 : VS L83_11.eq_1 := rfl
def L83_12 : List AStep := ⟨.load 1 false (.t 25), (some 26), none, []⟩ :: ⟨.mov (.t 1), (some 27), none, []⟩ :: L83_11
theorem v83_12 : VS L83_12.eq_1 := rfl
def L83_13 : List AStep := ⟨.iaddr 2 (.t 22) (.t 23), (some 24), none, []⟩ :: ⟨.faddr 1 (.t 24), (some 25), none, []⟩ :: L83_12
theorem v83_13 : VS L83_13.eq_1 := rfl
def L83_14 : List AStep := ⟨.mov (.t 0), (some 22), none, []⟩ :: ⟨.mov (.t 5), (some 23), none, []⟩ :: L83_13
theorem v83_14 : VS L83_14.eq_1 := rfl
def L83_15 : List AStep := [⟨.mov (.c (.int .i64 (-1))), (some 4), none, []⟩]
theorem v83_15 : VS L83_15.eq_1 := rfl
def L83_16 : List AStep := [⟨.mov (.t 30), (some 1), none, []⟩]
theorem v83_16 : VS L83_16.eq_1 := rfl
def L83_17 : List AStep := ⟨.mov (.t 1), (some 29), none, []⟩ :: ⟨.bin .add (.t 29) (.c (.int .i64 1)), (some 30), none, []⟩ :: L83_16
theorem v83_17 : VS L83_17.eq_1 := rfl
def L83_18 : List AStep := [⟨.mov (.t 11), (some 5), none, []⟩]
theorem v83_18 : VS L83_18.eq_1 := rfl
def L83_19 : List AStep := ⟨.mov (.t 5), (some 10), none, []⟩ :: ⟨.bin .add (.t 10) (.c (.int .i64 1)), (some 11), none, []⟩ :: L83_18
theorem v83_19 : VS L83_19.eq_1 := rfl
def L83_20 : List AStep := [⟨.mov (.t 1), (some 31), none, []⟩, ⟨.mov (.t 31), (some 4), none, []⟩]
theorem v83_20 : VS L83_20.eq_1 := rfl
def C83_0 : ACode := .cond (.t 9) .skip (.exit 0)
theorem u83_0 : VC C83_0.eq_1 := rfl
def C83_1 : ACode := .seq (.reg L83_3) C83_0
theorem u83_1 : VC C83_1.eq_1 := rfl
def C83_2 : ACode := .seq (.reg L83_8) .ret
theorem u83_2 : VC C83_2.eq_1 := rfl
def C83_3 : ACode := .cond (.t 19) C83_2 .skip
theorem u83_3 : VC C83_3.eq_1 := rfl
def C83_4 : ACode := .seq (.reg L83_7) C83_3
theorem u83_4 : VC C83_4.eq_1 := rfl
def C83_5 : ACode := .seq (.reg L83_15) .ret
theorem u83_5 : VC C83_5.eq_1 := rfl
def C83_6 : ACode := .cond (.t 28) C83_5 .skip
theorem u83_6 : VC C83_6.eq_1 := rfl
def C83_7 : ACode := .seq (.reg L83_14) C83_6
theorem u83_7 : VC C83_7.eq_1 := rfl
def C83_8 : ACode := .seq C83_7 (.reg L83_17)
theorem u83_8 : VC C83_8.eq_1 := rfl
def C83_9 : ACode := .seq (.reg L83_10) C83_8
theorem u83_9 : VC C83_9.eq_1 := rfl
def C83_10 : ACode := .seq C83_4 C83_9
theorem u83_10 : VC C83_10.eq_1 := rfl
def C83_11 : ACode := .block 1 C83_10
theorem u83_11 : VC C83_11.eq_1 := rfl
def C83_12 : ACode := .seq C83_11 (.reg L83_19)
theorem u83_12 : VC C83_12.eq_1 := rfl
def C83_13 : ACode := .seq C83_1 C83_12
theorem u83_13 : VC C83_13.eq_1 := rfl
def C83_14 : ACode := .block 0 (.loop C83_13)
theorem u83_14 : VC C83_14.eq_1 := rfl
def C83_15 : ACode := .seq (.reg L83_1) C83_14
theorem u83_15 : VC C83_15.eq_1 := rfl
def C83_16 : ACode := .seq (.reg L83_20) .ret
theorem u83_16 : VC C83_16.eq_1 := rfl
def C83_17 : ACode := .seq C83_15 C83_16
theorem u83_17 : VC C83_17.eq_1 := rfl
def C83_18 : ACode := .seq (.reg L83_0) C83_17
theorem u83_18 : VC C83_18.eq_1 := rfl
def F83 : AFunc := ⟨32, [.tmp 4], C83_18⟩
theorem cF83 : compB Try.prog 83 = some F83 := by kernel_rfl
attribute [local go_sem ↓] u83_0 u83_1 u83_2 u83_3 u83_4 u83_5 u83_6 u83_7 u83_8 u83_9 u83_10 u83_11 u83_12 u83_13 u83_14 u83_15 u83_16 u83_17 u83_18 v83_0 v83_1 v83_2 v83_3 v83_4 v83_5 v83_6 v83_7 v83_8 v83_9 v83_10 v83_11 v83_12 v83_13 v83_14 v83_15 v83_16 v83_17 v83_18 v83_19 v83_20
theorem c_heldPairS (n : Nat) (v : AV) (k : Int) (h : H) (hl : SlP h v (markL mkP 2 k n)) (k1 : 0 ≤ k) (k2 : k ≤ 2 ^ 40) (hn : n ≤ 2 ^ 30) :
    bm Try.prog 83 [v, .one (.int .i64 k)] h = some (ii (k + ((2 * n : Nat) : Int)), h) := by
  refine bm_eq cF83 ?_
  have hlen := hl.len
  rw [markL_len] at hlen
  simp +contextual (maxSteps := 2000000) only [go_sem, Nat.reduceEqDiff, reduceCtorEq, Nat.reduceAdd, Nat.reduceLeDiff, F83]
  refine wpC_loop (fun i T L h' => h' = h ∧ T 0 = .v v ∧ T 1 = .v (.one (.int .i64 (k + ((2 * i : Nat) : Int)))) ∧ T 5 = .v (.one (.int .i64 i))) n ?_ ?_ (Nat.zero_le _) ?_
  · rintro i T L h' hi ⟨rfl, t0, t1, t5⟩
    have hio : i < (markL mkP 2 k n).length := by rw [markL_len]; exact hi
    have hat := markL_at hio
    have hia := hl.iaddr hio (kd := .i64)
    have hf : ∀ off : Nat, off + 1 ≤ 2 → _ := fun off ho => hl.fieldO (off := off) hio ho
    rw [hat] at hf
    have h0 := hl.field0 (c := .str (mtxt (k + ((2 * i : Nat) : Int)))) hio (by rw [hat]; rfl)
    have wr1 : IntKind.i64.wrap ((k + ((2 * i : Nat) : Int)) + 1) = (k + ((2 * i : Nat) : Int) + 1) := (i64_wrap (by omega) (by omega)).trans (by omega)
    have wr2 : IntKind.i64.wrap ((k + ((2 * i : Nat) : Int) + 1) + 1) = (k + ((2 * i : Nat) : Int) + 2) := (i64_wrap (by omega) (by omega)).trans (by omega)
    simp +contextual (maxSteps := 2000000) only [go_sem, Nat.reduceEqDiff, reduceCtorEq, Nat.reduceAdd, Nat.reduceLeDiff, t0, t1, t5, hlen, hia, hf, h0, lt_true hi, decide_true, mkP, mBool, wr1, wr2, c_markText (k + ((2 * i : Nat) : Int)) _ (by omega)]
    rw [show k + ((2 * (i + 1) : Nat) : Int) = (k + ((2 * i : Nat) : Int) + 2) by omega, wrap_next hi (by omega)]
    try exact ⟨rfl, rfl⟩
  · rintro T L h' ⟨rfl, t0, t1, t5⟩
    simp +contextual (maxSteps := 2000000) only [go_sem, Nat.reduceEqDiff, reduceCtorEq, Nat.reduceAdd, Nat.reduceLeDiff, t0, t1, t5, hlen, lt_false]
  · simp +contextual (maxSteps := 2000000) only [go_sem, Nat.reduceEqDiff, reduceCtorEq, Nat.reduceAdd, Nat.reduceLeDiff]
    simp
/-! laws.markParamS -/
def L50_0 : List AStep := [⟨.mov (.c (.int .i64 0)), (some 4), none, []⟩]
theorem v50_0 : VS L50_0.eq_1 := rfl
def L50_1 : List AStep := [⟨.mov (.c (.int .i64 0)), (some 5), none, []⟩]
theorem v50_1 : VS L50_1.eq_1 := rfl
def L50_2 : List AStep := [⟨.len (.t 7), (some 8), none, []⟩, ⟨.bin .lss (.t 6) (.t 8), (some 9), none, []⟩]
theorem v50_2 : VS L50_2.eq_1 := rfl
def L50_3 : List AStep := ⟨.mov (.t 5), (some 6), none, []⟩ :: ⟨.mov (.t 0), (some 7), none, []⟩ :: L50_2
theorem v50_3 : VS L50_3.eq_1 := rfl
def L50_4 : List AStep := [⟨.store 1 (.t 17) (.t 15), none, none, []⟩]
theorem v50_4 : VS L50_4.eq_1 := rfl
def L50_5 : List AStep := ⟨.iaddr 4 (.t 12) (.t 13), (some 16), none, []⟩ :: ⟨.faddr 0 (.t 16), (some 17), none, []⟩ :: L50_4
theorem v50_5 : VS L50_5.eq_1 := rfl
def L50_6 : List AStep := ⟨.mov (.t 1), (some 14), none, []⟩ :: ⟨.call 59 [(.t 14)], (some 15), none, []⟩ :: L50_5
theorem v50_6 : VS L50_6.eq_1 := rfl
def L50_7 : List AStep := ⟨.mov (.t 0), (some 12), none, []⟩ :: ⟨.mov (.t 5), (some 13), none, []⟩ :: L50_6
theorem v50_7 : VS L50_7.eq_1 := rfl
def L50_8 : List AStep := [⟨.mov (.t 19), (some 1), none, []⟩]
theorem v50_8 : VS L50_8.eq_1 := rfl
def L50_9 : List AStep := ⟨.mov (.t 1), (some 18), none, []⟩ :: ⟨.bin .add (.t 18) (.c (.int .i64 1)), (some 19), none, []⟩ :: L50_8
theorem v50_9 : VS L50_9.eq_1 := rfl
def L50_10 : List AStep := [⟨.faddr 1 (.t 23), (some 24), none, []⟩, ⟨.store 1 (.t 24) (.t 22), none, none, []⟩]
theorem v50_10 : VS L50_10.eq_1 := rfl
def L50_11 : List AStep := ⟨.mov (.t 1), (some 22), none, []⟩ :: ⟨.iaddr 4 (.t 20) (.t 21), (some 23), none, []⟩ :: L50_10
theorem v50_11 : VS L50_11.eq_1 := rfl
def L50_12 : List AStep := ⟨.mov (.t 0), (some 20), none, []⟩ :: ⟨.mov (.t 5), (some 21), none, []⟩ :: L50_11
theorem v50_12 : VS L50_12.eq_1 := rfl
def L50_13 : List AStep := [⟨.mov (.t 26), (some 1), none, []⟩]
theorem v50_13 : VS L50_13.eq_1 := rfl
def L50_14 : List AStep := ⟨.mov (.t 1), (some 25), none, []⟩ :: ⟨.bin .add (.t 25) (.c (.int .i64 1)), (some 26), none, []⟩ :: L50_13
theorem v50_14 : VS L50_14.eq_1 := rfl
def L50_15 : List AStep := [⟨.faddr 2 (.t 32), (some 33), none, []⟩, ⟨.store 1 (.t 33) (.t 31), none, none, []⟩]
theorem v50_15 : VS L50_15.eq_1 := rfl
def L50_16 : List AStep := ⟨.bin .eql (.t 30) (.c (.int .i64 0)), (some 31), none, []⟩ :: ⟨.iaddr 4 (.t 27) (.t 28), (some 32), none, []⟩ :: L50_15
theorem v50_16 : VS L50_16.eq_1 := rfl
def L50_17 : List AStep := ⟨.mov (.t 1), (some 29), none, []⟩ :: ⟨.bin .rem (.t 29) (.c (.int .i64 3)), (some 30), none, []⟩ :: L50_16
theorem v50_17 : VS L50_17.eq_1 := rfl
def L50_18 : List AStep := ⟨.mov (.t 0), (some 27), none, []⟩ :: ⟨.mov (.t 5), (some 28), none, []⟩ :: L50_17
theorem v50_18 : VS L50_18.eq_1 := rfl
def L50_19 : List AStep := [⟨.mov (.t 35), (some 1), none, []⟩]
theorem v50_19 : VS L50_19.eq_1 := rfl
def L50_20 : List AStep := ⟨.mov (.t 1), (some 34), none, []⟩ :: ⟨.bin .add (.t 34) (.c (.int .i64 1)), (some 35), none, []⟩ :: L50_19
theorem v50_20 : VS L50_20.eq_1 := rfl
def L50_21 : List AStep := [⟨.faddr 3 (.t 39), (some 40), none, []⟩, ⟨.store 1 (.t 40) (.t 38), none, none, []⟩]
theorem v50_21 : VS L50_21.eq_1 := rfl
def L50_22 : List AStep := ⟨.mov (.t 1), (some 38), none, []⟩ :: ⟨.iaddr 4 (.t 36) (.t 37), (some 39), none, []⟩ :: L50_21
theorem v50_22 : VS L50_22.eq_1 := rfl
def L50_23 : List AStep := ⟨.mov (.t 0), (some 36), none, []⟩ :: ⟨.mov (.t 5), (some 37), none, []⟩ :: L50_22
theorem v50_23 : VS L50_23.eq_1 := rfl
def L50_24 : List AStep := [⟨.mov (.t 42), (some 1), none, []⟩]
theorem v50_24 : VS L50_24.eq_1 := rfl
def L50_25 : List AStep := ⟨.mov (.t 1), (some 41), none, []⟩ :: ⟨.bin .add (.t 41) (.c (.int .i64 1)), (some 42), none, []⟩ :: L50_24
theorem v50_25 : VS L50_25.eq_1 := rfl
def L50_26 : List AStep := [⟨.mov (.t 11), (some 5), none, []⟩]
theorem v50_26 : VS L50_26.eq_1 := rfl
def L50_27 : List AStep := ⟨.mov (.t 5), (some 10), none, []⟩ :: ⟨.bin .add (.t 10) (.c (.int .i64 1)), (some 11), none, []⟩ :: L50_26
theorem v50_27 : VS L50_27.eq_1 := rfl
def L50_28 : List AStep := [⟨.mov (.t 1), (some 43), none, []⟩, ⟨.mov (.t 43), (some 4), none, []⟩]
theorem v50_28 : VS L50_28.eq_1 := rfl
def C50_0 : ACode := .cond (.t 9) .skip (.exit 0)
theorem u50_0 : VC C50_0.eq_1 := rfl
def C50_1 : ACode := .seq (.reg L50_3) C50_0
theorem u50_1 : VC C50_1.eq_1 := rfl
def C50_2 : ACode := .seq (.reg L50_23) (.reg L50_25)
theorem u50_2 : VC C50_2.eq_1 := rfl
def C50_3 : ACode := .seq (.reg L50_20) C50_2
theorem u50_3 : VC C50_3.eq_1 := rfl
def C50_4 : ACode := .seq (.reg L50_18) C50_3
theorem u50_4 : VC C50_4.eq_1 := rfl
def C50_5 : ACode := .seq (.reg L50_14) C50_4
theorem u50_5 : VC C50_5.eq_1 := rfl
def C50_6 : ACode := .seq (.reg L50_12) C50_5
theorem u50_6 : VC C50_6.eq_1 := rfl
def C50_7 : ACode := .seq (.reg L50_9) C50_6
theorem u50_7 : VC C50_7.eq_1 := rfl
def C50_8 : ACode := .seq (.reg L50_7) C50_7
theorem u50_8 : VC C50_8.eq_1 := rfl
def C50_9 : ACode := .block 1 C50_8
theorem u50_9 : VC C50_9.eq_1 := rfl
def C50_10 : ACode := .seq C50_9 (.reg L50_27)
theorem u50_10 : VC C50_10.eq_1 := rfl
def C50_11 : ACode := .seq C50_1 C50_10
theorem u50_11 : VC C50_11.eq_1 := rfl
def C50_12 : ACode := .block 0 (.loop C50_11)
theorem u50_12 : VC C50_12.eq_1 := rfl
def C50_13 : ACode := .seq (.reg L50_1) C50_12
theorem u50_13 : VC C50_13.eq_1 := rfl
def C50_14 : ACode := .seq (.reg L50_28) .ret
theorem u50_14 : VC C50_14.eq_1 := rfl
def C50_15 : ACode := .seq C50_13 C50_14
theorem u50_15 : VC C50_15.eq_1 := rfl
def C50_16 : ACode := .seq (.reg L50_0) C50_15
theorem u50_16 : VC C50_16.eq_1 := rfl
def F50 : AFunc := ⟨44, [.tmp 4], C50_16⟩
theorem cF50 : compB Try.prog 50 = some F50 := by kernel_rfl
attribute [local go_sem ↓] u50_0 u50_1 u50_2 u50_3 u50_4 u50_5 u50_6 u50_7 u50_8 u50_9 u50_10 u50_11 u50_12 u50_13 u50_14 u50_15 u50_16 v50_0 v50_1 v50_2 v50_3 v50_4 v50_5 v50_6 v50_7 v50_8 v50_9 v50_10 v50_11 v50_12 v50_13 v50_14 v50_15 v50_16 v50_17 v50_18 v50_19 v50_20 v50_21 v50_22 v50_23 v50_24 v50_25 v50_26 v50_27 v50_28
theorem c_markParamS (l : List Param) (v : AV) (k : Int) (h0 h : H) (hl : NwQ h0 h v l) (g : Grow h0 h) (k1 : 0 ≤ k) (k2 : k ≤ 2 ^ 40) (hn : l.length ≤ 2 ^ 30) :
    callK (bm Try.prog 50 [v, .one (.int .i64 k)] h) fun r h' => r = ii (k + ((4 * l.length : Nat) : Int)) ∧ Grow h0 h' ∧ NwQ h0 h' v (markL mkQ 4 k l.length) ∧ Stay v h h' := by
  refine bm_of cF50 ?_
  simp +contextual (maxSteps := 2000000) only [go_sem, Nat.reduceEqDiff, reduceCtorEq, Nat.reduceAdd, Nat.reduceLeDiff, F50]
  refine wpC_loop (fun i T L h' => Grow h0 h' ∧ T 0 = .v v ∧ T 1 = .v (.one (.int .i64 (k + ((4 * i : Nat) : Int)))) ∧ T 5 = .v (.one (.int .i64 i)) ∧ NwQ h0 h' v (markT mkQ 4 k l i) ∧ Stay v h h') l.length ?_ ?_ (Nat.zero_le _) ?_
  · rintro i T L h' hi ⟨g, t0, t1, t5, no, st⟩
    have hlen : (markT mkQ 4 k l i).length = l.length := markT_len (by omega)
    have hio : i < (markT mkQ 4 k l i).length := by omega
    have hln := no.length
    rw [hlen] at hln
    have hia := no.iaddr hio (kd := .i64)
    have wr1 : IntKind.i64.wrap ((k + ((4 * i : Nat) : Int)) + 1) = (k + ((4 * i : Nat) : Int) + 1) := (i64_wrap (by omega) (by omega)).trans (by omega)
    have wr2 : IntKind.i64.wrap ((k + ((4 * i : Nat) : Int) + 1) + 1) = (k + ((4 * i : Nat) : Int) + 2) := (i64_wrap (by omega) (by omega)).trans (by omega)
    have wr3 : IntKind.i64.wrap ((k + ((4 * i : Nat) : Int) + 2) + 1) = (k + ((4 * i : Nat) : Int) + 3) := (i64_wrap (by omega) (by omega)).trans (by omega)
    have wr4 : IntKind.i64.wrap ((k + ((4 * i : Nat) : Int) + 3) + 1) = (k + ((4 * i : Nat) : Int) + 4) := (i64_wrap (by omega) (by omega)).trans (by omega)
    simp +contextual (maxSteps := 2000000) only [go_sem, Nat.reduceEqDiff, reduceCtorEq, Nat.reduceAdd, Nat.reduceLeDiff, t0, t1, t5, hln, hia, lt_true hi, wr1, wr2, wr3, wr4, c_markText (k + ((4 * i : Nat) : Int)) _ (by omega), bin_rem (k := .i64) (a := (k + ((4 * i : Nat) : Int) + 2)) (b := 3) (by decide)]
    refine wp_set (x := (⟨mtxt (k + ((4 * i : Nat) : Int)), (markT mkQ 4 k l i)[i].kind, (markT mkQ 4 k l i)[i].has, (markT mkQ 4 k l i)[i].dflt⟩ : Param)) (off := 0) (vs := [.str (mtxt (k + ((4 * i : Nat) : Int)))]) lenQ no (by first | exact hio | (simp only [List.length_set]; exact hio)) rfl (by simp [encQ, List.getElem_set_self]) (Nat.le_of_ble_eq_true rfl) g ?_
    intro h2 g2 n2 s2
    try rw [List.set_set] at n2
    simp +contextual (maxSteps := 2000000) only [go_sem, Nat.reduceEqDiff, reduceCtorEq, Nat.reduceAdd, Nat.reduceLeDiff, t0, t1, t5, hln, hia, wr1, wr2, wr3, wr4, c_markText (k + ((4 * i : Nat) : Int)) _ (by omega), bin_rem (k := .i64) (a := (k + ((4 * i : Nat) : Int) + 2)) (b := 3) (by decide)]
    refine wp_set (x := (⟨mtxt (k + ((4 * i : Nat) : Int)), (k + ((4 * i : Nat) : Int) + 1), (markT mkQ 4 k l i)[i].has, (markT mkQ 4 k l i)[i].dflt⟩ : Param)) (off := 1) (vs := [.int .i64 (k + ((4 * i : Nat) : Int) + 1)]) lenQ n2 (by first | exact hio | (simp only [List.length_set]; exact hio)) rfl (by simp [encQ, List.getElem_set_self]) (Nat.le_of_ble_eq_true rfl) g2 ?_
    intro h3 g3 n3 s3
    try rw [List.set_set] at n3
    simp +contextual (maxSteps := 2000000) only [go_sem, Nat.reduceEqDiff, reduceCtorEq, Nat.reduceAdd, Nat.reduceLeDiff, t0, t1, t5, hln, hia, wr1, wr2, wr3, wr4, c_markText (k + ((4 * i : Nat) : Int)) _ (by omega), bin_rem (k := .i64) (a := (k + ((4 * i : Nat) : Int) + 2)) (b := 3) (by decide)]
    refine wp_set (x := (⟨mtxt (k + ((4 * i : Nat) : Int)), (k + ((4 * i : Nat) : Int) + 1), mBool (k + ((4 * i : Nat) : Int) + 2), (markT mkQ 4 k l i)[i].dflt⟩ : Param)) (off := 2) (vs := [.bool (mBool (k + ((4 * i : Nat) : Int) + 2))]) lenQ n3 (by first | exact hio | (simp only [List.length_set]; exact hio)) rfl (by simp [encQ, List.getElem_set_self]) (Nat.le_of_ble_eq_true rfl) g3 ?_
    intro h4 g4 n4 s4
    try rw [List.set_set] at n4
    simp +contextual (maxSteps := 2000000) only [go_sem, Nat.reduceEqDiff, reduceCtorEq, Nat.reduceAdd, Nat.reduceLeDiff, t0, t1, t5, hln, hia, wr1, wr2, wr3, wr4, c_markText (k + ((4 * i : Nat) : Int)) _ (by omega), bin_rem (k := .i64) (a := (k + ((4 * i : Nat) : Int) + 2)) (b := 3) (by decide)]
    refine wp_set (x := (⟨mtxt (k + ((4 * i : Nat) : Int)), (k + ((4 * i : Nat) : Int) + 1), mBool (k + ((4 * i : Nat) : Int) + 2), (k + ((4 * i : Nat) : Int) + 3)⟩ : Param)) (off := 3) (vs := [.int .i64 (k + ((4 * i : Nat) : Int) + 3)]) lenQ n4 (by first | exact hio | (simp only [List.length_set]; exact hio)) rfl (by simp [encQ, List.getElem_set_self]) (Nat.le_of_ble_eq_true rfl) g4 ?_
    intro h5 g5 n5 s5
    try rw [List.set_set] at n5
    simp +contextual (maxSteps := 2000000) only [go_sem, Nat.reduceEqDiff, reduceCtorEq, Nat.reduceAdd, Nat.reduceLeDiff, t0, t1, t5, hln, hia, wr1, wr2, wr3, wr4, c_markText (k + ((4 * i : Nat) : Int)) _ (by omega), bin_rem (k := .i64) (a := (k + ((4 * i : Nat) : Int) + 2)) (b := 3) (by decide)]
    have e : (markT mkQ 4 k l i).set i (mkQ (k + ((4 * i : Nat) : Int))) = markT mkQ 4 k l (i + 1) := markT_set hi
    have n6 : NwQ h0 h5 v (markT mkQ 4 k l (i + 1)) := by rw [← e]; exact n5
    refine ⟨g5, by rw [show k + ((4 * (i + 1) : Nat) : Int) = (k + ((4 * i : Nat) : Int) + 4) by omega], by rw [wrap_next hi (by omega)], n6, ((((st.trans s2).trans s3).trans s4).trans s5)⟩
  · rintro T L h' ⟨g, t0, t1, t5, no, st⟩
    have hln := no.length
    rw [markT_len (Nat.le_refl _)] at hln
    simp +contextual (maxSteps := 2000000) only [go_sem, Nat.reduceEqDiff, reduceCtorEq, Nat.reduceAdd, Nat.reduceLeDiff, t0, t1, t5, hln, lt_false]
    rw [markT_all] at no
    exact gcK_of ⟨rfl, g, no, st⟩ (fun _ gg => ⟨rfl, ‹Grow h0 h›, no.back hl gg, (Grow.refl h).stay v⟩)
  · simp +contextual (maxSteps := 2000000) only [go_sem, Nat.reduceEqDiff, reduceCtorEq, Nat.reduceAdd, Nat.reduceLeDiff]
    exact ⟨g, by simp, rfl, by rw [markT_zero]; exact hl, (Grow.refl h).stay v⟩
/-! laws.markProblemS -/
def L28_0 : List AStep := [⟨.mov (.c (.int .i64 0)), (some 4), none, []⟩]
theorem v28_0 : VS L28_0.eq_1 := rfl
def L28_1 : List AStep := [⟨.mov (.c (.int .i64 0)), (some 5), none, []⟩]
theorem v28_1 : VS L28_1.eq_1 := rfl
def L28_2 : List AStep := [⟨.len (.t 7), (some 8), none, []⟩, ⟨.bin .lss (.t 6) (.t 8), (some 9), none, []⟩]
theorem v28_2 : VS L28_2.eq_1 := rfl
def L28_3 : List AStep := ⟨.mov (.t 5), (some 6), none, []⟩ :: ⟨.mov (.t 0), (some 7), none, []⟩ :: L28_2
theorem v28_3 : VS L28_3.eq_1 := rfl
def L28_4 : List AStep := [⟨.faddr 0 (.t 15), (some 16), none, []⟩, ⟨.store 1 (.t 16) (.t 14), none, none, []⟩]
theorem v28_4 : VS L28_4.eq_1 := rfl
def L28_5 : List AStep := ⟨.mov (.t 1), (some 14), none, []⟩ :: ⟨.iaddr 2 (.t 12) (.t 13), (some 15), none, []⟩ :: L28_4
theorem v28_5 : VS L28_5.eq_1 := rfl
def L28_6 : List AStep := ⟨.mov (.t 0), (some 12), none, []⟩ :: ⟨.mov (.t 5), (some 13), none, []⟩ :: L28_5
theorem v28_6 : VS L28_6.eq_1 := rfl
def L28_7 : List AStep := [⟨.mov (.t 18), (some 1), none, []⟩]
theorem v28_7 : VS L28_7.eq_1 := rfl
def L28_8 : List AStep := ⟨.mov (.t 1), (some 17), none, []⟩ :: ⟨.bin .add (.t 17) (.c (.int .i64 1)), (some 18), none, []⟩ :: L28_7
theorem v28_8 : VS L28_8.eq_1 := rfl
def L28_9 : List AStep := [⟨.store 1 (.t 24) (.t 22), none, none, []⟩]
theorem v28_9 : VS L28_9.eq_1 := rfl
def L28_10 : List AStep := ⟨.iaddr 2 (.t 19) (.t 20), (some 23), none, []⟩ :: ⟨.faddr 1 (.t 23), (some 24), none, []⟩ :: L28_9
theorem v28_10 : VS L28_10.eq_1 := rfl
def L28_11 : List AStep := ⟨.mov (.t 1), (some 21), none, []⟩ :: ⟨.call 59 [(.t 21)], (some 22), none, []⟩ :: L28_10
theorem v28_11 : VS L28_11.eq_1 := rfl
def L28_12 : List AStep := ⟨.mov (.t 0), (some 19), none, []⟩ :: ⟨.mov (.t 5), (some 20), none, []⟩ :: L28_11
theorem v28_12 : VS L28_12.eq_1 := rfl
def L28_13 : List AStep := [⟨.mov (.t 26), (some 1), none, []⟩]
theorem v28_13 : VS L28_13.eq_1 := rfl
def L28_14 : List AStep := ⟨.mov (.t 1), (some 25), none, []⟩ :: ⟨.bin .add (.t 25) (.c (.int .i64 1)), (some 26), none, []⟩ :: L28_13
theorem v28_14 : VS L28_14.eq_1 := rfl
def L28_15 : List AStep := [⟨.mov (.t 11), (some 5), none, []⟩]
theorem v28_15 : VS L28_15.eq_1 := rfl
def L28_16 : List AStep := ⟨.mov (.t 5), (some 10), none, []⟩ :: ⟨.bin .add (.t 10) (.c (.int .i64 1)), (some 11), none, []⟩ :: L28_15
theorem v28_16 : VS L28_16.eq_1 := rfl
def L28_17 : List AStep := [⟨.mov (.t 1), (some 27), none, []⟩, ⟨.mov (.t 27), (some 4), none, []⟩]
theorem v28_17 : VS L28_17.eq_1 := rfl
def C28_0 : ACode := .cond (.t 9) .skip (.exit 0)
theorem u28_0 : VC C28_0.eq_1 := rfl
def C28_1 : ACode := .seq (.reg L28_3) C28_0
theorem u28_1 : VC C28_1.eq_1 := rfl
def C28_2 : ACode := .seq (.reg L28_12) (.reg L28_14)
theorem u28_2 : VC C28_2.eq_1 := rfl
def C28_3 : ACode := .seq (.reg L28_8) C28_2
theorem u28_3 : VC C28_3.eq_1 := rfl
def C28_4 : ACode := .seq (.reg L28_6) C28_3
theorem u28_4 : VC C28_4.eq_1 := rfl
def C28_5 : ACode := .block 1 C28_4
theorem u28_5 : VC C28_5.eq_1 := rfl
def C28_6 : ACode := .seq C28_5 (.reg L28_16)
theorem u28_6 : VC C28_6.eq_1 := rfl
def C28_7 : ACode := .seq C28_1 C28_6
theorem u28_7 : VC C28_7.eq_1 := rfl
def C28_8 : ACode := .block 0 (.loop C28_7)
theorem u28_8 : VC C28_8.eq_1 := rfl
def C28_9 : ACode := .seq (.reg L28_1) C28_8
theorem u28_9 : VC C28_9.eq_1 := rfl
def C28_10 : ACode := .seq (.reg L28_17) .ret
theorem u28_10 : VC C28_10.eq_1 := rfl
def C28_11 : ACode := .seq C28_9 C28_10
theorem u28_11 : VC C28_11.eq_1 := rfl
def C28_12 : ACode := .seq (.reg L28_0) C28_11
theorem u28_12 : VC C28_12.eq_1 := rfl
def F28 : AFunc := ⟨28, [.tmp 4], C28_12⟩
theorem cF28 : compB Try.prog 28 = some F28 := by kernel_rfl
attribute [local go_sem ↓] u28_0 u28_1 u28_2 u28_3 u28_4 u28_5 u28_6 u28_7 u28_8 u28_9 u28_10 u28_11 u28_12 v28_0 v28_1 v28_2 v28_3 v28_4 v28_5 v28_6 v28_7 v28_8 v28_9 v28_10 v28_11 v28_12 v28_13 v28_14 v28_15 v28_16 v28_17
theorem c_markProblemS (l : List Problem) (v : AV) (k : Int) (h0 h : H) (hl : NwB h0 h v l) (g : Grow h0 h) (k1 : 0 ≤ k) (k2 : k ≤ 2 ^ 40) (hn : l.length ≤ 2 ^ 30) :
    callK (bm Try.prog 28 [v, .one (.int .i64 k)] h) fun r h' => r = ii (k + ((2 * l.length : Nat) : Int)) ∧ Grow h0 h' ∧ NwB h0 h' v (markL mkB 2 k l.length) ∧ Stay v h h' := by
  refine bm_of cF28 ?_
  simp +contextual (maxSteps := 2000000) only [go_sem, Nat.reduceEqDiff, reduceCtorEq, Nat.reduceAdd, Nat.reduceLeDiff, F28]
  refine wpC_loop (fun i T L h' => Grow h0 h' ∧ T 0 = .v v ∧ T 1 = .v (.one (.int .i64 (k + ((2 * i : Nat) : Int)))) ∧ T 5 = .v (.one (.int .i64 i)) ∧ NwB h0 h' v (markT mkB 2 k l i) ∧ Stay v h h') l.length ?_ ?_ (Nat.zero_le _) ?_
  · rintro i T L h' hi ⟨g, t0, t1, t5, no, st⟩
    have hlen : (markT mkB 2 k l i).length = l.length := markT_len (by omega)
    have hio : i < (markT mkB 2 k l i).length := by omega
    have hln := no.length
    rw [hlen] at hln
    have hia := no.iaddr hio (kd := .i64)
    have wr1 : IntKind.i64.wrap ((k + ((2 * i : Nat) : Int)) + 1) = (k + ((2 * i : Nat) : Int) + 1) := (i64_wrap (by omega) (by omega)).trans (by omega)
    have wr2 : IntKind.i64.wrap ((k + ((2 * i : Nat) : Int) + 1) + 1) = (k + ((2 * i : Nat) : Int) + 2) := (i64_wrap (by omega) (by omega)).trans (by omega)
    simp +contextual (maxSteps := 2000000) only [go_sem, Nat.reduceEqDiff, reduceCtorEq, Nat.reduceAdd, Nat.reduceLeDiff, t0, t1, t5, hln, hia, lt_true hi, wr1, wr2, c_markText (k + ((2 * i : Nat) : Int) + 1) _ (by omega)]
    refine wp_set (x := (⟨(k + ((2 * i : Nat) : Int)), (markT mkB 2 k l i)[i].name⟩ : Problem)) (off := 0) (vs := [.int .i64 (k + ((2 * i : Nat) : Int))]) lenB no (by first | exact hio | (simp only [List.length_set]; exact hio)) rfl (by simp [encB, List.getElem_set_self]) (Nat.le_of_ble_eq_true rfl) g ?_
    intro h2 g2 n2 s2
    try rw [List.set_set] at n2
    simp +contextual (maxSteps := 2000000) only [go_sem, Nat.reduceEqDiff, reduceCtorEq, Nat.reduceAdd, Nat.reduceLeDiff, t0, t1, t5, hln, hia, wr1, wr2, c_markText (k + ((2 * i : Nat) : Int) + 1) _ (by omega)]
    refine wp_set (x := (⟨(k + ((2 * i : Nat) : Int)), mtxt (k + ((2 * i : Nat) : Int) + 1)⟩ : Problem)) (off := 1) (vs := [.str (mtxt (k + ((2 * i : Nat) : Int) + 1))]) lenB n2 (by first | exact hio | (simp only [List.length_set]; exact hio)) rfl (by simp [encB, List.getElem_set_self]) (Nat.le_of_ble_eq_true rfl) g2 ?_
    intro h3 g3 n3 s3
    try rw [List.set_set] at n3
    simp +contextual (maxSteps := 2000000) only [go_sem, Nat.reduceEqDiff, reduceCtorEq, Nat.reduceAdd, Nat.reduceLeDiff, t0, t1, t5, hln, hia, wr1, wr2, c_markText (k + ((2 * i : Nat) : Int) + 1) _ (by omega)]
    have e : (markT mkB 2 k l i).set i (mkB (k + ((2 * i : Nat) : Int))) = markT mkB 2 k l (i + 1) := markT_set hi
    have n4 : NwB h0 h3 v (markT mkB 2 k l (i + 1)) := by rw [← e]; exact n3
    refine ⟨g3, by rw [show k + ((2 * (i + 1) : Nat) : Int) = (k + ((2 * i : Nat) : Int) + 2) by omega], by rw [wrap_next hi (by omega)], n4, ((st.trans s2).trans s3)⟩
  · rintro T L h' ⟨g, t0, t1, t5, no, st⟩
    have hln := no.length
    rw [markT_len (Nat.le_refl _)] at hln
    simp +contextual (maxSteps := 2000000) only [go_sem, Nat.reduceEqDiff, reduceCtorEq, Nat.reduceAdd, Nat.reduceLeDiff, t0, t1, t5, hln, lt_false]
    rw [markT_all] at no
    exact gcK_of ⟨rfl, g, no, st⟩ (fun _ gg => ⟨rfl, ‹Grow h0 h›, no.back hl gg, (Grow.refl h).stay v⟩)
  · simp +contextual (maxSteps := 2000000) only [go_sem, Nat.reduceEqDiff, reduceCtorEq, Nat.reduceAdd, Nat.reduceLeDiff]
    exact ⟨g, by simp, rfl, by rw [markT_zero]; exact hl, (Grow.refl h).stay v⟩
/-! laws.heldProblemS -/
def L29_0 : List AStep := [⟨.mov (.c (.int .i64 0)), (some 4), none, []⟩]
theorem v29_0 : VS L29_0.eq_1 := rfl
def L29_1 : List AStep := [⟨.mov (.c (.int .i64 0)), (some 5), none, []⟩]
theorem v29_1 : VS L29_1.eq_1 := rfl
def L29_2 : List AStep := [⟨.len (.t 7), (some 8), none, []⟩, ⟨.bin .lss (.t 6) (.t 8), (some 9), none, []⟩]
theorem v29_2 : VS L29_2.eq_1 := rfl
def L29_3 : List AStep := ⟨.mov (.t 5), (some 6), none, []⟩ :: ⟨.mov (.t 0), (some 7), none, []⟩ :: L29_2
theorem v29_3 : VS L29_3.eq_1 := rfl
def L29_4 : List AStep := [⟨.bin .neq (.t 16) (.t 17), (some 18), none, []⟩]
theorem v29_4 : VS L29_4.eq_1 := rfl
def L29_5 : List AStep := ⟨.load 1 false (.t 15), (some 16), none, []⟩ :: ⟨.mov (.t 1), (some 17), none, []⟩ :: L29_4
theorem v29_5 : VS L29_5.eq_1 := rfl
def L29_6 : List AStep := ⟨.iaddr 2 (.t 12) (.t 13), (some 14), none, []⟩ :: ⟨.faddr 0 (.t 14), (some 15), none, []⟩ :: L29_5
theorem v29_6 : VS L29_6.eq_1 := rfl
def L29_7 : List AStep := ⟨.mov (.t 0), (some 12), none, []⟩ :: ⟨.mov (.t 5), (some 13), none, []⟩ :: L29_6
theorem v29_7 : VS L29_7.eq_1 := rfl
def L29_8 : List AStep := [⟨.mov (.c (.int .i64 (-1))), (some 4), none, []⟩]
theorem v29_8 : VS L29_8.eq_1 := rfl
def L29_9 : List AStep := [⟨.mov (.t 20), (some 1), none, []⟩]
theorem v29_9 : VS L29_9.eq_1 := rfl
def L29_10 : List AStep := ⟨.mov (.t 1), (some 19), none, []⟩ :: ⟨.bin .add (.t 19) (.c (.int .i64 1)), (some 20), none, []⟩ :: L29_9
theorem v29_10 : VS L29_10.eq_1 := rfl
def L29_11 : List AStep := [⟨.call 59 [(.t 26)], (some 27), none, [(.load 1 false (.t 24), (some 25), none)]⟩, ⟨.bin .neq (.t 25) (.t 27), (some 28), none, []⟩]
theorem v29_11 : VS L29_11.eq_1 := rfl
def L29_12 : List AStep := ⟨.load 1 false (.t 24), (some 25), none, []⟩ :: ⟨.mov (.t 1), (some 26), none, []⟩ :: L29_11
theorem v29_12 : VS L29_12.eq_1 := rfl
def L29_13 : List AStep := ⟨.iaddr 2 (.t 21) (.t 22), (some 23), none, []⟩ :: ⟨.faddr 1 (.t 23), (some 24), none, []⟩ :: L29_12
theorem v29_13 : VS L29_13.eq_1 := rfl
def L29_14 : List AStep := ⟨.mov (.t 0), (some 21), none, []⟩ :: ⟨.mov (.t 5), (some 22), none, []⟩ :: L29_13
theorem v29_14 : VS L29_14.eq_1 := rfl
def L29_15 : List AStep := [⟨.mov (.c (.int .i64 (-1))), (some 4), none, []⟩]
theorem v29_15 : VS L29_15.eq_1 := rfl
def L29_16 : List AStep := [⟨.mov (.t 30), (some 1), none, []⟩]
theorem v29_16 : VS L29_16.eq_1 := rfl
def L29_17 : List AStep := ⟨.mov (.t 1), (some 29), none, []⟩ :: ⟨.bin .add (.t 29) (.c (.int .i64 1)), (some 30), none, []⟩ :: L29_16
theorem v29_17 : VS L29_17.eq_1 := rfl
def L29_18 : List AStep := [⟨.mov (.t 11), (some 5), none, []⟩]
theorem v29_18 : VS L29_18.eq_1 := rfl
def L29_19 : List AStep := ⟨.mov (.t 5), (some 10), none, []⟩ :: ⟨.bin .add (.t 10) (.c (.int .i64 1)), (some 11), none, []⟩ :: L29_18
theorem v29_19 : VS L29_19.eq_1 := rfl
def L29_20 : List AStep := [⟨.mov (.t 1), (some 31), none, []⟩, ⟨.mov (.t 31), (some 4), none, []⟩]
theorem v29_20 : VS L29_20.eq_1 := rfl
def C29_0 : ACode := .cond (.t 9) .skip (.exit 0)
theorem u29_0 : VC C29_0.eq_1 := rfl
def C29_1 : ACode := .seq (.reg L29_3) C29_0
theorem u29_1 : VC C29_1.eq_1 := rfl
def C29_2 : ACode := .seq (.reg L29_8) .ret
theorem u29_2 : VC C29_2.eq_1 := rfl
def C29_3 : ACode := .cond (.t 18) C29_2 .skip
theorem u29_3 : VC C29_3.eq_1 := rfl
def C29_4 : ACode := .seq (.reg L29_7) C29_3
theorem u29_4 : VC C29_4.eq_1 := rfl
def C29_5 : ACode := .seq (.reg L29_15) .ret
theorem u29_5 : VC C29_5.eq_1 := rfl
def C29_6 : ACode := .cond (.t 28) C29_5 .skip
theorem u29_6 : VC C29_6.eq_1 := rfl
def C29_7 : ACode := .seq (.reg L29_14) C29_6
theorem u29_7 : VC C29_7.eq_1 := rfl
def C29_8 : ACode := .seq C29_7 (.reg L29_17)
theorem u29_8 : VC C29_8.eq_1 := rfl
def C29_9 : ACode := .seq (.reg L29_10) C29_8
theorem u29_9 : VC C29_9.eq_1 := rfl
def C29_10 : ACode := .seq C29_4 C29_9
theorem u29_10 : VC C29_10.eq_1 := rfl
def C29_11 : ACode := .block 1 C29_10
theorem u29_11 : VC C29_11.eq_1 := rfl
def C29_12 : ACode := .seq C29_11 (.reg L29_19)
theorem u29_12 : VC C29_12.eq_1 := rfl
def C29_13 : ACode := .seq C29_1 C29_12
theorem u29_13 : VC C29_13.eq_1 := rfl
def C29_14 : ACode := .block 0 (.loop C29_13)
theorem u29_14 : VC C29_14.eq_1 := rfl
def C29_15 : ACode := .seq (.reg L29_1) C29_14
theorem u29_15 : VC C29_15.eq_1 := rfl
def C29_16 : ACode := .seq (.reg L29_20) .ret
theorem u29_16 : VC C29_16.eq_1 := rfl
def C29_17 : ACode := .seq C29_15 C29_16
theorem u29_17 : VC C29_17.eq_1 := rfl
def C29_18 : ACode := .seq (.reg L29_0) C29_17
theorem u29_18 : VC C29_18.eq_1 := rfl
def F29 : AFunc := ⟨32, [.tmp 4], C29_18⟩
theorem cF29 : compB Try.prog 29 = some F29 := by kernel_rfl
attribute [local go_sem ↓] u29_0 u29_1 u29_2 u29_3 u29_4 u29_5 u29_6 u29_7 u29_8 u29_9 u29_10 u29_11 u29_12 u29_13 u29_14 u29_15 u29_16 u29_17 u29_18 v29_0 v29_1 v29_2 v29_3 v29_4 v29_5 v29_6 v29_7 v29_8 v29_9 v29_10 v29_11 v29_12 v29_13 v29_14 v29_15 v29_16 v29_17 v29_18 v29_19 v29_20
theorem c_heldProblemS (n : Nat) (v : AV) (k : Int) (h : H) (hl : SlB h v (markL mkB 2 k n)) (k1 : 0 ≤ k) (k2 : k ≤ 2 ^ 40) (hn : n ≤ 2 ^ 30) :
    bm Try.prog 29 [v, .one (.int .i64 k)] h = some (ii (k + ((2 * n : Nat) : Int)), h) := by
  refine bm_eq cF29 ?_
  have hlen := hl.len
  rw [markL_len] at hlen
  simp +contextual (maxSteps := 2000000) only [go_sem, Nat.reduceEqDiff, reduceCtorEq, Nat.reduceAdd, Nat.reduceLeDiff, F29]
  refine wpC_loop (fun i T L h' => h' = h ∧ T 0 = .v v ∧ T 1 = .v (.one (.int .i64 (k + ((2 * i : Nat) : Int)))) ∧ T 5 = .v (.one (.int .i64 i))) n ?_ ?_ (Nat.zero_le _) ?_
  · rintro i T L h' hi ⟨rfl, t0, t1, t5⟩
    have hio : i < (markL mkB 2 k n).length := by rw [markL_len]; exact hi
    have hat := markL_at hio
    have hia := hl.iaddr hio (kd := .i64)
    have hf : ∀ off : Nat, off + 1 ≤ 2 → _ := fun off ho => hl.fieldO (off := off) hio ho
    rw [hat] at hf
    have h0 := hl.field0 (c := .int .i64 (k + ((2 * i : Nat) : Int))) hio (by rw [hat]; rfl)
    have wr1 : IntKind.i64.wrap ((k + ((2 * i : Nat) : Int)) + 1) = (k + ((2 * i : Nat) : Int) + 1) := (i64_wrap (by omega) (by omega)).trans (by omega)
    have wr2 : IntKind.i64.wrap ((k + ((2 * i : Nat) : Int) + 1) + 1) = (k + ((2 * i : Nat) : Int) + 2) := (i64_wrap (by omega) (by omega)).trans (by omega)
    simp +contextual (maxSteps := 2000000) only [go_sem, Nat.reduceEqDiff, reduceCtorEq, Nat.reduceAdd, Nat.reduceLeDiff, t0, t1, t5, hlen, hia, hf, h0, lt_true hi, decide_true, mkB, mBool, wr1, wr2, c_markText (k + ((2 * i : Nat) : Int) + 1) _ (by omega)]
    rw [show k + ((2 * (i + 1) : Nat) : Int) = (k + ((2 * i : Nat) : Int) + 2) by omega, wrap_next hi (by omega)]
    try exact ⟨rfl, rfl⟩
  · rintro T L h' ⟨rfl, t0, t1, t5⟩
    simp +contextual (maxSteps := 2000000) only [go_sem, Nat.reduceEqDiff, reduceCtorEq, Nat.reduceAdd, Nat.reduceLeDiff, t0, t1, t5, hlen, lt_false]
  · simp +contextual (maxSteps := 2000000) only [go_sem, Nat.reduceEqDiff, reduceCtorEq, Nat.reduceAdd, Nat.reduceLeDiff]
    simp
end Go.Proofs.Ytdalgphpacikkaa.Am
