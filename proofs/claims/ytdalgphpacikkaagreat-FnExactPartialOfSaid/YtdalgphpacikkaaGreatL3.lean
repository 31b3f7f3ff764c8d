/- Contracts of the laws: copies, marks, and what is held of them. -/
import Derived.Test.YtdalgphpacikkaaGreatDat
namespace Go.Proofs.YtdalgphpacikkaaGreat.Am
open Go
set_option maxRecDepth 100000
set_option maxHeartbeats 4000000
set_option linter.unusedSimpArgs false
set_option linter.unusedVariables false
attribute [local go_sem ↓] bv_t bv_c ev_t ev_c put_same put_ne put_none kill_at pro_at lb_same lb_ne start_zero start_succ wpC_seq wpC_reg wpC_cond wpC_block wpC_skip wpC_exit wpC_ret thenQ_normal thenQ_exit thenQ_ret inBlk_normal inBlk_exit inBlk_ret wpS_nil wpS_step wpS_again wpS_guard wpO_mov wpO_load wpO_faddr wpO_nilCheck wpO_pick wpO_build wpO_bin wpO_eqb wpO_eqst wpO_eqnil wpO_not wpO_conv wpO_bytesStr wpO_iaddr wpO_idxStr wpO_field wpO_extract wpO_len wpO_lenStr wpO_cap wpO_min wpO_slice wpO_sliceStr wpO_alloc wpO_box wpO_store wpO_call wpO_callv wpO_mkfn wpO_buildSlice wpO_mkslice wpO_append wpO_appz proA_nil proA_cons tmpX_nil tmpX_tmp tmpX_cell doneB_normal doneB_ret agK_cons agK_nil agK_guard agG_tt agG_ff agG_tf agG_ft agG_undef pureB_load results_one results_two results_nil resBs_cons resBs_nil resB_tmp resB_cell
attribute [local go_sem] kill_v kill_lp_ne kill_lp_same pro_v pro_lp_same pro_lp_ne av_v av_lp optB_some optX_some valX_eq ldX_lp ldX_v faX_lp faX_v ncX_lp ncX_ptr ncX_fn boxK_one boxK_agg stL_some stK_lp_one stK_lp_agg stK_v_one stK_v_agg proM_v proM_lp callG_mk callVG_mk callvK_fn fnG_mk ptrsA_nil ptrsA_cons callH_some whenA_true whenA_false guardH_tt guardH_ff guardH_tf guardH_ft guardH_undef agV_one agV_agg lenO_sl lenStrO_str notO_bool pickO_bool convO_int eqbO_bool eqnilO_sl extractO_tup capO_sl minO_int loadL_one loadL_all storeL_eq fillA_nil fillA_one fillA_agg nat_ge neg_ge nat_lt neg_lt buildO bin_add bin_sub bin_mul bin_eql bin_neq bin_lss bin_leq bin_gtr bin_geq str_eql str_neq str_lss str_leq str_gtr str_geq retK_some endK_mk gcK_same gcK_int gcK_bool tupO_one tupO_agg rdy_self ib ii Option.map_none Option.map_some Option.some.injEq exists_eq_left' exists_eq_left ne_eq not_false_eq_true if_true if_false List.map_cons List.map_nil List.getElem?_cons_zero List.getElem?_cons_succ List.length_cons List.length_nil List.take_succ_cons List.take_zero List.take_nil List.drop_succ_cons List.drop_zero List.drop_nil List.cons_append List.nil_append List.append_nil List.set_cons_zero List.set_cons_succ Nat.zero_add forall_const true_and and_true and_self Bool.false_eq_true false_implies true_implies implies_true Bool.not_true Bool.not_false Bool.not_eq_true' Bool.not_eq_false' beq_self_eq_true Bool.bne_true Bool.bne_false
attribute [local go_sem] lenI lenS lenP lenQ lenB lenL lenT encI_0 encS_0 encP_0 encP_1 encQ_0 encQ_1 encQ_2 encQ_3 encB_0 encB_1 encL_0 encL_1 encT_0 encT_1
attribute [local go_sem low] whenA_bool guardH_bool
def encU (n : Int) : List CV := [.int .u8 n]
/-! laws.markText -/
def L49_0 : List AStep := [⟨.mov (.c (.str (strOfNums []))), (some 2), none, []⟩]
theorem v49_0 : VS L49_0.eq_1 := rfl
def L49_1 : List AStep := [⟨.mov (.t 0), (some 4), none, []⟩, ⟨.bin .leq (.t 4) (.c (.int .i64 0)), (some 5), none, []⟩]
theorem v49_1 : VS L49_1.eq_1 := rfl
def L49_2 : List AStep := [⟨.mov (.c (.str (strOfNums [109, 48]))), (some 2), none, []⟩]
theorem v49_2 : VS L49_2.eq_1 := rfl
def L49_3 : List AStep := [⟨.mov (.c (.str (strOfNums []))), (some 3), none, []⟩]
theorem v49_3 : VS L49_3.eq_1 := rfl
def L49_4 : List AStep := [⟨.mov (.t 0), (some 6), none, []⟩, ⟨.bin .gtr (.t 6) (.c (.int .i64 0)), (some 7), none, []⟩]
theorem v49_4 : VS L49_4.eq_1 := rfl
def L49_5 : List AStep := [⟨.mov (.t 15), (some 3), none, []⟩]
theorem v49_5 : VS L49_5.eq_1 := rfl
def L49_6 : List AStep := ⟨.mov (.t 3), (some 14), none, []⟩ :: ⟨.bin .add (.t 13) (.t 14), (some 15), none, []⟩ :: L49_5
theorem v49_6 : VS L49_6.eq_1 := rfl
def L49_7 : List AStep := ⟨.buildSlice 5 1 [(.int .u8 0)] [(0, 1, (.t 11))], (some 12), none, []⟩ :: ⟨.bytesStr (.t 12), (some 13), none, []⟩ :: L49_6
theorem v49_7 : VS L49_7.eq_1 := rfl
def L49_8 : List AStep := ⟨.bin .add (.c (.int .i64 48)) (.t 9), (some 10), none, []⟩ :: ⟨.conv .u8 (.t 10), (some 11), none, []⟩ :: L49_7
theorem v49_8 : VS L49_8.eq_1 := rfl
def L49_9 : List AStep := ⟨.mov (.t 0), (some 8), none, []⟩ :: ⟨.bin .rem (.t 8) (.c (.int .i64 10)), (some 9), none, []⟩ :: L49_8
theorem v49_9 : VS L49_9.eq_1 := rfl
def L49_10 : List AStep := [⟨.mov (.t 17), (some 0), none, []⟩]
theorem v49_10 : VS L49_10.eq_1 := rfl
def L49_11 : List AStep := ⟨.mov (.t 0), (some 16), none, []⟩ :: ⟨.bin .quo (.t 16) (.c (.int .i64 10)), (some 17), none, []⟩ :: L49_10
theorem v49_11 : VS L49_11.eq_1 := rfl
def L49_12 : List AStep := [⟨.mov (.t 19), (some 2), none, []⟩]
theorem v49_12 : VS L49_12.eq_1 := rfl
def L49_13 : List AStep := ⟨.mov (.t 3), (some 18), none, []⟩ :: ⟨.bin .add (.c (.str (strOfNums [109]))) (.t 18), (some 19), none, []⟩ :: L49_12
theorem v49_13 : VS L49_13.eq_1 := rfl
def C49_0 : ACode := .seq (.reg L49_2) .ret
theorem u49_0 : VC C49_0.eq_1 := rfl
def C49_1 : ACode := .cond (.t 5) C49_0 .skip
theorem u49_1 : VC C49_1.eq_1 := rfl
def C49_2 : ACode := .seq (.reg L49_1) C49_1
theorem u49_2 : VC C49_2.eq_1 := rfl
def C49_3 : ACode := .cond (.t 7) .skip (.exit 0)
theorem u49_3 : VC C49_3.eq_1 := rfl
def C49_4 : ACode := .seq (.reg L49_4) C49_3
theorem u49_4 : VC C49_4.eq_1 := rfl
def C49_5 : ACode := .seq (.reg L49_9) (.reg L49_11)
theorem u49_5 : VC C49_5.eq_1 := rfl
def C49_6 : ACode := .block 1 C49_5
theorem u49_6 : VC C49_6.eq_1 := rfl
def C49_7 : ACode := .seq C49_4 C49_6
theorem u49_7 : VC C49_7.eq_1 := rfl
def C49_8 : ACode := .block 0 (.loop C49_7)
theorem u49_8 : VC C49_8.eq_1 := rfl
def C49_9 : ACode := .seq (.reg L49_13) .ret
theorem u49_9 : VC C49_9.eq_1 := rfl
def C49_10 : ACode := .seq C49_8 C49_9
theorem u49_10 : VC C49_10.eq_1 := rfl
def C49_11 : ACode := .seq (.reg L49_3) C49_10
theorem u49_11 : VC C49_11.eq_1 := rfl
def C49_12 : ACode := .seq C49_2 C49_11
theorem u49_12 : VC C49_12.eq_1 := rfl
def C49_13 : ACode := .seq (.reg L49_0) C49_12
theorem u49_13 : VC C49_13.eq_1 := rfl
def F49 : AFunc := ⟨20, [.tmp 2], C49_13⟩
theorem cF49 : compB Tryz.prog 49 = some F49 := by kernel_rfl
attribute [local go_sem ↓] u49_0 u49_1 u49_2 u49_3 u49_4 u49_5 u49_6 u49_7 u49_8 u49_9 u49_10 u49_11 u49_12 u49_13 v49_0 v49_1 v49_2 v49_3 v49_4 v49_5 v49_6 v49_7 v49_8 v49_9 v49_10 v49_11 v49_12 v49_13
theorem c_markText (k : Int) (h : H) (h1 : k < 2 ^ 60) : bm Tryz.prog 49 [.one (.int .i64 k)] h = some (.one (.str (mtxt k)), h) := by
  by_cases hk : k ≤ 0
  · refine bm_eq cF49 ?_
    simp +contextual (maxSteps := 2000000) only [go_sem, Nat.reduceEqDiff, reduceCtorEq, Nat.reduceAdd, Nat.reduceLeDiff, F49, decide_eq_true hk]
    unfold mtxt
    rw [if_pos hk]
  obtain ⟨n, rfl⟩ : ∃ n : Nat, k = n := ⟨k.toNat, by omega⟩
  have key : callK (bm Tryz.prog 49 [.one (.int .i64 n)] h) fun v h' => v = .one (.str (mtxt n)) ∧ h' = h := by
    refine bm_of cF49 ?_
    simp +contextual (maxSteps := 2000000) only [go_sem, Nat.reduceEqDiff, reduceCtorEq, Nat.reduceAdd, Nat.reduceLeDiff, F49, decide_eq_false hk]
    refine wpC_while (fun m T L h' => Grow h h' ∧ T 0 = .v (.one (.int .i64 m)) ∧ ∃ s, T 3 = .v (.one (.str s)) ∧ mDig m s = mDig n (strOfNums []) ∧ s.size + m ≤ n) ?_ ?_ (m := n)
    · rintro m T L h' ⟨g, t0, s, t3, e1, e2⟩
      by_cases hm : m = 0
      · subst hm
        have e3 : mDig 0 s = s := by unfold mDig; simp
        rw [e3] at e1
        simp +contextual (maxSteps := 2000000) only [go_sem, Nat.reduceEqDiff, reduceCtorEq, Nat.reduceAdd, Nat.reduceLeDiff, t0, t3, show decide (((0 : Nat) : Int) > 0) = false from rfl]
        have e4 : (strOfNums [109]).size = 1 := strOfNums_size _
        simp +contextual (maxSteps := 2000000) only [go_sem, Nat.reduceEqDiff, reduceCtorEq, Nat.reduceAdd, Nat.reduceLeDiff, str_add (s := strOfNums [109]) (t := s) (by rw [e4]; omega)]
        refine gcR_of g rfl ⟨?_, rfl⟩
        unfold mtxt
        rw [if_neg hk, e1]
        rfl
      · have e5 : mDig m s = mDig (m / 10) (strOfNums [digit m] ++ s) := by rw [mDig, dif_neg hm]
        simp +contextual (maxSteps := 2000000) only [go_sem, Nat.reduceEqDiff, reduceCtorEq, Nat.reduceAdd, Nat.reduceLeDiff, t0, t3, decide_eq_true (show ((m : Nat) : Int) > 0 by omega), bin_rem (k := .i64) (a := (m : Int)) (b := 10) (by decide), bin_quo (k := .i64) (a := (m : Int)) (b := 10) (by decide)]
        refine wp_lit (enc := encU) (k := 1) [digit m] rfl rfl ?_
        intro h2 v g2 n2 _
        have hb := bytes_at (n2.sl (fun _ => rfl)) (by simp)
        have e4 : (strOfNums [digit m]).size = 1 := strOfNums_size _
        simp +contextual (maxSteps := 2000000) only [go_sem, Nat.reduceEqDiff, reduceCtorEq, Nat.reduceAdd, Nat.reduceLeDiff, hb, t0, t3, str_add (s := strOfNums [digit m]) (t := s) (by rw [e4]; omega), bin_quo (k := .i64) (a := (m : Int)) (b := 10) (by decide)]
        refine ⟨m / 10, by omega, g.trans g2, ?_, _, rfl, ?_, ?_⟩
        · rw [show (m : Int).tdiv 10 = ((m / 10 : Nat) : Int) by rw [Int.tdiv_eq_ediv_of_nonneg (by omega)]; omega, wrap_nat (by omega)]
        · rw [← e5, e1]
        · rw [ByteArray.size_append, e4]
          omega
    · simp +contextual (maxSteps := 2000000) only [go_sem, Nat.reduceEqDiff, reduceCtorEq, Nat.reduceAdd, Nat.reduceLeDiff]
      exact ⟨Grow.refl h, _, rfl, rfl, by rw [strOfNums_size]; simp⟩
  obtain ⟨v, h', e1, rfl, rfl⟩ := key
  exact e1
/-! laws.toParam -/
def L41_0 : List AStep := [⟨.box 68 (.t 0), (some 1), none, []⟩, ⟨.alloc 79 [(.str (strOfNums [])), (.int .i64 0), (.bool false), (.int .i64 0)], (some 2), none, []⟩]
theorem v41_0 : VS L41_0.eq_1 := rfl
def L41_1 : List AStep := [⟨.alloc 79 [(.str (strOfNums [])), (.int .i64 0), (.bool false), (.int .i64 0)], (some 3), none, []⟩]
theorem v41_1 : VS L41_1.eq_1 := rfl
def L41_2 : List AStep := [⟨.faddr 0 (.t 3), (some 6), none, []⟩, ⟨.store 1 (.t 6) (.t 5), none, none, []⟩]
theorem v41_2 : VS L41_2.eq_1 := rfl
def L41_3 : List AStep := ⟨.faddr 0 (.t 1), (some 4), none, []⟩ :: ⟨.load 1 false (.t 4), (some 5), none, []⟩ :: L41_2
theorem v41_3 : VS L41_3.eq_1 := rfl
def L41_4 : List AStep := [⟨.faddr 1 (.t 3), (some 9), none, []⟩, ⟨.store 1 (.t 9) (.t 8), none, none, []⟩]
theorem v41_4 : VS L41_4.eq_1 := rfl
def L41_5 : List AStep := ⟨.faddr 1 (.t 1), (some 7), none, []⟩ :: ⟨.load 1 false (.t 7), (some 8), none, []⟩ :: L41_4
theorem v41_5 : VS L41_5.eq_1 := rfl
def L41_6 : List AStep := [⟨.faddr 2 (.t 3), (some 12), none, []⟩, ⟨.store 1 (.t 12) (.t 11), none, none, []⟩]
theorem v41_6 : VS L41_6.eq_1 := rfl
def L41_7 : List AStep := ⟨.faddr 2 (.t 1), (some 10), none, []⟩ :: ⟨.load 1 false (.t 10), (some 11), none, []⟩ :: L41_6
theorem v41_7 : VS L41_7.eq_1 := rfl
def L41_8 : List AStep := [⟨.faddr 3 (.t 3), (some 15), none, []⟩, ⟨.store 1 (.t 15) (.t 14), none, none, []⟩]
theorem v41_8 : VS L41_8.eq_1 := rfl
def L41_9 : List AStep := ⟨.faddr 3 (.t 1), (some 13), none, []⟩ :: ⟨.load 1 false (.t 13), (some 14), none, []⟩ :: L41_8
theorem v41_9 : VS L41_9.eq_1 := rfl
def L41_10 : List AStep := [⟨.load 4 true (.t 3), (some 16), none, []⟩, ⟨.store 4 (.t 2) (.t 16), none, none, []⟩]
theorem v41_10 : VS L41_10.eq_1 := rfl
def C41_0 : ACode := .seq (.reg L41_10) .ret
theorem u41_0 : VC C41_0.eq_1 := rfl
def C41_1 : ACode := .seq (.reg L41_9) C41_0
theorem u41_1 : VC C41_1.eq_1 := rfl
def C41_2 : ACode := .seq (.reg L41_7) C41_1
theorem u41_2 : VC C41_2.eq_1 := rfl
def C41_3 : ACode := .seq (.reg L41_5) C41_2
theorem u41_3 : VC C41_3.eq_1 := rfl
def C41_4 : ACode := .seq (.reg L41_3) C41_3
theorem u41_4 : VC C41_4.eq_1 := rfl
def C41_5 : ACode := .seq (.reg L41_1) C41_4
theorem u41_5 : VC C41_5.eq_1 := rfl
def C41_6 : ACode := .seq (.reg L41_0) C41_5
theorem u41_6 : VC C41_6.eq_1 := rfl
def F41 : AFunc := ⟨17, [.cell 2 4 true], C41_6⟩
theorem cF41 : compB Tryz.prog 41 = some F41 := by kernel_rfl
attribute [local go_sem ↓] u41_0 u41_1 u41_2 u41_3 u41_4 u41_5 u41_6 v41_0 v41_1 v41_2 v41_3 v41_4 v41_5 v41_6 v41_7 v41_8 v41_9 v41_10
theorem c_toParam (p : Param) (h : H) : bm Tryz.prog 41 [.agg (encQ p)] h = some (.agg (encQ p), h) := by
  refine bm_eq cF41 ?_
  simp +contextual (maxSteps := 2000000) only [go_sem, Nat.reduceEqDiff, reduceCtorEq, Nat.reduceAdd, Nat.reduceLeDiff, F41, encQ]
/-! laws.toPair -/
def L42_0 : List AStep := [⟨.box 71 (.t 0), (some 1), none, []⟩, ⟨.alloc 81 [(.str (strOfNums [])), (.int .i64 0)], (some 2), none, []⟩]
theorem v42_0 : VS L42_0.eq_1 := rfl
def L42_1 : List AStep := [⟨.alloc 81 [(.str (strOfNums [])), (.int .i64 0)], (some 3), none, []⟩]
theorem v42_1 : VS L42_1.eq_1 := rfl
def L42_2 : List AStep := [⟨.faddr 0 (.t 3), (some 6), none, []⟩, ⟨.store 1 (.t 6) (.t 5), none, none, []⟩]
theorem v42_2 : VS L42_2.eq_1 := rfl
def L42_3 : List AStep := ⟨.faddr 0 (.t 1), (some 4), none, []⟩ :: ⟨.load 1 false (.t 4), (some 5), none, []⟩ :: L42_2
theorem v42_3 : VS L42_3.eq_1 := rfl
def L42_4 : List AStep := [⟨.faddr 1 (.t 3), (some 9), none, []⟩, ⟨.store 1 (.t 9) (.t 8), none, none, []⟩]
theorem v42_4 : VS L42_4.eq_1 := rfl
def L42_5 : List AStep := ⟨.faddr 1 (.t 1), (some 7), none, []⟩ :: ⟨.load 1 false (.t 7), (some 8), none, []⟩ :: L42_4
theorem v42_5 : VS L42_5.eq_1 := rfl
def L42_6 : List AStep := [⟨.load 2 true (.t 3), (some 10), none, []⟩, ⟨.store 2 (.t 2) (.t 10), none, none, []⟩]
theorem v42_6 : VS L42_6.eq_1 := rfl
def C42_0 : ACode := .seq (.reg L42_6) .ret
theorem u42_0 : VC C42_0.eq_1 := rfl
def C42_1 : ACode := .seq (.reg L42_5) C42_0
theorem u42_1 : VC C42_1.eq_1 := rfl
def C42_2 : ACode := .seq (.reg L42_3) C42_1
theorem u42_2 : VC C42_2.eq_1 := rfl
def C42_3 : ACode := .seq (.reg L42_1) C42_2
theorem u42_3 : VC C42_3.eq_1 := rfl
def C42_4 : ACode := .seq (.reg L42_0) C42_3
theorem u42_4 : VC C42_4.eq_1 := rfl
def F42 : AFunc := ⟨11, [.cell 2 2 true], C42_4⟩
theorem cF42 : compB Tryz.prog 42 = some F42 := by kernel_rfl
attribute [local go_sem ↓] u42_0 u42_1 u42_2 u42_3 u42_4 v42_0 v42_1 v42_2 v42_3 v42_4 v42_5 v42_6
theorem c_toPair (p : Pair) (h : H) : bm Tryz.prog 42 [.agg (encP p)] h = some (.agg (encP p), h) := by
  refine bm_eq cF42 ?_
  simp +contextual (maxSteps := 2000000) only [go_sem, Nat.reduceEqDiff, reduceCtorEq, Nat.reduceAdd, Nat.reduceLeDiff, F42, encP]
/-! laws.toIntS -/
def L24_0 : List AStep := [⟨.mov (.c (.sl none 0 (some 0))), (some 2), none, []⟩]
theorem v24_0 : VS L24_0.eq_1 := rfl
def L24_1 : List AStep := [⟨.mkslice 3 8 [(.int .i64 0)] (.t 6) (.t 6), (some 7), none, []⟩, ⟨.mov (.t 7), (some 3), none, []⟩]
theorem v24_1 : VS L24_1.eq_1 := rfl
def L24_2 : List AStep := ⟨.mov (.t 0), (some 5), none, []⟩ :: ⟨.len (.t 5), (some 6), none, []⟩ :: L24_1
theorem v24_2 : VS L24_2.eq_1 := rfl
def L24_3 : List AStep := [⟨.mov (.c (.int .i64 0)), (some 4), none, []⟩]
theorem v24_3 : VS L24_3.eq_1 := rfl
def L24_4 : List AStep := [⟨.len (.t 9), (some 10), none, []⟩, ⟨.bin .lss (.t 8) (.t 10), (some 11), none, []⟩]
theorem v24_4 : VS L24_4.eq_1 := rfl
def L24_5 : List AStep := ⟨.mov (.t 4), (some 8), none, []⟩ :: ⟨.mov (.t 0), (some 9), none, []⟩ :: L24_4
theorem v24_5 : VS L24_5.eq_1 := rfl
def L24_6 : List AStep := [⟨.iaddr 1 (.t 14) (.t 15), (some 20), none, []⟩, ⟨.store 1 (.t 20) (.t 19), none, none, []⟩]
theorem v24_6 : VS L24_6.eq_1 := rfl
def L24_7 : List AStep := ⟨.iaddr 1 (.t 16) (.t 17), (some 18), none, []⟩ :: ⟨.load 1 false (.t 18), (some 19), none, []⟩ :: L24_6
theorem v24_7 : VS L24_7.eq_1 := rfl
def L24_8 : List AStep := ⟨.mov (.t 0), (some 16), none, []⟩ :: ⟨.mov (.t 4), (some 17), none, []⟩ :: L24_7
theorem v24_8 : VS L24_8.eq_1 := rfl
def L24_9 : List AStep := ⟨.mov (.t 3), (some 14), none, []⟩ :: ⟨.mov (.t 4), (some 15), none, []⟩ :: L24_8
theorem v24_9 : VS L24_9.eq_1 := rfl
def L24_10 : List AStep := [⟨.mov (.t 13), (some 4), none, []⟩]
theorem v24_10 : VS L24_10.eq_1 := rfl
def L24_11 : List AStep := ⟨.mov (.t 4), (some 12), none, []⟩ :: ⟨.bin .add (.t 12) (.c (.int .i64 1)), (some 13), none, []⟩ :: L24_10
theorem v24_11 : VS L24_11.eq_1 := rfl
def L24_12 : List AStep := [⟨.mov (.t 3), (some 21), none, []⟩, ⟨.mov (.t 21), (some 2), none, []⟩]
theorem v24_12 : VS L24_12.eq_1 := rfl
def C24_0 : ACode := .cond (.t 11) .skip (.exit 0)
theorem u24_0 : VC C24_0.eq_1 := rfl
def C24_1 : ACode := .seq (.reg L24_5) C24_0
theorem u24_1 : VC C24_1.eq_1 := rfl
def C24_2 : ACode := .block 1 (.reg L24_9)
theorem u24_2 : VC C24_2.eq_1 := rfl
def C24_3 : ACode := .seq C24_2 (.reg L24_11)
theorem u24_3 : VC C24_3.eq_1 := rfl
def C24_4 : ACode := .seq C24_1 C24_3
theorem u24_4 : VC C24_4.eq_1 := rfl
def C24_5 : ACode := .block 0 (.loop C24_4)
theorem u24_5 : VC C24_5.eq_1 := rfl
def C24_6 : ACode := .seq (.reg L24_3) C24_5
theorem u24_6 : VC C24_6.eq_1 := rfl
def C24_7 : ACode := .seq (.reg L24_12) .ret
theorem u24_7 : VC C24_7.eq_1 := rfl
def C24_8 : ACode := .seq C24_6 C24_7
theorem u24_8 : VC C24_8.eq_1 := rfl
def C24_9 : ACode := .seq (.reg L24_2) C24_8
theorem u24_9 : VC C24_9.eq_1 := rfl
def C24_10 : ACode := .seq (.reg L24_0) C24_9
theorem u24_10 : VC C24_10.eq_1 := rfl
def F24 : AFunc := ⟨22, [.tmp 2], C24_10⟩
theorem cF24 : compB Tryz.prog 24 = some F24 := by kernel_rfl
attribute [local go_sem ↓] u24_0 u24_1 u24_2 u24_3 u24_4 u24_5 u24_6 u24_7 u24_8 u24_9 u24_10 v24_0 v24_1 v24_2 v24_3 v24_4 v24_5 v24_6 v24_7 v24_8 v24_9 v24_10 v24_11 v24_12
theorem c_toIntS {t1 : Nat} (l : List Int) (v : AV) (h : H) (hl : Sl encI 1 t1 h v l) (hn : l.length ≤ 1048576) : callK (bm Tryz.prog 24 [v] h) fun r h' => Grow h h' ∧ NwI h h' r l := by
  refine bm_of cF24 ?_
  simp +contextual (maxSteps := 2000000) only [go_sem, Nat.reduceEqDiff, reduceCtorEq, Nat.reduceAdd, Nat.reduceLeDiff, F24, hl.len]
  refine wp_make (enc := encI) (k := 1) (0 : Int) rfl (by omega) (by omega) ?_
  intro h1 o g1 n1 _
  simp +contextual (maxSteps := 2000000) only [go_sem, Nat.reduceEqDiff, reduceCtorEq, Nat.reduceAdd, Nat.reduceLeDiff]
  refine wpC_loop (fun i T L h' => Grow h h' ∧ T 0 = .v v ∧ T 3 = .v o ∧ T 4 = .v (.one (.int .i64 i)) ∧ NwI h h' o (fillL l (0 : Int) i)) l.length ?_ ?_ (Nat.zero_le _) ?_
  · rintro i T L h' hi ⟨g, t0, t3, t4, no⟩
    have hl := (‹Sl encI 1 t1 h v l›).grow g
    have hio : i < (fillL l (0 : Int) i).length := by rw [fillL_len (by omega)]; exact hi
    simp +contextual (maxSteps := 2000000) only [go_sem, Nat.reduceEqDiff, reduceCtorEq, Nat.reduceAdd, Nat.reduceLeDiff, t0, t3, t4, hl.len, hl.iaddr hi, hl.oneO hi, no.iaddr hio, lt_true hi]
    refine wp_setE (x := l[i]) lenI no hio rfl rfl g ?_
    intro h2 g2 n2 _
    simp +contextual (maxSteps := 2000000) only [go_sem, Nat.reduceEqDiff, reduceCtorEq, Nat.reduceAdd, Nat.reduceLeDiff, t0, t3, t4]
    rw [fillL_set hi] at n2
    exact ⟨g2, by rw [wrap_next hi (by omega)], n2⟩
  · rintro T L h' ⟨g, t0, t3, t4, no⟩
    have hl := (‹Sl encI 1 t1 h v l›).grow g
    simp +contextual (maxSteps := 2000000) only [go_sem, Nat.reduceEqDiff, reduceCtorEq, Nat.reduceAdd, Nat.reduceLeDiff, t0, t3, t4, hl.len, lt_false]
    rw [fillL_all] at no
    exact gcK_of ⟨g, no⟩ (fun hs _ => ⟨Grow.refl h, no.scalar hs h⟩)
  · simp +contextual (maxSteps := 2000000) only [go_sem, Nat.reduceEqDiff, reduceCtorEq, Nat.reduceAdd, Nat.reduceLeDiff]
    exact ⟨g1, rfl, by rw [fillL_zero]; exact n1⟩
/-! laws.toParamS -/
def L23_0 : List AStep := [⟨.mov (.c (.sl none 0 (some 0))), (some 2), none, []⟩]
theorem v23_0 : VS L23_0.eq_1 := rfl
def L23_1 : List AStep := [⟨.mkslice 79 40 [(.str (strOfNums [])), (.int .i64 0), (.bool false), (.int .i64 0)] (.t 6) (.t 6), (some 7), none, []⟩, ⟨.mov (.t 7), (some 3), none, []⟩]
theorem v23_1 : VS L23_1.eq_1 := rfl
def L23_2 : List AStep := ⟨.mov (.t 0), (some 5), none, []⟩ :: ⟨.len (.t 5), (some 6), none, []⟩ :: L23_1
theorem v23_2 : VS L23_2.eq_1 := rfl
def L23_3 : List AStep := [⟨.mov (.c (.int .i64 0)), (some 4), none, []⟩]
theorem v23_3 : VS L23_3.eq_1 := rfl
def L23_4 : List AStep := [⟨.len (.t 9), (some 10), none, []⟩, ⟨.bin .lss (.t 8) (.t 10), (some 11), none, []⟩]
theorem v23_4 : VS L23_4.eq_1 := rfl
def L23_5 : List AStep := ⟨.mov (.t 4), (some 8), none, []⟩ :: ⟨.mov (.t 0), (some 9), none, []⟩ :: L23_4
theorem v23_5 : VS L23_5.eq_1 := rfl
def L23_6 : List AStep := [⟨.store 4 (.t 21) (.t 20), none, none, []⟩]
theorem v23_6 : VS L23_6.eq_1 := rfl
def L23_7 : List AStep := ⟨.call 41 [(.t 19)], (some 20), none, []⟩ :: ⟨.iaddr 4 (.t 14) (.t 15), (some 21), none, []⟩ :: L23_6
theorem v23_7 : VS L23_7.eq_1 := rfl
def L23_8 : List AStep := ⟨.iaddr 4 (.t 16) (.t 17), (some 18), none, []⟩ :: ⟨.load 4 true (.t 18), (some 19), none, []⟩ :: L23_7
theorem v23_8 : VS L23_8.eq_1 := rfl
def L23_9 : List AStep := ⟨.mov (.t 0), (some 16), none, []⟩ :: ⟨.mov (.t 4), (some 17), none, []⟩ :: L23_8
theorem v23_9 : VS L23_9.eq_1 := rfl
def L23_10 : List AStep := ⟨.mov (.t 3), (some 14), none, []⟩ :: ⟨.mov (.t 4), (some 15), none, []⟩ :: L23_9
theorem v23_10 : VS L23_10.eq_1 := rfl
def L23_11 : List AStep := [⟨.mov (.t 13), (some 4), none, []⟩]
theorem v23_11 : VS L23_11.eq_1 := rfl
def L23_12 : List AStep := ⟨.mov (.t 4), (some 12), none, []⟩ :: ⟨.bin .add (.t 12) (.c (.int .i64 1)), (some 13), none, []⟩ :: L23_11
theorem v23_12 : VS L23_12.eq_1 := rfl
def L23_13 : List AStep := [⟨.mov (.t 3), (some 22), none, []⟩, ⟨.mov (.t 22), (some 2), none, []⟩]
theorem v23_13 : VS L23_13.eq_1 := rfl
def C23_0 : ACode := .cond (.t 11) .skip (.exit 0)
theorem u23_0 : VC C23_0.eq_1 := rfl
def C23_1 : ACode := .seq (.reg L23_5) C23_0
theorem u23_1 : VC C23_1.eq_1 := rfl
def C23_2 : ACode := .block 1 (.reg L23_10)
theorem u23_2 : VC C23_2.eq_1 := rfl
def C23_3 : ACode := .seq C23_2 (.reg L23_12)
theorem u23_3 : VC C23_3.eq_1 := rfl
def C23_4 : ACode := .seq C23_1 C23_3
theorem u23_4 : VC C23_4.eq_1 := rfl
def C23_5 : ACode := .block 0 (.loop C23_4)
theorem u23_5 : VC C23_5.eq_1 := rfl
def C23_6 : ACode := .seq (.reg L23_3) C23_5
theorem u23_6 : VC C23_6.eq_1 := rfl
def C23_7 : ACode := .seq (.reg L23_13) .ret
theorem u23_7 : VC C23_7.eq_1 := rfl
def C23_8 : ACode := .seq C23_6 C23_7
theorem u23_8 : VC C23_8.eq_1 := rfl
def C23_9 : ACode := .seq (.reg L23_2) C23_8
theorem u23_9 : VC C23_9.eq_1 := rfl
def C23_10 : ACode := .seq (.reg L23_0) C23_9
theorem u23_10 : VC C23_10.eq_1 := rfl
def F23 : AFunc := ⟨23, [.tmp 2], C23_10⟩
theorem cF23 : compB Tryz.prog 23 = some F23 := by kernel_rfl
attribute [local go_sem ↓] u23_0 u23_1 u23_2 u23_3 u23_4 u23_5 u23_6 u23_7 u23_8 u23_9 u23_10 v23_0 v23_1 v23_2 v23_3 v23_4 v23_5 v23_6 v23_7 v23_8 v23_9 v23_10 v23_11 v23_12 v23_13
theorem c_toParamS {t1 : Nat} (l : List Param) (v : AV) (h : H) (hl : Sl encQ 4 t1 h v l) (hn : l.length ≤ 1048576) : callK (bm Tryz.prog 23 [v] h) fun r h' => Grow h h' ∧ NwQ h h' r l := by
  refine bm_of cF23 ?_
  simp +contextual (maxSteps := 2000000) only [go_sem, Nat.reduceEqDiff, reduceCtorEq, Nat.reduceAdd, Nat.reduceLeDiff, F23, hl.len]
  refine wp_make (enc := encQ) (k := 4) (⟨(strOfNums []), 0, false, 0⟩ : Param) rfl (by omega) (by omega) ?_
  intro h1 o g1 n1 _
  simp +contextual (maxSteps := 2000000) only [go_sem, Nat.reduceEqDiff, reduceCtorEq, Nat.reduceAdd, Nat.reduceLeDiff]
  refine wpC_loop (fun i T L h' => Grow h h' ∧ T 0 = .v v ∧ T 3 = .v o ∧ T 4 = .v (.one (.int .i64 i)) ∧ NwQ h h' o (fillL l (⟨(strOfNums []), 0, false, 0⟩ : Param) i)) l.length ?_ ?_ (Nat.zero_le _) ?_
  · rintro i T L h' hi ⟨g, t0, t3, t4, no⟩
    have hl := (‹Sl encQ 4 t1 h v l›).grow g
    have hio : i < (fillL l (⟨(strOfNums []), 0, false, 0⟩ : Param) i).length := by rw [fillL_len (by omega)]; exact hi
    simp +contextual (maxSteps := 2000000) only [go_sem, Nat.reduceEqDiff, reduceCtorEq, Nat.reduceAdd, Nat.reduceLeDiff, t0, t3, t4, hl.len, hl.iaddr hi, hl.whole hi, no.iaddr hio, lt_true hi, c_toParam]
    refine wp_setE (x := l[i]) lenQ no hio rfl rfl g ?_
    intro h2 g2 n2 _
    simp +contextual (maxSteps := 2000000) only [go_sem, Nat.reduceEqDiff, reduceCtorEq, Nat.reduceAdd, Nat.reduceLeDiff, t0, t3, t4]
    rw [fillL_set hi] at n2
    exact ⟨g2, by rw [wrap_next hi (by omega)], n2⟩
  · rintro T L h' ⟨g, t0, t3, t4, no⟩
    have hl := (‹Sl encQ 4 t1 h v l›).grow g
    simp +contextual (maxSteps := 2000000) only [go_sem, Nat.reduceEqDiff, reduceCtorEq, Nat.reduceAdd, Nat.reduceLeDiff, t0, t3, t4, hl.len, lt_false]
    rw [fillL_all] at no
    exact gcK_of ⟨g, no⟩ (fun hs _ => ⟨Grow.refl h, no.scalar hs h⟩)
  · simp +contextual (maxSteps := 2000000) only [go_sem, Nat.reduceEqDiff, reduceCtorEq, Nat.reduceAdd, Nat.reduceLeDiff]
    exact ⟨g1, rfl, by rw [fillL_zero]; exact n1⟩
/-! laws.toPairS -/
def L25_0 : List AStep := [⟨.mov (.c (.sl none 0 (some 0))), (some 2), none, []⟩]
theorem v25_0 : VS L25_0.eq_1 := rfl
def L25_1 : List AStep := [⟨.mkslice 81 24 [(.str (strOfNums [])), (.int .i64 0)] (.t 6) (.t 6), (some 7), none, []⟩, ⟨.mov (.t 7), (some 3), none, []⟩]
theorem v25_1 : VS L25_1.eq_1 := rfl
def L25_2 : List AStep := ⟨.mov (.t 0), (some 5), none, []⟩ :: ⟨.len (.t 5), (some 6), none, []⟩ :: L25_1
theorem v25_2 : VS L25_2.eq_1 := rfl
def L25_3 : List AStep := [⟨.mov (.c (.int .i64 0)), (some 4), none, []⟩]
theorem v25_3 : VS L25_3.eq_1 := rfl
def L25_4 : List AStep := [⟨.len (.t 9), (some 10), none, []⟩, ⟨.bin .lss (.t 8) (.t 10), (some 11), none, []⟩]
theorem v25_4 : VS L25_4.eq_1 := rfl
def L25_5 : List AStep := ⟨.mov (.t 4), (some 8), none, []⟩ :: ⟨.mov (.t 0), (some 9), none, []⟩ :: L25_4
theorem v25_5 : VS L25_5.eq_1 := rfl
def L25_6 : List AStep := [⟨.store 2 (.t 21) (.t 20), none, none, []⟩]
theorem v25_6 : VS L25_6.eq_1 := rfl
def L25_7 : List AStep := ⟨.call 42 [(.t 19)], (some 20), none, []⟩ :: ⟨.iaddr 2 (.t 14) (.t 15), (some 21), none, []⟩ :: L25_6
theorem v25_7 : VS L25_7.eq_1 := rfl
def L25_8 : List AStep := ⟨.iaddr 2 (.t 16) (.t 17), (some 18), none, []⟩ :: ⟨.load 2 true (.t 18), (some 19), none, []⟩ :: L25_7
theorem v25_8 : VS L25_8.eq_1 := rfl
def L25_9 : List AStep := ⟨.mov (.t 0), (some 16), none, []⟩ :: ⟨.mov (.t 4), (some 17), none, []⟩ :: L25_8
theorem v25_9 : VS L25_9.eq_1 := rfl
def L25_10 : List AStep := ⟨.mov (.t 3), (some 14), none, []⟩ :: ⟨.mov (.t 4), (some 15), none, []⟩ :: L25_9
theorem v25_10 : VS L25_10.eq_1 := rfl
def L25_11 : List AStep := [⟨.mov (.t 13), (some 4), none, []⟩]
theorem v25_11 : VS L25_11.eq_1 := rfl
def L25_12 : List AStep := ⟨.mov (.t 4), (some 12), none, []⟩ :: ⟨.bin .add (.t 12) (.c (.int .i64 1)), (some 13), none, []⟩ :: L25_11
theorem v25_12 : VS L25_12.eq_1 := rfl
def L25_13 : List AStep := [⟨.mov (.t 3), (some 22), none, []⟩, ⟨.mov (.t 22), (some 2), none, []⟩]
theorem v25_13 : VS L25_13.eq_1 := rfl
def C25_0 : ACode := .cond (.t 11) .skip (.exit 0)
theorem u25_0 : VC C25_0.eq_1 := rfl
def C25_1 : ACode := .seq (.reg L25_5) C25_0
theorem u25_1 : VC C25_1.eq_1 := rfl
def C25_2 : ACode := .block 1 (.reg L25_10)
theorem u25_2 : VC C25_2.eq_1 := rfl
def C25_3 : ACode := .seq C25_2 (.reg L25_12)
theorem u25_3 : VC C25_3.eq_1 := rfl
def C25_4 : ACode := .seq C25_1 C25_3
theorem u25_4 : VC C25_4.eq_1 := rfl
def C25_5 : ACode := .block 0 (.loop C25_4)
theorem u25_5 : VC C25_5.eq_1 := rfl
def C25_6 : ACode := .seq (.reg L25_3) C25_5
theorem u25_6 : VC C25_6.eq_1 := rfl
def C25_7 : ACode := .seq (.reg L25_13) .ret
theorem u25_7 : VC C25_7.eq_1 := rfl
def C25_8 : ACode := .seq C25_6 C25_7
theorem u25_8 : VC C25_8.eq_1 := rfl
def C25_9 : ACode := .seq (.reg L25_2) C25_8
theorem u25_9 : VC C25_9.eq_1 := rfl
def C25_10 : ACode := .seq (.reg L25_0) C25_9
theorem u25_10 : VC C25_10.eq_1 := rfl
def F25 : AFunc := ⟨23, [.tmp 2], C25_10⟩
theorem cF25 : compB Tryz.prog 25 = some F25 := by kernel_rfl
attribute [local go_sem ↓] u25_0 u25_1 u25_2 u25_3 u25_4 u25_5 u25_6 u25_7 u25_8 u25_9 u25_10 v25_0 v25_1 v25_2 v25_3 v25_4 v25_5 v25_6 v25_7 v25_8 v25_9 v25_10 v25_11 v25_12 v25_13
theorem c_toPairS {t1 : Nat} (l : List Pair) (v : AV) (h : H) (hl : Sl encP 2 t1 h v l) (hn : l.length ≤ 1048576) : callK (bm Tryz.prog 25 [v] h) fun r h' => Grow h h' ∧ NwP h h' r l := by
  refine bm_of cF25 ?_
  simp +contextual (maxSteps := 2000000) only [go_sem, Nat.reduceEqDiff, reduceCtorEq, Nat.reduceAdd, Nat.reduceLeDiff, F25, hl.len]
  refine wp_make (enc := encP) (k := 2) (⟨(strOfNums []), 0⟩ : Pair) rfl (by omega) (by omega) ?_
  intro h1 o g1 n1 _
  simp +contextual (maxSteps := 2000000) only [go_sem, Nat.reduceEqDiff, reduceCtorEq, Nat.reduceAdd, Nat.reduceLeDiff]
  refine wpC_loop (fun i T L h' => Grow h h' ∧ T 0 = .v v ∧ T 3 = .v o ∧ T 4 = .v (.one (.int .i64 i)) ∧ NwP h h' o (fillL l (⟨(strOfNums []), 0⟩ : Pair) i)) l.length ?_ ?_ (Nat.zero_le _) ?_
  · rintro i T L h' hi ⟨g, t0, t3, t4, no⟩
    have hl := (‹Sl encP 2 t1 h v l›).grow g
    have hio : i < (fillL l (⟨(strOfNums []), 0⟩ : Pair) i).length := by rw [fillL_len (by omega)]; exact hi
    simp +contextual (maxSteps := 2000000) only [go_sem, Nat.reduceEqDiff, reduceCtorEq, Nat.reduceAdd, Nat.reduceLeDiff, t0, t3, t4, hl.len, hl.iaddr hi, hl.whole hi, no.iaddr hio, lt_true hi, c_toPair]
    refine wp_setE (x := l[i]) lenP no hio rfl rfl g ?_
    intro h2 g2 n2 _
    simp +contextual (maxSteps := 2000000) only [go_sem, Nat.reduceEqDiff, reduceCtorEq, Nat.reduceAdd, Nat.reduceLeDiff, t0, t3, t4]
    rw [fillL_set hi] at n2
    exact ⟨g2, by rw [wrap_next hi (by omega)], n2⟩
  · rintro T L h' ⟨g, t0, t3, t4, no⟩
    have hl := (‹Sl encP 2 t1 h v l›).grow g
    simp +contextual (maxSteps := 2000000) only [go_sem, Nat.reduceEqDiff, reduceCtorEq, Nat.reduceAdd, Nat.reduceLeDiff, t0, t3, t4, hl.len, lt_false]
    rw [fillL_all] at no
    exact gcK_of ⟨g, no⟩ (fun hs _ => ⟨Grow.refl h, no.scalar hs h⟩)
  · simp +contextual (maxSteps := 2000000) only [go_sem, Nat.reduceEqDiff, reduceCtorEq, Nat.reduceAdd, Nat.reduceLeDiff]
    exact ⟨g1, rfl, by rw [fillL_zero]; exact n1⟩
/-! laws.markIntS -/
def L33_0 : List AStep := [⟨.mov (.c (.int .i64 0)), (some 4), none, []⟩]
theorem v33_0 : VS L33_0.eq_1 := rfl
def L33_1 : List AStep := [⟨.mov (.c (.int .i64 0)), (some 5), none, []⟩]
theorem v33_1 : VS L33_1.eq_1 := rfl
def L33_2 : List AStep := [⟨.len (.t 7), (some 8), none, []⟩, ⟨.bin .lss (.t 6) (.t 8), (some 9), none, []⟩]
theorem v33_2 : VS L33_2.eq_1 := rfl
def L33_3 : List AStep := ⟨.mov (.t 5), (some 6), none, []⟩ :: ⟨.mov (.t 0), (some 7), none, []⟩ :: L33_2
theorem v33_3 : VS L33_3.eq_1 := rfl
def L33_4 : List AStep := [⟨.store 1 (.t 15) (.t 14), none, none, []⟩]
theorem v33_4 : VS L33_4.eq_1 := rfl
def L33_5 : List AStep := ⟨.mov (.t 1), (some 14), none, []⟩ :: ⟨.iaddr 1 (.t 12) (.t 13), (some 15), none, []⟩ :: L33_4
theorem v33_5 : VS L33_5.eq_1 := rfl
def L33_6 : List AStep := ⟨.mov (.t 0), (some 12), none, []⟩ :: ⟨.mov (.t 5), (some 13), none, []⟩ :: L33_5
theorem v33_6 : VS L33_6.eq_1 := rfl
def L33_7 : List AStep := [⟨.mov (.t 17), (some 1), none, []⟩]
theorem v33_7 : VS L33_7.eq_1 := rfl
def L33_8 : List AStep := ⟨.mov (.t 1), (some 16), none, []⟩ :: ⟨.bin .add (.t 16) (.c (.int .i64 1)), (some 17), none, []⟩ :: L33_7
theorem v33_8 : VS L33_8.eq_1 := rfl
def L33_9 : List AStep := [⟨.mov (.t 11), (some 5), none, []⟩]
theorem v33_9 : VS L33_9.eq_1 := rfl
def L33_10 : List AStep := ⟨.mov (.t 5), (some 10), none, []⟩ :: ⟨.bin .add (.t 10) (.c (.int .i64 1)), (some 11), none, []⟩ :: L33_9
theorem v33_10 : VS L33_10.eq_1 := rfl
def L33_11 : List AStep := [⟨.mov (.t 1), (some 18), none, []⟩, ⟨.mov (.t 18), (some 4), none, []⟩]
theorem v33_11 : VS L33_11.eq_1 := rfl
def C33_0 : ACode := .cond (.t 9) .skip (.exit 0)
theorem u33_0 : VC C33_0.eq_1 := rfl
def C33_1 : ACode := .seq (.reg L33_3) C33_0
theorem u33_1 : VC C33_1.eq_1 := rfl
def C33_2 : ACode := .seq (.reg L33_6) (.reg L33_8)
theorem u33_2 : VC C33_2.eq_1 := rfl
def C33_3 : ACode := .block 1 C33_2
theorem u33_3 : VC C33_3.eq_1 := rfl
def C33_4 : ACode := .seq C33_3 (.reg L33_10)
theorem u33_4 : VC C33_4.eq_1 := rfl
def C33_5 : ACode := .seq C33_1 C33_4
theorem u33_5 : VC C33_5.eq_1 := rfl
def C33_6 : ACode := .block 0 (.loop C33_5)
theorem u33_6 : VC C33_6.eq_1 := rfl
def C33_7 : ACode := .seq (.reg L33_1) C33_6
theorem u33_7 : VC C33_7.eq_1 := rfl
def C33_8 : ACode := .seq (.reg L33_11) .ret
theorem u33_8 : VC C33_8.eq_1 := rfl
def C33_9 : ACode := .seq C33_7 C33_8
theorem u33_9 : VC C33_9.eq_1 := rfl
def C33_10 : ACode := .seq (.reg L33_0) C33_9
theorem u33_10 : VC C33_10.eq_1 := rfl
def F33 : AFunc := ⟨19, [.tmp 4], C33_10⟩
theorem cF33 : compB Tryz.prog 33 = some F33 := by kernel_rfl
attribute [local go_sem ↓] u33_0 u33_1 u33_2 u33_3 u33_4 u33_5 u33_6 u33_7 u33_8 u33_9 u33_10 v33_0 v33_1 v33_2 v33_3 v33_4 v33_5 v33_6 v33_7 v33_8 v33_9 v33_10 v33_11
theorem c_markIntS (l : List Int) (v : AV) (k : Int) (h0 h : H) (hl : NwI h0 h v l) (g : Grow h0 h) (k1 : 0 ≤ k) (k2 : k ≤ 2 ^ 40) (hn : l.length ≤ 2 ^ 30) :
    callK (bm Tryz.prog 33 [v, .one (.int .i64 k)] h) fun r h' => r = ii (k + ((1 * l.length : Nat) : Int)) ∧ Grow h0 h' ∧ NwI h0 h' v (markL mkI 1 k l.length) ∧ Stay v h h' := by
  refine bm_of cF33 ?_
  simp +contextual (maxSteps := 2000000) only [go_sem, Nat.reduceEqDiff, reduceCtorEq, Nat.reduceAdd, Nat.reduceLeDiff, F33]
  refine wpC_loop (fun i T L h' => Grow h0 h' ∧ T 0 = .v v ∧ T 1 = .v (.one (.int .i64 (k + ((1 * i : Nat) : Int)))) ∧ T 5 = .v (.one (.int .i64 i)) ∧ NwI h0 h' v (markT mkI 1 k l i) ∧ Stay v h h') l.length ?_ ?_ (Nat.zero_le _) ?_
  · rintro i T L h' hi ⟨g, t0, t1, t5, no, st⟩
    have hlen : (markT mkI 1 k l i).length = l.length := markT_len (by omega)
    have hio : i < (markT mkI 1 k l i).length := by omega
    have hln := no.length
    rw [hlen] at hln
    have hia := no.iaddr hio (kd := .i64)
    have wr1 : IntKind.i64.wrap ((k + ((1 * i : Nat) : Int)) + 1) = (k + ((1 * i : Nat) : Int) + 1) := (i64_wrap (by omega) (by omega)).trans (by omega)
    simp +contextual (maxSteps := 2000000) only [go_sem, Nat.reduceEqDiff, reduceCtorEq, Nat.reduceAdd, Nat.reduceLeDiff, t0, t1, t5, hln, hia, lt_true hi, wr1]
    refine wp_setE (x := (k + ((1 * i : Nat) : Int))) lenI no hio rfl rfl g ?_
    intro h2 g2 n2 s2
    simp +contextual (maxSteps := 2000000) only [go_sem, Nat.reduceEqDiff, reduceCtorEq, Nat.reduceAdd, Nat.reduceLeDiff, t0, t1, t5, hln, hia, wr1]
    have e : (markT mkI 1 k l i).set i (mkI (k + ((1 * i : Nat) : Int))) = markT mkI 1 k l (i + 1) := markT_set hi
    have n3 : NwI h0 h2 v (markT mkI 1 k l (i + 1)) := by rw [← e]; exact n2
    refine ⟨g2, by rw [show k + ((1 * (i + 1) : Nat) : Int) = (k + ((1 * i : Nat) : Int) + 1) by omega], by rw [wrap_next hi (by omega)], n3, (st.trans s2)⟩
  · rintro T L h' ⟨g, t0, t1, t5, no, st⟩
    have hln := no.length
    rw [markT_len (Nat.le_refl _)] at hln
    simp +contextual (maxSteps := 2000000) only [go_sem, Nat.reduceEqDiff, reduceCtorEq, Nat.reduceAdd, Nat.reduceLeDiff, t0, t1, t5, hln, lt_false]
    rw [markT_all] at no
    exact gcK_of ⟨rfl, g, no, st⟩ (fun _ gg => ⟨rfl, ‹Grow h0 h›, no.back hl gg, (Grow.refl h).stay v⟩)
  · simp +contextual (maxSteps := 2000000) only [go_sem, Nat.reduceEqDiff, reduceCtorEq, Nat.reduceAdd, Nat.reduceLeDiff]
    exact ⟨g, by simp, rfl, by rw [markT_zero]; exact hl, (Grow.refl h).stay v⟩
/-! laws.heldIntS -/
def L51_0 : List AStep := [⟨.mov (.c (.int .i64 0)), (some 4), none, []⟩]
theorem v51_0 : VS L51_0.eq_1 := rfl
def L51_1 : List AStep := [⟨.mov (.c (.int .i64 0)), (some 5), none, []⟩]
theorem v51_1 : VS L51_1.eq_1 := rfl
def L51_2 : List AStep := [⟨.len (.t 7), (some 8), none, []⟩, ⟨.bin .lss (.t 6) (.t 8), (some 9), none, []⟩]
theorem v51_2 : VS L51_2.eq_1 := rfl
def L51_3 : List AStep := ⟨.mov (.t 5), (some 6), none, []⟩ :: ⟨.mov (.t 0), (some 7), none, []⟩ :: L51_2
theorem v51_3 : VS L51_3.eq_1 := rfl
def L51_4 : List AStep := [⟨.mov (.t 1), (some 16), none, []⟩, ⟨.bin .neq (.t 15) (.t 16), (some 17), none, []⟩]
theorem v51_4 : VS L51_4.eq_1 := rfl
def L51_5 : List AStep := ⟨.iaddr 1 (.t 12) (.t 13), (some 14), none, []⟩ :: ⟨.load 1 false (.t 14), (some 15), none, []⟩ :: L51_4
theorem v51_5 : VS L51_5.eq_1 := rfl
def L51_6 : List AStep := ⟨.mov (.t 0), (some 12), none, []⟩ :: ⟨.mov (.t 5), (some 13), none, []⟩ :: L51_5
theorem v51_6 : VS L51_6.eq_1 := rfl
def L51_7 : List AStep := [⟨.mov (.c (.int .i64 (-1))), (some 4), none, []⟩]
theorem v51_7 : VS L51_7.eq_1 := rfl
def L51_8 : List AStep := [⟨.mov (.t 19), (some 1), none, []⟩]
theorem v51_8 : VS L51_8.eq_1 := rfl
def L51_9 : List AStep := ⟨.mov (.t 1), (some 18), none, []⟩ :: ⟨.bin .add (.t 18) (.c (.int .i64 1)), (some 19), none, []⟩ :: L51_8
theorem v51_9 : VS L51_9.eq_1 := rfl
def L51_10 : List AStep := [⟨.mov (.t 11), (some 5), none, []⟩]
theorem v51_10 : VS L51_10.eq_1 := rfl
def L51_11 : List AStep := ⟨.mov (.t 5), (some 10), none, []⟩ :: ⟨.bin .add (.t 10) (.c (.int .i64 1)), (some 11), none, []⟩ :: L51_10
theorem v51_11 : VS L51_11.eq_1 := rfl
def L51_12 : List AStep := [⟨.mov (.t 1), (some 20), none, []⟩, ⟨.mov (.t 20), (some 4), none, []⟩]
theorem v51_12 : VS L51_12.eq_1 := rfl
def C51_0 : ACode := .cond (.t 9) .skip (.exit 0)
theorem u51_0 : VC C51_0.eq_1 := rfl
def C51_1 : ACode := .seq (.reg L51_3) C51_0
theorem u51_1 : VC C51_1.eq_1 := rfl
def C51_2 : ACode := .seq (.reg L51_7) .ret
theorem u51_2 : VC C51_2.eq_1 := rfl
def C51_3 : ACode := .cond (.t 17) C51_2 .skip
theorem u51_3 : VC C51_3.eq_1 := rfl
def C51_4 : ACode := .seq (.reg L51_6) C51_3
theorem u51_4 : VC C51_4.eq_1 := rfl
def C51_5 : ACode := .seq C51_4 (.reg L51_9)
theorem u51_5 : VC C51_5.eq_1 := rfl
def C51_6 : ACode := .block 1 C51_5
theorem u51_6 : VC C51_6.eq_1 := rfl
def C51_7 : ACode := .seq C51_6 (.reg L51_11)
theorem u51_7 : VC C51_7.eq_1 := rfl
def C51_8 : ACode := .seq C51_1 C51_7
theorem u51_8 : VC C51_8.eq_1 := rfl
def C51_9 : ACode := .block 0 (.loop C51_8)
theorem u51_9 : VC C51_9.eq_1 := rfl
def C51_10 : ACode := .seq (.reg L51_1) C51_9
theorem u51_10 : VC C51_10.eq_1 := rfl
def C51_11 : ACode := .seq (.reg L51_12) .ret
theorem u51_11 : VC C51_11.eq_1 := rfl
def C51_12 : ACode := .seq C51_10 C51_11
theorem u51_12 : VC C51_12.eq_1 := rfl
def C51_13 : ACode := .seq (.reg L51_0) C51_12
theorem u51_13 : VC C51_13.eq_1 := rfl
def F51 : AFunc := ⟨21, [.tmp 4], C51_13⟩
theorem cF51 : compB Tryz.prog 51 = some F51 := by kernel_rfl
attribute [local go_sem ↓] u51_0 u51_1 u51_2 u51_3 u51_4 u51_5 u51_6 u51_7 u51_8 u51_9 u51_10 u51_11 u51_12 u51_13 v51_0 v51_1 v51_2 v51_3 v51_4 v51_5 v51_6 v51_7 v51_8 v51_9 v51_10 v51_11 v51_12
theorem c_heldIntS (n : Nat) (v : AV) (k : Int) (h : H) (hl : SlI h v (markL mkI 1 k n)) (k1 : 0 ≤ k) (k2 : k ≤ 2 ^ 40) (hn : n ≤ 2 ^ 30) :
    bm Tryz.prog 51 [v, .one (.int .i64 k)] h = some (ii (k + ((1 * n : Nat) : Int)), h) := by
  refine bm_eq cF51 ?_
  have hlen := hl.len
  rw [markL_len] at hlen
  simp +contextual (maxSteps := 2000000) only [go_sem, Nat.reduceEqDiff, reduceCtorEq, Nat.reduceAdd, Nat.reduceLeDiff, F51]
  refine wpC_loop (fun i T L h' => h' = h ∧ T 0 = .v v ∧ T 1 = .v (.one (.int .i64 (k + ((1 * i : Nat) : Int)))) ∧ T 5 = .v (.one (.int .i64 i))) n ?_ ?_ (Nat.zero_le _) ?_
  · rintro i T L h' hi ⟨rfl, t0, t1, t5⟩
    have hio : i < (markL mkI 1 k n).length := by rw [markL_len]; exact hi
    have hat := markL_at hio
    have hia := hl.iaddr hio (kd := .i64)
    have hf : ∀ off : Nat, off + 1 ≤ 1 → _ := fun off ho => hl.fieldO (off := off) hio ho
    rw [hat] at hf
    have h0 := hl.field0 (c := .int .i64 (k + ((1 * i : Nat) : Int))) hio (by rw [hat]; rfl)
    have wr1 : IntKind.i64.wrap ((k + ((1 * i : Nat) : Int)) + 1) = (k + ((1 * i : Nat) : Int) + 1) := (i64_wrap (by omega) (by omega)).trans (by omega)
    simp +contextual (maxSteps := 2000000) only [go_sem, Nat.reduceEqDiff, reduceCtorEq, Nat.reduceAdd, Nat.reduceLeDiff, t0, t1, t5, hlen, hia, hf, h0, lt_true hi, decide_true, mkI, mBool, wr1]
    rw [show k + ((1 * (i + 1) : Nat) : Int) = (k + ((1 * i : Nat) : Int) + 1) by omega, wrap_next hi (by omega)]
    try exact ⟨rfl, rfl⟩
  · rintro T L h' ⟨rfl, t0, t1, t5⟩
    simp +contextual (maxSteps := 2000000) only [go_sem, Nat.reduceEqDiff, reduceCtorEq, Nat.reduceAdd, Nat.reduceLeDiff, t0, t1, t5, hlen, lt_false]
  · simp +contextual (maxSteps := 2000000) only [go_sem, Nat.reduceEqDiff, reduceCtorEq, Nat.reduceAdd, Nat.reduceLeDiff]
    simp
/-! laws.markPairS -/
def L34_0 : List AStep := [⟨.mov (.c (.int .i64 0)), (some 4), none, []⟩]
theorem v34_0 : VS L34_0.eq_1 := rfl
def L34_1 : List AStep := [⟨.mov (.c (.int .i64 0)), (some 5), none, []⟩]
theorem v34_1 : VS L34_1.eq_1 := rfl
def L34_2 : List AStep := [⟨.len (.t 7), (some 8), none, []⟩, ⟨.bin .lss (.t 6) (.t 8), (some 9), none, []⟩]
theorem v34_2 : VS L34_2.eq_1 := rfl
def L34_3 : List AStep := ⟨.mov (.t 5), (some 6), none, []⟩ :: ⟨.mov (.t 0), (some 7), none, []⟩ :: L34_2
theorem v34_3 : VS L34_3.eq_1 := rfl
def L34_4 : List AStep := [⟨.store 1 (.t 17) (.t 15), none, none, []⟩]
theorem v34_4 : VS L34_4.eq_1 := rfl
def L34_5 : List AStep := ⟨.iaddr 2 (.t 12) (.t 13), (some 16), none, []⟩ :: ⟨.faddr 0 (.t 16), (some 17), none, []⟩ :: L34_4
theorem v34_5 : VS L34_5.eq_1 := rfl
def L34_6 : List AStep := ⟨.mov (.t 1), (some 14), none, []⟩ :: ⟨.call 49 [(.t 14)], (some 15), none, []⟩ :: L34_5
theorem v34_6 : VS L34_6.eq_1 := rfl
def L34_7 : List AStep := ⟨.mov (.t 0), (some 12), none, []⟩ :: ⟨.mov (.t 5), (some 13), none, []⟩ :: L34_6
theorem v34_7 : VS L34_7.eq_1 := rfl
def L34_8 : List AStep := [⟨.mov (.t 19), (some 1), none, []⟩]
theorem v34_8 : VS L34_8.eq_1 := rfl
def L34_9 : List AStep := ⟨.mov (.t 1), (some 18), none, []⟩ :: ⟨.bin .add (.t 18) (.c (.int .i64 1)), (some 19), none, []⟩ :: L34_8
theorem v34_9 : VS L34_9.eq_1 := rfl
def L34_10 : List AStep := [⟨.faddr 1 (.t 23), (some 24), none, []⟩, ⟨.store 1 (.t 24) (.t 22), none, none, []⟩]
theorem v34_10 : VS L34_10.eq_1 := rfl
def L34_11 : List AStep := ⟨.mov (.t 1), (some 22), none, []⟩ :: ⟨.iaddr 2 (.t 20) (.t 21), (some 23), none, []⟩ :: L34_10
theorem v34_11 : VS L34_11.eq_1 := rfl
def L34_12 : List AStep := ⟨.mov (.t 0), (some 20), none, []⟩ :: ⟨.mov (.t 5), (some 21), none, []⟩ :: L34_11
theorem v34_12 : VS L34_12.eq_1 := rfl
def L34_13 : List AStep := [⟨.mov (.t 26), (some 1), none, []⟩]
theorem v34_13 : VS L34_13.eq_1 := rfl
def L34_14 : List AStep := ⟨.mov (.t 1), (some 25), none, []⟩ :: ⟨.bin .add (.t 25) (.c (.int .i64 1)), (some 26), none, []⟩ :: L34_13
theorem v34_14 : VS L34_14.eq_1 := rfl
def L34_15 : List AStep := [⟨.mov (.t 11), (some 5), none, []⟩]
theorem v34_15 : VS L34_15.eq_1 := rfl
def L34_16 : List AStep := ⟨.mov (.t 5), (some 10), none, []⟩ :: ⟨.bin .add (.t 10) (.c (.int .i64 1)), (some 11), none, []⟩ :: L34_15
theorem v34_16 : VS L34_16.eq_1 := rfl
def L34_17 : List AStep := [⟨.mov (.t 1), (some 27), none, []⟩, ⟨.mov (.t 27), (some 4), none, []⟩]
theorem v34_17 : VS L34_17.eq_1 := rfl
def C34_0 : ACode := .cond (.t 9) .skip (.exit 0)
theorem u34_0 : VC C34_0.eq_1 := rfl
def C34_1 : ACode := .seq (.reg L34_3) C34_0
theorem u34_1 : VC C34_1.eq_1 := rfl
def C34_2 : ACode := .seq (.reg L34_12) (.reg L34_14)
theorem u34_2 : VC C34_2.eq_1 := rfl
def C34_3 : ACode := .seq (.reg L34_9) C34_2
theorem u34_3 : VC C34_3.eq_1 := rfl
def C34_4 : ACode := .seq (.reg L34_7) C34_3
theorem u34_4 : VC C34_4.eq_1 := rfl
def C34_5 : ACode := .block 1 C34_4
theorem u34_5 : VC C34_5.eq_1 := rfl
def C34_6 : ACode := .seq C34_5 (.reg L34_16)
theorem u34_6 : VC C34_6.eq_1 := rfl
def C34_7 : ACode := .seq C34_1 C34_6
theorem u34_7 : VC C34_7.eq_1 := rfl
def C34_8 : ACode := .block 0 (.loop C34_7)
theorem u34_8 : VC C34_8.eq_1 := rfl
def C34_9 : ACode := .seq (.reg L34_1) C34_8
theorem u34_9 : VC C34_9.eq_1 := rfl
def C34_10 : ACode := .seq (.reg L34_17) .ret
theorem u34_10 : VC C34_10.eq_1 := rfl
def C34_11 : ACode := .seq C34_9 C34_10
theorem u34_11 : VC C34_11.eq_1 := rfl
def C34_12 : ACode := .seq (.reg L34_0) C34_11
theorem u34_12 : VC C34_12.eq_1 := rfl
def F34 : AFunc := ⟨28, [.tmp 4], C34_12⟩
theorem cF34 : compB Tryz.prog 34 = some F34 := by kernel_rfl
attribute [local go_sem ↓] u34_0 u34_1 u34_2 u34_3 u34_4 u34_5 u34_6 u34_7 u34_8 u34_9 u34_10 u34_11 u34_12 v34_0 v34_1 v34_2 v34_3 v34_4 v34_5 v34_6 v34_7 v34_8 v34_9 v34_10 v34_11 v34_12 v34_13 v34_14 v34_15 v34_16 v34_17
theorem c_markPairS (l : List Pair) (v : AV) (k : Int) (h0 h : H) (hl : NwP h0 h v l) (g : Grow h0 h) (k1 : 0 ≤ k) (k2 : k ≤ 2 ^ 40) (hn : l.length ≤ 2 ^ 30) :
    callK (bm Tryz.prog 34 [v, .one (.int .i64 k)] h) fun r h' => r = ii (k + ((2 * l.length : Nat) : Int)) ∧ Grow h0 h' ∧ NwP h0 h' v (markL mkP 2 k l.length) ∧ Stay v h h' := by
  refine bm_of cF34 ?_
  simp +contextual (maxSteps := 2000000) only [go_sem, Nat.reduceEqDiff, reduceCtorEq, Nat.reduceAdd, Nat.reduceLeDiff, F34]
  refine wpC_loop (fun i T L h' => Grow h0 h' ∧ T 0 = .v v ∧ T 1 = .v (.one (.int .i64 (k + ((2 * i : Nat) : Int)))) ∧ T 5 = .v (.one (.int .i64 i)) ∧ NwP h0 h' v (markT mkP 2 k l i) ∧ Stay v h h') l.length ?_ ?_ (Nat.zero_le _) ?_
  · rintro i T L h' hi ⟨g, t0, t1, t5, no, st⟩
    have hlen : (markT mkP 2 k l i).length = l.length := markT_len (by omega)
    have hio : i < (markT mkP 2 k l i).length := by omega
    have hln := no.length
    rw [hlen] at hln
    have hia := no.iaddr hio (kd := .i64)
    have wr1 : IntKind.i64.wrap ((k + ((2 * i : Nat) : Int)) + 1) = (k + ((2 * i : Nat) : Int) + 1) := (i64_wrap (by omega) (by omega)).trans (by omega)
    have wr2 : IntKind.i64.wrap ((k + ((2 * i : Nat) : Int) + 1) + 1) = (k + ((2 * i : Nat) : Int) + 2) := (i64_wrap (by omega) (by omega)).trans (by omega)
    simp +contextual (maxSteps := 2000000) only [go_sem, Nat.reduceEqDiff, reduceCtorEq, Nat.reduceAdd, Nat.reduceLeDiff, t0, t1, t5, hln, hia, lt_true hi, wr1, wr2, c_markText (k + ((2 * i : Nat) : Int)) _ (by omega)]
    refine wp_set (x := (⟨mtxt (k + ((2 * i : Nat) : Int)), (markT mkP 2 k l i)[i].value⟩ : Pair)) (off := 0) (vs := [.str (mtxt (k + ((2 * i : Nat) : Int)))]) lenP no (by first | exact hio | (simp only [List.length_set]; exact hio)) rfl (by simp [encP, List.getElem_set_self]) (Nat.le_of_ble_eq_true rfl) g ?_
    intro h2 g2 n2 s2
    try rw [List.set_set] at n2
    simp +contextual (maxSteps := 2000000) only [go_sem, Nat.reduceEqDiff, reduceCtorEq, Nat.reduceAdd, Nat.reduceLeDiff, t0, t1, t5, hln, hia, wr1, wr2, c_markText (k + ((2 * i : Nat) : Int)) _ (by omega)]
    refine wp_set (x := (⟨mtxt (k + ((2 * i : Nat) : Int)), (k + ((2 * i : Nat) : Int) + 1)⟩ : Pair)) (off := 1) (vs := [.int .i64 (k + ((2 * i : Nat) : Int) + 1)]) lenP n2 (by first | exact hio | (simp only [List.length_set]; exact hio)) rfl (by simp [encP, List.getElem_set_self]) (Nat.le_of_ble_eq_true rfl) g2 ?_
    intro h3 g3 n3 s3
    try rw [List.set_set] at n3
    simp +contextual (maxSteps := 2000000) only [go_sem, Nat.reduceEqDiff, reduceCtorEq, Nat.reduceAdd, Nat.reduceLeDiff, t0, t1, t5, hln, hia, wr1, wr2, c_markText (k + ((2 * i : Nat) : Int)) _ (by omega)]
    have e : (markT mkP 2 k l i).set i (mkP (k + ((2 * i : Nat) : Int))) = markT mkP 2 k l (i + 1) := markT_set hi
    have n4 : NwP h0 h3 v (markT mkP 2 k l (i + 1)) := by rw [← e]; exact n3
    refine ⟨g3, by rw [show k + ((2 * (i + 1) : Nat) : Int) = (k + ((2 * i : Nat) : Int) + 2) by omega], by rw [wrap_next hi (by omega)], n4, ((st.trans s2).trans s3)⟩
  · rintro T L h' ⟨g, t0, t1, t5, no, st⟩
    have hln := no.length
    rw [markT_len (Nat.le_refl _)] at hln
    simp +contextual (maxSteps := 2000000) only [go_sem, Nat.reduceEqDiff, reduceCtorEq, Nat.reduceAdd, Nat.reduceLeDiff, t0, t1, t5, hln, lt_false]
    rw [markT_all] at no
    exact gcK_of ⟨rfl, g, no, st⟩ (fun _ gg => ⟨rfl, ‹Grow h0 h›, no.back hl gg, (Grow.refl h).stay v⟩)
  · simp +contextual (maxSteps := 2000000) only [go_sem, Nat.reduceEqDiff, reduceCtorEq, Nat.reduceAdd, Nat.reduceLeDiff]
    exact ⟨g, by simp, rfl, by rw [markT_zero]; exact hl, (Grow.refl h).stay v⟩
/-! laws.heldPairS -/
def L52_0 : List AStep := [⟨.mov (.c (.int .i64 0)), (some 4), none, []⟩]
theorem v52_0 : VS L52_0.eq_1 := rfl
def L52_1 : List AStep := [⟨.mov (.c (.int .i64 0)), (some 5), none, []⟩]
theorem v52_1 : VS L52_1.eq_1 := rfl
def L52_2 : List AStep := [⟨.len (.t 7), (some 8), none, []⟩, ⟨.bin .lss (.t 6) (.t 8), (some 9), none, []⟩]
theorem v52_2 : VS L52_2.eq_1 := rfl
def L52_3 : List AStep := ⟨.mov (.t 5), (some 6), none, []⟩ :: ⟨.mov (.t 0), (some 7), none, []⟩ :: L52_2
theorem v52_3 : VS L52_3.eq_1 := rfl
def L52_4 : List AStep := [⟨.call 49 [(.t 17)], (some 18), none, [(.load 1 false (.t 15), (some 16), none)]⟩, ⟨.bin .neq (.t 16) (.t 18), (some 19), none, []⟩]
theorem v52_4 : VS L52_4.eq_1 := rfl
def L52_5 : List AStep := ⟨.load 1 false (.t 15), (some 16), none, []⟩ :: ⟨.mov (.t 1), (some 17), none, []⟩ :: L52_4
theorem v52_5 : VS L52_5.eq_1 := rfl
def L52_6 : List AStep := ⟨.iaddr 2 (.t 12) (.t 13), (some 14), none, []⟩ :: ⟨.faddr 0 (.t 14), (some 15), none, []⟩ :: L52_5
theorem v52_6 : VS L52_6.eq_1 := rfl
def L52_7 : List AStep := ⟨.mov (.t 0), (some 12), none, []⟩ :: ⟨.mov (.t 5), (some 13), none, []⟩ :: L52_6
theorem v52_7 : VS L52_7.eq_1 := rfl
def L52_8 : List AStep := [⟨.mov (.c (.int .i64 (-1))), (some 4), none, []⟩]
theorem v52_8 : VS L52_8.eq_1 := rfl
def L52_9 : List AStep := [⟨.mov (.t 21), (some 1), none, []⟩]
theorem v52_9 : VS L52_9.eq_1 := rfl
def L52_10 : List AStep := ⟨.mov (.t 1), (some 20), none, []⟩ :: ⟨.bin .add (.t 20) (.c (.int .i64 1)), (some 21), none, []⟩ :: L52_9
theorem v52_10 : VS L52_10.eq_1 := rfl
def L52_11 : List AStep := [⟨.bin .neq (.t 26) (.t 27), (some 28), none, []⟩]
theorem v52_11 : VS L52_11.eq_1 := rfl
def L52_12 : List AStep := ⟨.load 1 false (.t 25), (some 26), none, []⟩ :: ⟨.mov (.t 1), (some 27), none, []⟩ :: L52_11
theorem v52_12 : VS L52_12.eq_1 := rfl
def L52_13 : List AStep := ⟨.iaddr 2 (.t 22) (.t 23), (some 24), none, []⟩ :: ⟨.faddr 1 (.t 24), (some 25), none, []⟩ :: L52_12
theorem v52_13 : VS L52_13.eq_1 := rfl
def L52_14 : List AStep := ⟨.mov (.t 0), (some 22), none, []⟩ :: ⟨.mov (.t 5), (some 23), none, []⟩ :: L52_13
theorem v52_14 : VS L52_14.eq_1 := rfl
def L52_15 : List AStep := [⟨.mov (.c (.int .i64 (-1))), (some 4), none, []⟩]
theorem v52_15 : VS L52_15.eq_1 := rfl
def L52_16 : List AStep := [⟨.mov (.t 30), (some 1), none, []⟩]
theorem v52_16 : VS L52_16.eq_1 := rfl
def L52_17 : List AStep := ⟨.mov (.t 1), (some 29), none, []⟩ :: ⟨.bin .add (.t 29) (.c (.int .i64 1)), (some 30), none, []⟩ :: L52_16
theorem v52_17 : VS L52_17.eq_1 := rfl
def L52_18 : List AStep := [⟨.mov (.t 11), (some 5), none, []⟩]
theorem v52_18 : VS L52_18.eq_1 := rfl
def L52_19 : List AStep := ⟨.mov (.t 5), (some 10), none, []⟩ :: ⟨.bin .add (.t 10) (.c (.int .i64 1)), (some 11), none, []⟩ :: L52_18
theorem v52_19 : VS L52_19.eq_1 := rfl
def L52_20 : List AStep := [⟨.mov (.t 1), (some 31), none, []⟩, ⟨.mov (.t 31), (some 4), none, []⟩]
theorem v52_20 : VS L52_20.eq_1 := rfl
def C52_0 : ACode := .cond (.t 9) .skip (.exit 0)
theorem u52_0 : VC C52_0.eq_1 := rfl
def C52_1 : ACode := .seq (.reg L52_3) C52_0
theorem u52_1 : VC C52_1.eq_1 := rfl
def C52_2 : ACode := .seq (.reg L52_8) .ret
theorem u52_2 : VC C52_2.eq_1 := rfl
def C52_3 : ACode := .cond (.t 19) C52_2 .skip
theorem u52_3 : VC C52_3.eq_1 := rfl
def C52_4 : ACode := .seq (.reg L52_7) C52_3
theorem u52_4 : VC C52_4.eq_1 := rfl
def C52_5 : ACode := .seq (.reg L52_15) .ret
theorem u52_5 : VC C52_5.eq_1 := rfl
def C52_6 : ACode := .cond (.t 28) C52_5 .skip
theorem u52_6 : VC C52_6.eq_1 := rfl
def C52_7 : ACode := .seq (.reg L52_14) C52_6
theorem u52_7 : VC C52_7.eq_1 := rfl
def C52_8 : ACode := .seq C52_7 (.reg L52_17)
theorem u52_8 : VC C52_8.eq_1 := rfl
def C52_9 : ACode := .seq (.reg L52_10) C52_8
theorem u52_9 : VC C52_9.eq_1 := rfl
def C52_10 : ACode := .seq C52_4 C52_9
theorem u52_10 : VC C52_10.eq_1 := rfl
def C52_11 : ACode := .block 1 C52_10
theorem u52_11 : VC C52_11.eq_1 := rfl
def C52_12 : ACode := .seq C52_11 (.reg L52_19)
theorem u52_12 : VC C52_12.eq_1 := rfl
def C52_13 : ACode := .seq C52_1 C52_12
theorem u52_13 : VC C52_13.eq_1 := rfl
def C52_14 : ACode := .block 0 (.loop C52_13)
theorem u52_14 : VC C52_14.eq_1 := rfl
def C52_15 : ACode := .seq (.reg L52_1) C52_14
theorem u52_15 : VC C52_15.eq_1 := rfl
def C52_16 : ACode := .seq (.reg L52_20) .ret
theorem u52_16 : VC C52_16.eq_1 := rfl
def C52_17 : ACode := .seq C52_15 C52_16
theorem u52_17 : VC C52_17.eq_1 := rfl
def C52_18 : ACode := .seq (.reg L52_0) C52_17
theorem u52_18 : VC C52_18.eq_1 := rfl
def F52 : AFunc := ⟨32, [.tmp 4], C52_18⟩
theorem cF52 : compB Tryz.prog 52 = some F52 := by kernel_rfl
attribute [local go_sem ↓] u52_0 u52_1 u52_2 u52_3 u52_4 u52_5 u52_6 u52_7 u52_8 u52_9 u52_10 u52_11 u52_12 u52_13 u52_14 u52_15 u52_16 u52_17 u52_18 v52_0 v52_1 v52_2 v52_3 v52_4 v52_5 v52_6 v52_7 v52_8 v52_9 v52_10 v52_11 v52_12 v52_13 v52_14 v52_15 v52_16 v52_17 v52_18 v52_19 v52_20
theorem c_heldPairS (n : Nat) (v : AV) (k : Int) (h : H) (hl : SlP h v (markL mkP 2 k n)) (k1 : 0 ≤ k) (k2 : k ≤ 2 ^ 40) (hn : n ≤ 2 ^ 30) :
    bm Tryz.prog 52 [v, .one (.int .i64 k)] h = some (ii (k + ((2 * n : Nat) : Int)), h) := by
  refine bm_eq cF52 ?_
  have hlen := hl.len
  rw [markL_len] at hlen
  simp +contextual (maxSteps := 2000000) only [go_sem, Nat.reduceEqDiff, reduceCtorEq, Nat.reduceAdd, Nat.reduceLeDiff, F52]
  refine wpC_loop (fun i T L h' => h' = h ∧ T 0 = .v v ∧ T 1 = .v (.one (.int .i64 (k + ((2 * i : Nat) : Int)))) ∧ T 5 = .v (.one (.int .i64 i))) n ?_ ?_ (Nat.zero_le _) ?_
  · rintro i T L h' hi ⟨rfl, t0, t1, t5⟩
    have hio : i < (markL mkP 2 k n).length := by rw [markL_len]; exact hi
    have hat := markL_at hio
    have hia := hl.iaddr hio (kd := .i64)
    have hf : ∀ off : Nat, off + 1 ≤ 2 → _ := fun off ho => hl.fieldO (off := off) hio ho
    rw [hat] at hf
    have h0 := hl.field0 (c := .str (mtxt (k + ((2 * i : Nat) : Int)))) hio (by rw [hat]; rfl)
    have wr1 : IntKind.i64.wrap ((k + ((2 * i : Nat) : Int)) + 1) = (k + ((2 * i : Nat) : Int) + 1) := (i64_wrap (by omega) (by omega)).trans (by omega)
    have wr2 : IntKind.i64.wrap ((k + ((2 * i : Nat) : Int) + 1) + 1) = (k + ((2 * i : Nat) : Int) + 2) := (i64_wrap (by omega) (by omega)).trans (by omega)
    simp +contextual (maxSteps := 2000000) only [go_sem, Nat.reduceEqDiff, reduceCtorEq, Nat.reduceAdd, Nat.reduceLeDiff, t0, t1, t5, hlen, hia, hf, h0, lt_true hi, decide_true, mkP, mBool, wr1, wr2, c_markText (k + ((2 * i : Nat) : Int)) _ (by omega)]
    rw [show k + ((2 * (i + 1) : Nat) : Int) = (k + ((2 * i : Nat) : Int) + 2) by omega, wrap_next hi (by omega)]
    try exact ⟨rfl, rfl⟩
  · rintro T L h' ⟨rfl, t0, t1, t5⟩
    simp +contextual (maxSteps := 2000000) only [go_sem, Nat.reduceEqDiff, reduceCtorEq, Nat.reduceAdd, Nat.reduceLeDiff, t0, t1, t5, hlen, lt_false]
  · simp +contextual (maxSteps := 2000000) only [go_sem, Nat.reduceEqDiff, reduceCtorEq, Nat.reduceAdd, Nat.reduceLeDiff]
    simp
/-! laws.markParamS -/
def L32_0 : List AStep := [⟨.mov (.c (.int .i64 0)), (some 4), none, []⟩]
theorem v32_0 : VS L32_0.eq_1 := rfl
def L32_1 : List AStep := [⟨.mov (.c (.int .i64 0)), (some 5), none, []⟩]
theorem v32_1 : VS L32_1.eq_1 := rfl
def L32_2 : List AStep := [⟨.len (.t 7), (some 8), none, []⟩, ⟨.bin .lss (.t 6) (.t 8), (some 9), none, []⟩]
theorem v32_2 : VS L32_2.eq_1 := rfl
def L32_3 : List AStep := ⟨.mov (.t 5), (some 6), none, []⟩ :: ⟨.mov (.t 0), (some 7), none, []⟩ :: L32_2
theorem v32_3 : VS L32_3.eq_1 := rfl
def L32_4 : List AStep := [⟨.store 1 (.t 17) (.t 15), none, none, []⟩]
theorem v32_4 : VS L32_4.eq_1 := rfl
def L32_5 : List AStep := ⟨.iaddr 4 (.t 12) (.t 13), (some 16), none, []⟩ :: ⟨.faddr 0 (.t 16), (some 17), none, []⟩ :: L32_4
theorem v32_5 : VS L32_5.eq_1 := rfl
def L32_6 : List AStep := ⟨.mov (.t 1), (some 14), none, []⟩ :: ⟨.call 49 [(.t 14)], (some 15), none, []⟩ :: L32_5
theorem v32_6 : VS L32_6.eq_1 := rfl
def L32_7 : List AStep := ⟨.mov (.t 0), (some 12), none, []⟩ :: ⟨.mov (.t 5), (some 13), none, []⟩ :: L32_6
theorem v32_7 : VS L32_7.eq_1 := rfl
def L32_8 : List AStep := [⟨.mov (.t 19), (some 1), none, []⟩]
theorem v32_8 : VS L32_8.eq_1 := rfl
def L32_9 : List AStep := ⟨.mov (.t 1), (some 18), none, []⟩ :: ⟨.bin .add (.t 18) (.c (.int .i64 1)), (some 19), none, []⟩ :: L32_8
theorem v32_9 : VS L32_9.eq_1 := rfl
def L32_10 : List AStep := [⟨.faddr 1 (.t 23), (some 24), none, []⟩, ⟨.store 1 (.t 24) (.t 22), none, none, []⟩]
theorem v32_10 : VS L32_10.eq_1 := rfl
def L32_11 : List AStep := ⟨.mov (.t 1), (some 22), none, []⟩ :: ⟨.iaddr 4 (.t 20) (.t 21), (some 23), none, []⟩ :: L32_10
theorem v32_11 : VS L32_11.eq_1 := rfl
def L32_12 : List AStep := ⟨.mov (.t 0), (some 20), none, []⟩ :: ⟨.mov (.t 5), (some 21), none, []⟩ :: L32_11
theorem v32_12 : VS L32_12.eq_1 := rfl
def L32_13 : List AStep := [⟨.mov (.t 26), (some 1), none, []⟩]
theorem v32_13 : VS L32_13.eq_1 := rfl
def L32_14 : List AStep := ⟨.mov (.t 1), (some 25), none, []⟩ :: ⟨.bin .add (.t 25) (.c (.int .i64 1)), (some 26), none, []⟩ :: L32_13
theorem v32_14 : VS L32_14.eq_1 := rfl
def L32_15 : List AStep := [⟨.faddr 2 (.t 32), (some 33), none, []⟩, ⟨.store 1 (.t 33) (.t 31), none, none, []⟩]
theorem v32_15 : VS L32_15.eq_1 := rfl
def L32_16 : List AStep := ⟨.bin .eql (.t 30) (.c (.int .i64 0)), (some 31), none, []⟩ :: ⟨.iaddr 4 (.t 27) (.t 28), (some 32), none, []⟩ :: L32_15
theorem v32_16 : VS L32_16.eq_1 := rfl
def L32_17 : List AStep := ⟨.mov (.t 1), (some 29), none, []⟩ :: ⟨.bin .rem (.t 29) (.c (.int .i64 3)), (some 30), none, []⟩ :: L32_16
theorem v32_17 : VS L32_17.eq_1 := rfl
def L32_18 : List AStep := ⟨.mov (.t 0), (some 27), none, []⟩ :: ⟨.mov (.t 5), (some 28), none, []⟩ :: L32_17
theorem v32_18 : VS L32_18.eq_1 := rfl
def L32_19 : List AStep := [⟨.mov (.t 35), (some 1), none, []⟩]
theorem v32_19 : VS L32_19.eq_1 := rfl
def L32_20 : List AStep := ⟨.mov (.t 1), (some 34), none, []⟩ :: ⟨.bin .add (.t 34) (.c (.int .i64 1)), (some 35), none, []⟩ :: L32_19
theorem v32_20 : VS L32_20.eq_1 := rfl
def L32_21 : List AStep := [⟨.faddr 3 (.t 39), (some 40), none, []⟩, ⟨.store 1 (.t 40) (.t 38), none, none, []⟩]
theorem v32_21 : VS L32_21.eq_1 := rfl
def L32_22 : List AStep := ⟨.mov (.t 1), (some 38), none, []⟩ :: ⟨.iaddr 4 (.t 36) (.t 37), (some 39), none, []⟩ :: L32_21
theorem v32_22 : VS L32_22.eq_1 := rfl
def L32_23 : List AStep := ⟨.mov (.t 0), (some 36), none, []⟩ :: ⟨.mov (.t 5), (some 37), none, []⟩ :: L32_22
theorem v32_23 : VS L32_23.eq_1 := rfl
def L32_24 : List AStep := [⟨.mov (.t 42), (some 1), none, []⟩]
theorem v32_24 : VS L32_24.eq_1 := rfl
def L32_25 : List AStep := ⟨.mov (.t 1), (some 41), none, []⟩ :: ⟨.bin .add (.t 41) (.c (.int .i64 1)), (some 42), none, []⟩ :: L32_24
theorem v32_25 : VS L32_25.eq_1 := rfl
def L32_26 : List AStep := [⟨.mov (.t 11), (some 5), none, []⟩]
theorem v32_26 : VS L32_26.eq_1 := rfl
def L32_27 : List AStep := ⟨.mov (.t 5), (some 10), none, []⟩ :: ⟨.bin .add (.t 10) (.c (.int .i64 1)), (some 11), none, []⟩ :: L32_26
theorem v32_27 : VS L32_27.eq_1 := rfl
def L32_28 : List AStep := [⟨.mov (.t 1), (some 43), none, []⟩, ⟨.mov (.t 43), (some 4), none, []⟩]
theorem v32_28 : VS L32_28.eq_1 := rfl
def C32_0 : ACode := .cond (.t 9) .skip (.exit 0)
theorem u32_0 : VC C32_0.eq_1 := rfl
def C32_1 : ACode := .seq (.reg L32_3) C32_0
theorem u32_1 : VC C32_1.eq_1 := rfl
def C32_2 : ACode := .seq (.reg L32_23) (.reg L32_25)
theorem u32_2 : VC C32_2.eq_1 := rfl
def C32_3 : ACode := .seq (.reg L32_20) C32_2
theorem u32_3 : VC C32_3.eq_1 := rfl
def C32_4 : ACode := .seq (.reg L32_18) C32_3
theorem u32_4 : VC C32_4.eq_1 := rfl
def C32_5 : ACode := .seq (.reg L32_14) C32_4
theorem u32_5 : VC C32_5.eq_1 := rfl
def C32_6 : ACode := .seq (.reg L32_12) C32_5
theorem u32_6 : VC C32_6.eq_1 := rfl
def C32_7 : ACode := .seq (.reg L32_9) C32_6
theorem u32_7 : VC C32_7.eq_1 := rfl
def C32_8 : ACode := .seq (.reg L32_7) C32_7
theorem u32_8 : VC C32_8.eq_1 := rfl
def C32_9 : ACode := .block 1 C32_8
theorem u32_9 : VC C32_9.eq_1 := rfl
def C32_10 : ACode := .seq C32_9 (.reg L32_27)
theorem u32_10 : VC C32_10.eq_1 := rfl
def C32_11 : ACode := .seq C32_1 C32_10
theorem u32_11 : VC C32_11.eq_1 := rfl
def C32_12 : ACode := .block 0 (.loop C32_11)
theorem u32_12 : VC C32_12.eq_1 := rfl
def C32_13 : ACode := .seq (.reg L32_1) C32_12
theorem u32_13 : VC C32_13.eq_1 := rfl
def C32_14 : ACode := .seq (.reg L32_28) .ret
theorem u32_14 : VC C32_14.eq_1 := rfl
def C32_15 : ACode := .seq C32_13 C32_14
theorem u32_15 : VC C32_15.eq_1 := rfl
def C32_16 : ACode := .seq (.reg L32_0) C32_15
theorem u32_16 : VC C32_16.eq_1 := rfl
def F32 : AFunc := ⟨44, [.tmp 4], C32_16⟩
theorem cF32 : compB Tryz.prog 32 = some F32 := by kernel_rfl
attribute [local go_sem ↓] u32_0 u32_1 u32_2 u32_3 u32_4 u32_5 u32_6 u32_7 u32_8 u32_9 u32_10 u32_11 u32_12 u32_13 u32_14 u32_15 u32_16 v32_0 v32_1 v32_2 v32_3 v32_4 v32_5 v32_6 v32_7 v32_8 v32_9 v32_10 v32_11 v32_12 v32_13 v32_14 v32_15 v32_16 v32_17 v32_18 v32_19 v32_20 v32_21 v32_22 v32_23 v32_24 v32_25 v32_26 v32_27 v32_28
theorem c_markParamS (l : List Param) (v : AV) (k : Int) (h0 h : H) (hl : NwQ h0 h v l) (g : Grow h0 h) (k1 : 0 ≤ k) (k2 : k ≤ 2 ^ 40) (hn : l.length ≤ 2 ^ 30) :
    callK (bm Tryz.prog 32 [v, .one (.int .i64 k)] h) fun r h' => r = ii (k + ((4 * l.length : Nat) : Int)) ∧ Grow h0 h' ∧ NwQ h0 h' v (markL mkQ 4 k l.length) ∧ Stay v h h' := by
  refine bm_of cF32 ?_
  simp +contextual (maxSteps := 2000000) only [go_sem, Nat.reduceEqDiff, reduceCtorEq, Nat.reduceAdd, Nat.reduceLeDiff, F32]
  refine wpC_loop (fun i T L h' => Grow h0 h' ∧ T 0 = .v v ∧ T 1 = .v (.one (.int .i64 (k + ((4 * i : Nat) : Int)))) ∧ T 5 = .v (.one (.int .i64 i)) ∧ NwQ h0 h' v (markT mkQ 4 k l i) ∧ Stay v h h') l.length ?_ ?_ (Nat.zero_le _) ?_
  · rintro i T L h' hi ⟨g, t0, t1, t5, no, st⟩
    have hlen : (markT mkQ 4 k l i).length = l.length := markT_len (by omega)
    have hio : i < (markT mkQ 4 k l i).length := by omega
    have hln := no.length
    rw [hlen] at hln
    have hia := no.iaddr hio (kd := .i64)
    have wr1 : IntKind.i64.wrap ((k + ((4 * i : Nat) : Int)) + 1) = (k + ((4 * i : Nat) : Int) + 1) := (i64_wrap (by omega) (by omega)).trans (by omega)
    have wr2 : IntKind.i64.wrap ((k + ((4 * i : Nat) : Int) + 1) + 1) = (k + ((4 * i : Nat) : Int) + 2) := (i64_wrap (by omega) (by omega)).trans (by omega)
    have wr3 : IntKind.i64.wrap ((k + ((4 * i : Nat) : Int) + 2) + 1) = (k + ((4 * i : Nat) : Int) + 3) := (i64_wrap (by omega) (by omega)).trans (by omega)
    have wr4 : IntKind.i64.wrap ((k + ((4 * i : Nat) : Int) + 3) + 1) = (k + ((4 * i : Nat) : Int) + 4) := (i64_wrap (by omega) (by omega)).trans (by omega)
    simp +contextual (maxSteps := 2000000) only [go_sem, Nat.reduceEqDiff, reduceCtorEq, Nat.reduceAdd, Nat.reduceLeDiff, t0, t1, t5, hln, hia, lt_true hi, wr1, wr2, wr3, wr4, c_markText (k + ((4 * i : Nat) : Int)) _ (by omega), bin_rem (k := .i64) (a := (k + ((4 * i : Nat) : Int) + 2)) (b := 3) (by decide)]
    refine wp_set (x := (⟨mtxt (k + ((4 * i : Nat) : Int)), (markT mkQ 4 k l i)[i].kind, (markT mkQ 4 k l i)[i].has, (markT mkQ 4 k l i)[i].dflt⟩ : Param)) (off := 0) (vs := [.str (mtxt (k + ((4 * i : Nat) : Int)))]) lenQ no (by first | exact hio | (simp only [List.length_set]; exact hio)) rfl (by simp [encQ, List.getElem_set_self]) (Nat.le_of_ble_eq_true rfl) g ?_
    intro h2 g2 n2 s2
    try rw [List.set_set] at n2
    simp +contextual (maxSteps := 2000000) only [go_sem, Nat.reduceEqDiff, reduceCtorEq, Nat.reduceAdd, Nat.reduceLeDiff, t0, t1, t5, hln, hia, wr1, wr2, wr3, wr4, c_markText (k + ((4 * i : Nat) : Int)) _ (by omega), bin_rem (k := .i64) (a := (k + ((4 * i : Nat) : Int) + 2)) (b := 3) (by decide)]
    refine wp_set (x := (⟨mtxt (k + ((4 * i : Nat) : Int)), (k + ((4 * i : Nat) : Int) + 1), (markT mkQ 4 k l i)[i].has, (markT mkQ 4 k l i)[i].dflt⟩ : Param)) (off := 1) (vs := [.int .i64 (k + ((4 * i : Nat) : Int) + 1)]) lenQ n2 (by first | exact hio | (simp only [List.length_set]; exact hio)) rfl (by simp [encQ, List.getElem_set_self]) (Nat.le_of_ble_eq_true rfl) g2 ?_
    intro h3 g3 n3 s3
    try rw [List.set_set] at n3
    simp +contextual (maxSteps := 2000000) only [go_sem, Nat.reduceEqDiff, reduceCtorEq, Nat.reduceAdd, Nat.reduceLeDiff, t0, t1, t5, hln, hia, wr1, wr2, wr3, wr4, c_markText (k + ((4 * i : Nat) : Int)) _ (by omega), bin_rem (k := .i64) (a := (k + ((4 * i : Nat) : Int) + 2)) (b := 3) (by decide)]
    refine wp_set (x := (⟨mtxt (k + ((4 * i : Nat) : Int)), (k + ((4 * i : Nat) : Int) + 1), mBool (k + ((4 * i : Nat) : Int) + 2), (markT mkQ 4 k l i)[i].dflt⟩ : Param)) (off := 2) (vs := [.bool (mBool (k + ((4 * i : Nat) : Int) + 2))]) lenQ n3 (by first | exact hio | (simp only [List.length_set]; exact hio)) rfl (by simp [encQ, List.getElem_set_self]) (Nat.le_of_ble_eq_true rfl) g3 ?_
    intro h4 g4 n4 s4
    try rw [List.set_set] at n4
    simp +contextual (maxSteps := 2000000) only [go_sem, Nat.reduceEqDiff, reduceCtorEq, Nat.reduceAdd, Nat.reduceLeDiff, t0, t1, t5, hln, hia, wr1, wr2, wr3, wr4, c_markText (k + ((4 * i : Nat) : Int)) _ (by omega), bin_rem (k := .i64) (a := (k + ((4 * i : Nat) : Int) + 2)) (b := 3) (by decide)]
    refine wp_set (x := (⟨mtxt (k + ((4 * i : Nat) : Int)), (k + ((4 * i : Nat) : Int) + 1), mBool (k + ((4 * i : Nat) : Int) + 2), (k + ((4 * i : Nat) : Int) + 3)⟩ : Param)) (off := 3) (vs := [.int .i64 (k + ((4 * i : Nat) : Int) + 3)]) lenQ n4 (by first | exact hio | (simp only [List.length_set]; exact hio)) rfl (by simp [encQ, List.getElem_set_self]) (Nat.le_of_ble_eq_true rfl) g4 ?_
    intro h5 g5 n5 s5
    try rw [List.set_set] at n5
    simp +contextual (maxSteps := 2000000) only [go_sem, Nat.reduceEqDiff, reduceCtorEq, Nat.reduceAdd, Nat.reduceLeDiff, t0, t1, t5, hln, hia, wr1, wr2, wr3, wr4, c_markText (k + ((4 * i : Nat) : Int)) _ (by omega), bin_rem (k := .i64) (a := (k + ((4 * i : Nat) : Int) + 2)) (b := 3) (by decide)]
    have e : (markT mkQ 4 k l i).set i (mkQ (k + ((4 * i : Nat) : Int))) = markT mkQ 4 k l (i + 1) := markT_set hi
    have n6 : NwQ h0 h5 v (markT mkQ 4 k l (i + 1)) := by rw [← e]; exact n5
    refine ⟨g5, by rw [show k + ((4 * (i + 1) : Nat) : Int) = (k + ((4 * i : Nat) : Int) + 4) by omega], by rw [wrap_next hi (by omega)], n6, ((((st.trans s2).trans s3).trans s4).trans s5)⟩
  · rintro T L h' ⟨g, t0, t1, t5, no, st⟩
    have hln := no.length
    rw [markT_len (Nat.le_refl _)] at hln
    simp +contextual (maxSteps := 2000000) only [go_sem, Nat.reduceEqDiff, reduceCtorEq, Nat.reduceAdd, Nat.reduceLeDiff, t0, t1, t5, hln, lt_false]
    rw [markT_all] at no
    exact gcK_of ⟨rfl, g, no, st⟩ (fun _ gg => ⟨rfl, ‹Grow h0 h›, no.back hl gg, (Grow.refl h).stay v⟩)
  · simp +contextual (maxSteps := 2000000) only [go_sem, Nat.reduceEqDiff, reduceCtorEq, Nat.reduceAdd, Nat.reduceLeDiff]
    exact ⟨g, by simp, rfl, by rw [markT_zero]; exact hl, (Grow.refl h).stay v⟩
/-! laws.heldParamS -/
def L50_0 : List AStep := [⟨.mov (.c (.int .i64 0)), (some 4), none, []⟩]
theorem v50_0 : VS L50_0.eq_1 := rfl
def L50_1 : List AStep := [⟨.mov (.c (.int .i64 0)), (some 5), none, []⟩]
theorem v50_1 : VS L50_1.eq_1 := rfl
def L50_2 : List AStep := [⟨.len (.t 7), (some 8), none, []⟩, ⟨.bin .lss (.t 6) (.t 8), (some 9), none, []⟩]
theorem v50_2 : VS L50_2.eq_1 := rfl
def L50_3 : List AStep := ⟨.mov (.t 5), (some 6), none, []⟩ :: ⟨.mov (.t 0), (some 7), none, []⟩ :: L50_2
theorem v50_3 : VS L50_3.eq_1 := rfl
def L50_4 : List AStep := [⟨.call 49 [(.t 17)], (some 18), none, [(.load 1 false (.t 15), (some 16), none)]⟩, ⟨.bin .neq (.t 16) (.t 18), (some 19), none, []⟩]
theorem v50_4 : VS L50_4.eq_1 := rfl
def L50_5 : List AStep := ⟨.load 1 false (.t 15), (some 16), none, []⟩ :: ⟨.mov (.t 1), (some 17), none, []⟩ :: L50_4
theorem v50_5 : VS L50_5.eq_1 := rfl
def L50_6 : List AStep := ⟨.iaddr 4 (.t 12) (.t 13), (some 14), none, []⟩ :: ⟨.faddr 0 (.t 14), (some 15), none, []⟩ :: L50_5
theorem v50_6 : VS L50_6.eq_1 := rfl
def L50_7 : List AStep := ⟨.mov (.t 0), (some 12), none, []⟩ :: ⟨.mov (.t 5), (some 13), none, []⟩ :: L50_6
theorem v50_7 : VS L50_7.eq_1 := rfl
def L50_8 : List AStep := [⟨.mov (.c (.int .i64 (-1))), (some 4), none, []⟩]
theorem v50_8 : VS L50_8.eq_1 := rfl
def L50_9 : List AStep := [⟨.mov (.t 21), (some 1), none, []⟩]
theorem v50_9 : VS L50_9.eq_1 := rfl
def L50_10 : List AStep := ⟨.mov (.t 1), (some 20), none, []⟩ :: ⟨.bin .add (.t 20) (.c (.int .i64 1)), (some 21), none, []⟩ :: L50_9
theorem v50_10 : VS L50_10.eq_1 := rfl
def L50_11 : List AStep := [⟨.bin .neq (.t 26) (.t 27), (some 28), none, []⟩]
theorem v50_11 : VS L50_11.eq_1 := rfl
def L50_12 : List AStep := ⟨.load 1 false (.t 25), (some 26), none, []⟩ :: ⟨.mov (.t 1), (some 27), none, []⟩ :: L50_11
theorem v50_12 : VS L50_12.eq_1 := rfl
def L50_13 : List AStep := ⟨.iaddr 4 (.t 22) (.t 23), (some 24), none, []⟩ :: ⟨.faddr 1 (.t 24), (some 25), none, []⟩ :: L50_12
theorem v50_13 : VS L50_13.eq_1 := rfl
def L50_14 : List AStep := ⟨.mov (.t 0), (some 22), none, []⟩ :: ⟨.mov (.t 5), (some 23), none, []⟩ :: L50_13
theorem v50_14 : VS L50_14.eq_1 := rfl
def L50_15 : List AStep := [⟨.mov (.c (.int .i64 (-1))), (some 4), none, []⟩]
theorem v50_15 : VS L50_15.eq_1 := rfl
def L50_16 : List AStep := [⟨.mov (.t 30), (some 1), none, []⟩]
theorem v50_16 : VS L50_16.eq_1 := rfl
def L50_17 : List AStep := ⟨.mov (.t 1), (some 29), none, []⟩ :: ⟨.bin .add (.t 29) (.c (.int .i64 1)), (some 30), none, []⟩ :: L50_16
theorem v50_17 : VS L50_17.eq_1 := rfl
def L50_18 : List AStep := [⟨.eqb true (.t 35) (.t 38), (some 39), none, []⟩]
theorem v50_18 : VS L50_18.eq_1 := rfl
def L50_19 : List AStep := ⟨.bin .rem (.t 36) (.c (.int .i64 3)), (some 37), none, []⟩ :: ⟨.bin .eql (.t 37) (.c (.int .i64 0)), (some 38), none, []⟩ :: L50_18
theorem v50_19 : VS L50_19.eq_1 := rfl
def L50_20 : List AStep := ⟨.load 1 false (.t 34), (some 35), none, []⟩ :: ⟨.mov (.t 1), (some 36), none, []⟩ :: L50_19
theorem v50_20 : VS L50_20.eq_1 := rfl
def L50_21 : List AStep := ⟨.iaddr 4 (.t 31) (.t 32), (some 33), none, []⟩ :: ⟨.faddr 2 (.t 33), (some 34), none, []⟩ :: L50_20
theorem v50_21 : VS L50_21.eq_1 := rfl
def L50_22 : List AStep := ⟨.mov (.t 0), (some 31), none, []⟩ :: ⟨.mov (.t 5), (some 32), none, []⟩ :: L50_21
theorem v50_22 : VS L50_22.eq_1 := rfl
def L50_23 : List AStep := [⟨.mov (.c (.int .i64 (-1))), (some 4), none, []⟩]
theorem v50_23 : VS L50_23.eq_1 := rfl
def L50_24 : List AStep := [⟨.mov (.t 41), (some 1), none, []⟩]
theorem v50_24 : VS L50_24.eq_1 := rfl
def L50_25 : List AStep := ⟨.mov (.t 1), (some 40), none, []⟩ :: ⟨.bin .add (.t 40) (.c (.int .i64 1)), (some 41), none, []⟩ :: L50_24
theorem v50_25 : VS L50_25.eq_1 := rfl
def L50_26 : List AStep := [⟨.bin .neq (.t 46) (.t 47), (some 48), none, []⟩]
theorem v50_26 : VS L50_26.eq_1 := rfl
def L50_27 : List AStep := ⟨.load 1 false (.t 45), (some 46), none, []⟩ :: ⟨.mov (.t 1), (some 47), none, []⟩ :: L50_26
theorem v50_27 : VS L50_27.eq_1 := rfl
def L50_28 : List AStep := ⟨.iaddr 4 (.t 42) (.t 43), (some 44), none, []⟩ :: ⟨.faddr 3 (.t 44), (some 45), none, []⟩ :: L50_27
theorem v50_28 : VS L50_28.eq_1 := rfl
def L50_29 : List AStep := ⟨.mov (.t 0), (some 42), none, []⟩ :: ⟨.mov (.t 5), (some 43), none, []⟩ :: L50_28
theorem v50_29 : VS L50_29.eq_1 := rfl
def L50_30 : List AStep := [⟨.mov (.c (.int .i64 (-1))), (some 4), none, []⟩]
theorem v50_30 : VS L50_30.eq_1 := rfl
def L50_31 : List AStep := [⟨.mov (.t 50), (some 1), none, []⟩]
theorem v50_31 : VS L50_31.eq_1 := rfl
def L50_32 : List AStep := ⟨.mov (.t 1), (some 49), none, []⟩ :: ⟨.bin .add (.t 49) (.c (.int .i64 1)), (some 50), none, []⟩ :: L50_31
theorem v50_32 : VS L50_32.eq_1 := rfl
def L50_33 : List AStep := [⟨.mov (.t 11), (some 5), none, []⟩]
theorem v50_33 : VS L50_33.eq_1 := rfl
def L50_34 : List AStep := ⟨.mov (.t 5), (some 10), none, []⟩ :: ⟨.bin .add (.t 10) (.c (.int .i64 1)), (some 11), none, []⟩ :: L50_33
theorem v50_34 : VS L50_34.eq_1 := rfl
def L50_35 : List AStep := [⟨.mov (.t 1), (some 51), none, []⟩, ⟨.mov (.t 51), (some 4), none, []⟩]
theorem v50_35 : VS L50_35.eq_1 := rfl
def C50_0 : ACode := .cond (.t 9) .skip (.exit 0)
theorem u50_0 : VC C50_0.eq_1 := rfl
def C50_1 : ACode := .seq (.reg L50_3) C50_0
theorem u50_1 : VC C50_1.eq_1 := rfl
def C50_2 : ACode := .seq (.reg L50_8) .ret
theorem u50_2 : VC C50_2.eq_1 := rfl
def C50_3 : ACode := .cond (.t 19) C50_2 .skip
theorem u50_3 : VC C50_3.eq_1 := rfl
def C50_4 : ACode := .seq (.reg L50_7) C50_3
theorem u50_4 : VC C50_4.eq_1 := rfl
def C50_5 : ACode := .seq (.reg L50_15) .ret
theorem u50_5 : VC C50_5.eq_1 := rfl
def C50_6 : ACode := .cond (.t 28) C50_5 .skip
theorem u50_6 : VC C50_6.eq_1 := rfl
def C50_7 : ACode := .seq (.reg L50_14) C50_6
theorem u50_7 : VC C50_7.eq_1 := rfl
def C50_8 : ACode := .seq (.reg L50_23) .ret
theorem u50_8 : VC C50_8.eq_1 := rfl
def C50_9 : ACode := .cond (.t 39) C50_8 .skip
theorem u50_9 : VC C50_9.eq_1 := rfl
def C50_10 : ACode := .seq (.reg L50_22) C50_9
theorem u50_10 : VC C50_10.eq_1 := rfl
def C50_11 : ACode := .seq (.reg L50_30) .ret
theorem u50_11 : VC C50_11.eq_1 := rfl
def C50_12 : ACode := .cond (.t 48) C50_11 .skip
theorem u50_12 : VC C50_12.eq_1 := rfl
def C50_13 : ACode := .seq (.reg L50_29) C50_12
theorem u50_13 : VC C50_13.eq_1 := rfl
def C50_14 : ACode := .seq C50_13 (.reg L50_32)
theorem u50_14 : VC C50_14.eq_1 := rfl
def C50_15 : ACode := .seq (.reg L50_25) C50_14
theorem u50_15 : VC C50_15.eq_1 := rfl
def C50_16 : ACode := .seq C50_10 C50_15
theorem u50_16 : VC C50_16.eq_1 := rfl
def C50_17 : ACode := .seq (.reg L50_17) C50_16
theorem u50_17 : VC C50_17.eq_1 := rfl
def C50_18 : ACode := .seq C50_7 C50_17
theorem u50_18 : VC C50_18.eq_1 := rfl
def C50_19 : ACode := .seq (.reg L50_10) C50_18
theorem u50_19 : VC C50_19.eq_1 := rfl
def C50_20 : ACode := .seq C50_4 C50_19
theorem u50_20 : VC C50_20.eq_1 := rfl
def C50_21 : ACode := .block 1 C50_20
theorem u50_21 : VC C50_21.eq_1 := rfl
def C50_22 : ACode := .seq C50_21 (.reg L50_34)
theorem u50_22 : VC C50_22.eq_1 := rfl
def C50_23 : ACode := .seq C50_1 C50_22
theorem u50_23 : VC C50_23.eq_1 := rfl
def C50_24 : ACode := .block 0 (.loop C50_23)
theorem u50_24 : VC C50_24.eq_1 := rfl
def C50_25 : ACode := .seq (.reg L50_1) C50_24
theorem u50_25 : VC C50_25.eq_1 := rfl
def C50_26 : ACode := .seq (.reg L50_35) .ret
theorem u50_26 : VC C50_26.eq_1 := rfl
def C50_27 : ACode := .seq C50_25 C50_26
theorem u50_27 : VC C50_27.eq_1 := rfl
def C50_28 : ACode := .seq (.reg L50_0) C50_27
theorem u50_28 : VC C50_28.eq_1 := rfl
def F50 : AFunc := ⟨52, [.tmp 4], C50_28⟩
theorem cF50 : compB Tryz.prog 50 = some F50 := by kernel_rfl
attribute [local go_sem ↓] u50_0 u50_1 u50_2 u50_3 u50_4 u50_5 u50_6 u50_7 u50_8 u50_9 u50_10 u50_11 u50_12 u50_13 u50_14 u50_15 u50_16 u50_17 u50_18 u50_19 u50_20 u50_21 u50_22 u50_23 u50_24 u50_25 u50_26 u50_27 u50_28 v50_0 v50_1 v50_2 v50_3 v50_4 v50_5 v50_6 v50_7 v50_8 v50_9 v50_10 v50_11 v50_12 v50_13 v50_14 v50_15 v50_16 v50_17 v50_18 v50_19 v50_20 v50_21 v50_22 v50_23 v50_24 v50_25 v50_26 v50_27 v50_28 v50_29 v50_30 v50_31 v50_32 v50_33 v50_34 v50_35
theorem c_heldParamS (n : Nat) (v : AV) (k : Int) (h : H) (hl : SlQ h v (markL mkQ 4 k n)) (k1 : 0 ≤ k) (k2 : k ≤ 2 ^ 40) (hn : n ≤ 2 ^ 30) :
    bm Tryz.prog 50 [v, .one (.int .i64 k)] h = some (ii (k + ((4 * n : Nat) : Int)), h) := by
  refine bm_eq cF50 ?_
  have hlen := hl.len
  rw [markL_len] at hlen
  simp +contextual (maxSteps := 2000000) only [go_sem, Nat.reduceEqDiff, reduceCtorEq, Nat.reduceAdd, Nat.reduceLeDiff, F50]
  refine wpC_loop (fun i T L h' => h' = h ∧ T 0 = .v v ∧ T 1 = .v (.one (.int .i64 (k + ((4 * i : Nat) : Int)))) ∧ T 5 = .v (.one (.int .i64 i))) n ?_ ?_ (Nat.zero_le _) ?_
  · rintro i T L h' hi ⟨rfl, t0, t1, t5⟩
    have hio : i < (markL mkQ 4 k n).length := by rw [markL_len]; exact hi
    have hat := markL_at hio
    have hia := hl.iaddr hio (kd := .i64)
    have hf : ∀ off : Nat, off + 1 ≤ 4 → _ := fun off ho => hl.fieldO (off := off) hio ho
    rw [hat] at hf
    have h0 := hl.field0 (c := .str (mtxt (k + ((4 * i : Nat) : Int)))) hio (by rw [hat]; rfl)
    have wr1 : IntKind.i64.wrap ((k + ((4 * i : Nat) : Int)) + 1) = (k + ((4 * i : Nat) : Int) + 1) := (i64_wrap (by omega) (by omega)).trans (by omega)
    have wr2 : IntKind.i64.wrap ((k + ((4 * i : Nat) : Int) + 1) + 1) = (k + ((4 * i : Nat) : Int) + 2) := (i64_wrap (by omega) (by omega)).trans (by omega)
    have wr3 : IntKind.i64.wrap ((k + ((4 * i : Nat) : Int) + 2) + 1) = (k + ((4 * i : Nat) : Int) + 3) := (i64_wrap (by omega) (by omega)).trans (by omega)
    have wr4 : IntKind.i64.wrap ((k + ((4 * i : Nat) : Int) + 3) + 1) = (k + ((4 * i : Nat) : Int) + 4) := (i64_wrap (by omega) (by omega)).trans (by omega)
    simp +contextual (maxSteps := 2000000) only [go_sem, Nat.reduceEqDiff, reduceCtorEq, Nat.reduceAdd, Nat.reduceLeDiff, t0, t1, t5, hlen, hia, hf, h0, lt_true hi, decide_true, mkQ, mBool, wr1, wr2, wr3, wr4, c_markText (k + ((4 * i : Nat) : Int)) _ (by omega), bin_rem (k := .i64) (a := (k + ((4 * i : Nat) : Int) + 2)) (b := 3) (by decide)]
    rw [show k + ((4 * (i + 1) : Nat) : Int) = (k + ((4 * i : Nat) : Int) + 4) by omega, wrap_next hi (by omega)]
    try exact ⟨rfl, rfl⟩
  · rintro T L h' ⟨rfl, t0, t1, t5⟩
    simp +contextual (maxSteps := 2000000) only [go_sem, Nat.reduceEqDiff, reduceCtorEq, Nat.reduceAdd, Nat.reduceLeDiff, t0, t1, t5, hlen, lt_false]
  · simp +contextual (maxSteps := 2000000) only [go_sem, Nat.reduceEqDiff, reduceCtorEq, Nat.reduceAdd, Nat.reduceLeDiff]
    simp
end Go.Proofs.YtdalgphpacikkaaGreat.Am
