/- Contracts of the laws: copies, marks, and what is held of them. -/
import Derived.Test.YtdalgphpacikkabDat
namespace Go.Proofs.Ytdalgphpacikkab.Am
open Go
set_option maxRecDepth 100000
set_option maxHeartbeats 4000000
set_option linter.unusedSimpArgs false
set_option linter.unusedVariables false
attribute [local go_sem ↓] bv_t bv_c ev_t ev_c put_same put_ne put_none kill_at pro_at lb_same lb_ne start_zero start_succ wpC_seq wpC_reg wpC_cond wpC_block wpC_skip wpC_exit wpC_ret thenQ_normal thenQ_exit thenQ_ret inBlk_normal inBlk_exit inBlk_ret wpS_nil wpS_step wpS_again wpS_guard wpO_mov wpO_load wpO_faddr wpO_nilCheck wpO_pick wpO_build wpO_bin wpO_eqb wpO_eqst wpO_eqnil wpO_not wpO_conv wpO_bytesStr wpO_iaddr wpO_idxStr wpO_field wpO_extract wpO_len wpO_lenStr wpO_cap wpO_min wpO_slice wpO_sliceStr wpO_alloc wpO_box wpO_store wpO_call wpO_callv wpO_mkfn wpO_buildSlice wpO_mkslice wpO_append wpO_appz proA_nil proA_cons tmpX_nil tmpX_tmp tmpX_cell doneB_normal doneB_ret agK_cons agK_nil agK_guard agG_tt agG_ff agG_tf agG_ft agG_undef pureB_load results_one results_two results_nil resBs_cons resBs_nil resB_tmp resB_cell
attribute [local go_sem] kill_v kill_lp_ne kill_lp_same pro_v pro_lp_same pro_lp_ne av_v av_lp optB_some optX_some valX_eq ldX_lp ldX_v faX_lp faX_v ncX_lp ncX_ptr ncX_fn boxK_one boxK_agg stL_some stK_lp_one stK_lp_agg stK_v_one stK_v_agg proM_v proM_lp callG_mk callVG_mk callvK_fn fnG_mk ptrsA_nil ptrsA_cons callH_some whenA_true whenA_false guardH_tt guardH_ff guardH_tf guardH_ft guardH_undef agV_one agV_agg lenO_sl lenStrO_str notO_bool pickO_bool convO_int eqbO_bool eqnilO_sl extractO_tup capO_sl minO_int loadL_one loadL_all storeL_eq fillA_nil fillA_one fillA_agg nat_ge neg_ge nat_lt neg_lt buildO bin_add bin_sub bin_mul bin_eql bin_neq bin_lss bin_leq bin_gtr bin_geq str_eql str_neq str_lss str_leq str_gtr str_geq retK_some endK_mk gcK_same gcK_int gcK_bool tupO_one tupO_agg rdy_self ib ii Option.map_none Option.map_some Option.some.injEq exists_eq_left' exists_eq_left ne_eq not_false_eq_true if_true if_false List.map_cons List.map_nil List.getElem?_cons_zero List.getElem?_cons_succ List.length_cons List.length_nil List.take_succ_cons List.take_zero List.take_nil List.drop_succ_cons List.drop_zero List.drop_nil List.cons_append List.nil_append List.append_nil List.set_cons_zero List.set_cons_succ Nat.zero_add forall_const true_and and_true and_self Bool.false_eq_true false_implies true_implies implies_true Bool.not_true Bool.not_false Bool.not_eq_true' Bool.not_eq_false' beq_self_eq_true Bool.bne_true Bool.bne_false
attribute [local go_sem] lenI lenS lenP lenQ lenB lenL lenT encI_0 encS_0 encP_0 encP_1 encQ_0 encQ_1 encQ_2 encQ_3 encB_0 encB_1 encL_0 encL_1 encT_0 encT_1
attribute [local go_sem low] whenA_bool guardH_bool
def encU (n : Int) : List CV := [.int .u8 n]
/-! laws.markText -/
def L49_0 : List AStep := [⟨.mov (.c (.str (strOfNums []))), (some 2), none, []⟩]
theorem v49_0 : VS L49_0.eq_1 := rfl
def L49_1 : List AStep := [⟨.mov (.t 0), (some 4), none, []⟩, ⟨.bin .leq (.t 4) (.c (.int .i64 0)), (some 5), none, []⟩]
theorem v49_1 : VS L49_1.eq_1 := rfl
def L49_2 : List AStep := [⟨.mov (.c (.str (strOfNums [109, 48]))), (some 2), none, []⟩]
theorem v49_2 : VS L49_2.eq_1 := rfl
def L49_3 : List AStep := [⟨.mov (.c (.str (strOfNums []))), (some 3), none, []⟩]
theorem v49_3 : VS L49_3.eq_1 := rfl
def L49_4 : List AStep := [⟨.mov (.t 0), (some 6), none, []⟩, ⟨.bin .gtr (.t 6) (.c (.int .i64 0)), (some 7), none, []⟩]
theorem v49_4 : VS L49_4.eq_1 := rfl
def L49_5 : List AStep := [⟨.mov (.t 15), (some 3), none, []⟩]
theorem v49_5 : VS L49_5.eq_1 := rfl
def L49_6 : List AStep := ⟨.mov (.t 3), (some 14), none, []⟩ :: ⟨.bin .add (.t 13) (.t 14), (some 15), none, []⟩ :: L49_5
theorem v49_6 : VS L49_6.eq_1 := rfl
def L49_7 : List AStep := ⟨.buildSlice 5 1 [(.int .u8 0)] [(0, 1, (.t 11))], (some 12), none, []⟩ :: ⟨.bytesStr (.t 12), (some 13), none, []⟩ :: L49_6
theorem v49_7 : VS L49_7.eq_1 := rfl
def L49_8 : List AStep := ⟨.bin .add (.c (.int .i64 48)) (.t 9), (some 10), none, []⟩ :: ⟨.conv .u8 (.t 10), (some 11), none, []⟩ :: L49_7
theorem v49_8 : VS L49_8.eq_1 := rfl
def L49_9 : List AStep := ⟨.mov (.t 0), (some 8), none, []⟩ :: ⟨.bin .rem (.t 8) (.c (.int .i64 10)), (some 9), none, []⟩ :: L49_8
theorem v49_9 : VS L49_9.eq_1 := rfl
def L49_10 : List AStep := [⟨.mov (.t 17), (some 0), none, []⟩]
theorem v49_10 : VS L49_10.eq_1 := rfl
def L49_11 : List AStep := ⟨.mov (.t 0), (some 16), none, []⟩ :: ⟨.bin .quo (.t 16) (.c (.int .i64 10)), (some 17), none, []⟩ :: L49_10
theorem v49_11 : VS L49_11.eq_1 := rfl
def L49_12 : List AStep := [⟨.mov (.t 19), (some 2), none, []⟩]
theorem v49_12 : VS L49_12.eq_1 := rfl
def L49_13 : List AStep := ⟨.mov (.t 3), (some 18), none, []⟩ :: ⟨.bin .add (.c (.str (strOfNums [109]))) (.t 18), (some 19), none, []⟩ :: L49_12
theorem v49_13 : VS L49_13.eq_1 := rfl
def C49_0 : ACode := .seq (.reg L49_2) .ret
theorem u49_0 : VC C49_0.eq_1 := rfl
def C49_1 : ACode := .cond (.t 5) C49_0 .skip
theorem u49_1 : VC C49_1.eq_1 := rfl
def C49_2 : ACode := .seq (.reg L49_1) C49_1
theorem u49_2 : VC C49_2.eq_1 := rfl
def C49_3 : ACode := .cond (.t 7) .skip (.exit 0)
theorem u49_3 : VC C49_3.eq_1 := rfl
def C49_4 : ACode := .seq (.reg L49_4) C49_3
theorem u49_4 : VC C49_4.eq_1 := rfl
def C49_5 : ACode := .seq (.reg L49_9) (.reg L49_11)
theorem u49_5 : VC C49_5.eq_1 := rfl
def C49_6 : ACode := .block 1 C49_5
theorem u49_6 : VC C49_6.eq_1 := rfl
def C49_7 : ACode := .seq C49_4 C49_6
theorem u49_7 : VC C49_7.eq_1 := rfl
def C49_8 : ACode := .block 0 (.loop C49_7)
theorem u49_8 : VC C49_8.eq_1 := rfl
def C49_9 : ACode := .seq (.reg L49_13) .ret
theorem u49_9 : VC C49_9.eq_1 := rfl
def C49_10 : ACode := .seq C49_8 C49_9
theorem u49_10 : VC C49_10.eq_1 := rfl
def C49_11 : ACode := .seq (.reg L49_3) C49_10
theorem u49_11 : VC C49_11.eq_1 := rfl
def C49_12 : ACode := .seq C49_2 C49_11
theorem u49_12 : VC C49_12.eq_1 := rfl
def C49_13 : ACode := .seq (.reg L49_0) C49_12
theorem u49_13 : VC C49_13.eq_1 := rfl
def F49 : AFunc := ⟨20, [.tmp 2], C49_13⟩
theorem cF49 : compB Try.prog 49 = some F49 := by kernel_rfl
attribute [local go_sem ↓] u49_0 u49_1 u49_2 u49_3 u49_4 u49_5 u49_6 u49_7 u49_8 u49_9 u49_10 u49_11 u49_12 u49_13 v49_0 v49_1 v49_2 v49_3 v49_4 v49_5 v49_6 v49_7 v49_8 v49_9 v49_10 v49_11 v49_12 v49_13
theorem c_markText (k : Int) (h : H) (h1 : k < 2 ^ 60) : bm Try.prog 49 [.one (.int .i64 k)] h = some (.one (.str (mtxt k)), h) := by
  by_cases hk : k ≤ 0
  · refine bm_eq cF49 ?_
    simp +contextual (maxSteps := 2000000) only [go_sem, Nat.reduceEqDiff, reduceCtorEq, Nat.reduceAdd, Nat.reduceLeDiff, F49, decide_eq_true hk]
    unfold mtxt
    rw [if_pos hk]
  obtain ⟨n, rfl⟩ : ∃ n : Nat, k = n := ⟨k.toNat, by omega⟩
  have key : callK (bm Try.prog 49 [.one (.int .i64 n)] h) fun v h' => v = .one (.str (mtxt n)) ∧ h' = h := by
    refine bm_of cF49 ?_
    simp +contextual (maxSteps := 2000000) only [go_sem, Nat.reduceEqDiff, reduceCtorEq, Nat.reduceAdd, Nat.reduceLeDiff, F49, decide_eq_false hk]
    refine wpC_while (fun m T L h' => Grow h h' ∧ T 0 = .v (.one (.int .i64 m)) ∧ ∃ s, T 3 = .v (.one (.str s)) ∧ mDig m s = mDig n (strOfNums []) ∧ s.size + m ≤ n) ?_ ?_ (m := n)
    · rintro m T L h' ⟨g, t0, s, t3, e1, e2⟩
      by_cases hm : m = 0
      · subst hm
        have e3 : mDig 0 s = s := by unfold mDig; simp
        rw [e3] at e1
        simp +contextual (maxSteps := 2000000) only [go_sem, Nat.reduceEqDiff, reduceCtorEq, Nat.reduceAdd, Nat.reduceLeDiff, t0, t3, show decide (((0 : Nat) : Int) > 0) = false from rfl]
        have e4 : (strOfNums [109]).size = 1 := strOfNums_size _
        simp +contextual (maxSteps := 2000000) only [go_sem, Nat.reduceEqDiff, reduceCtorEq, Nat.reduceAdd, Nat.reduceLeDiff, str_add (s := strOfNums [109]) (t := s) (by rw [e4]; omega)]
        refine gcR_of g rfl ⟨?_, rfl⟩
        unfold mtxt
        rw [if_neg hk, e1]
        rfl
      · have e5 : mDig m s = mDig (m / 10) (strOfNums [digit m] ++ s) := by rw [mDig, dif_neg hm]
        simp +contextual (maxSteps := 2000000) only [go_sem, Nat.reduceEqDiff, reduceCtorEq, Nat.reduceAdd, Nat.reduceLeDiff, t0, t3, decide_eq_true (show ((m : Nat) : Int) > 0 by omega), bin_rem (k := .i64) (a := (m : Int)) (b := 10) (by decide), bin_quo (k := .i64) (a := (m : Int)) (b := 10) (by decide)]
        refine wp_lit (enc := encU) (k := 1) [digit m] rfl rfl ?_
        intro h2 v g2 n2 _
        have hb := bytes_at (n2.sl (fun _ => rfl)) (by simp)
        have e4 : (strOfNums [digit m]).size = 1 := strOfNums_size _
        simp +contextual (maxSteps := 2000000) only [go_sem, Nat.reduceEqDiff, reduceCtorEq, Nat.reduceAdd, Nat.reduceLeDiff, hb, t0, t3, str_add (s := strOfNums [digit m]) (t := s) (by rw [e4]; omega), bin_quo (k := .i64) (a := (m : Int)) (b := 10) (by decide)]
        refine ⟨m / 10, by omega, g.trans g2, ?_, _, rfl, ?_, ?_⟩
        · rw [show (m : Int).tdiv 10 = ((m / 10 : Nat) : Int) by rw [Int.tdiv_eq_ediv_of_nonneg (by omega)]; omega, wrap_nat (by omega)]
        · rw [← e5, e1]
        · rw [ByteArray.size_append, e4]
          omega
    · simp +contextual (maxSteps := 2000000) only [go_sem, Nat.reduceEqDiff, reduceCtorEq, Nat.reduceAdd, Nat.reduceLeDiff]
      exact ⟨Grow.refl h, _, rfl, rfl, by rw [strOfNums_size]; simp⟩
  obtain ⟨v, h', e1, rfl, rfl⟩ := key
  exact e1
/-! laws.toParam -/
def L91_0 : List AStep := [⟨.box 116 (.t 0), (some 1), none, []⟩, ⟨.alloc 81 [(.str (strOfNums [])), (.int .i64 0), (.bool false), (.int .i64 0)], (some 2), none, []⟩]
theorem v91_0 : VS L91_0.eq_1 := rfl
def L91_1 : List AStep := [⟨.alloc 81 [(.str (strOfNums [])), (.int .i64 0), (.bool false), (.int .i64 0)], (some 3), none, []⟩]
theorem v91_1 : VS L91_1.eq_1 := rfl
def L91_2 : List AStep := [⟨.faddr 0 (.t 3), (some 6), none, []⟩, ⟨.store 1 (.t 6) (.t 5), none, none, []⟩]
theorem v91_2 : VS L91_2.eq_1 := rfl
def L91_3 : List AStep := ⟨.faddr 0 (.t 1), (some 4), none, []⟩ :: ⟨.load 1 false (.t 4), (some 5), none, []⟩ :: L91_2
theorem v91_3 : VS L91_3.eq_1 := rfl
def L91_4 : List AStep := [⟨.faddr 1 (.t 3), (some 9), none, []⟩, ⟨.store 1 (.t 9) (.t 8), none, none, []⟩]
theorem v91_4 : VS L91_4.eq_1 := rfl
def L91_5 : List AStep := ⟨.faddr 1 (.t 1), (some 7), none, []⟩ :: ⟨.load 1 false (.t 7), (some 8), none, []⟩ :: L91_4
theorem v91_5 : VS L91_5.eq_1 := rfl
def L91_6 : List AStep := [⟨.faddr 2 (.t 3), (some 12), none, []⟩, ⟨.store 1 (.t 12) (.t 11), none, none, []⟩]
theorem v91_6 : VS L91_6.eq_1 := rfl
def L91_7 : List AStep := ⟨.faddr 2 (.t 1), (some 10), none, []⟩ :: ⟨.load 1 false (.t 10), (some 11), none, []⟩ :: L91_6
theorem v91_7 : VS L91_7.eq_1 := rfl
def L91_8 : List AStep := [⟨.faddr 3 (.t 3), (some 15), none, []⟩, ⟨.store 1 (.t 15) (.t 14), none, none, []⟩]
theorem v91_8 : VS L91_8.eq_1 := rfl
def L91_9 : List AStep := ⟨.faddr 3 (.t 1), (some 13), none, []⟩ :: ⟨.load 1 false (.t 13), (some 14), none, []⟩ :: L91_8
theorem v91_9 : VS L91_9.eq_1 := rfl
def L91_10 : List AStep := [⟨.load 4 true (.t 3), (some 16), none, []⟩, ⟨.store 4 (.t 2) (.t 16), none, none, []⟩]
theorem v91_10 : VS L91_10.eq_1 := rfl
def C91_0 : ACode := .seq (.reg L91_10) .ret
theorem u91_0 : VC C91_0.eq_1 := rfl
def C91_1 : ACode := .seq (.reg L91_9) C91_0
theorem u91_1 : VC C91_1.eq_1 := rfl
def C91_2 : ACode := .seq (.reg L91_7) C91_1
theorem u91_2 : VC C91_2.eq_1 := rfl
def C91_3 : ACode := .seq (.reg L91_5) C91_2
theorem u91_3 : VC C91_3.eq_1 := rfl
def C91_4 : ACode := .seq (.reg L91_3) C91_3
theorem u91_4 : VC C91_4.eq_1 := rfl
def C91_5 : ACode := .seq (.reg L91_1) C91_4
theorem u91_5 : VC C91_5.eq_1 := rfl
def C91_6 : ACode := .seq (.reg L91_0) C91_5
theorem u91_6 : VC C91_6.eq_1 := rfl
def F91 : AFunc := ⟨17, [.cell 2 4 true], C91_6⟩
theorem cF91 : compB Try.prog 91 = some F91 := by kernel_rfl
attribute [local go_sem ↓] u91_0 u91_1 u91_2 u91_3 u91_4 u91_5 u91_6 v91_0 v91_1 v91_2 v91_3 v91_4 v91_5 v91_6 v91_7 v91_8 v91_9 v91_10
theorem c_toParam (p : Param) (h : H) : bm Try.prog 91 [.agg (encQ p)] h = some (.agg (encQ p), h) := by
  refine bm_eq cF91 ?_
  simp +contextual (maxSteps := 2000000) only [go_sem, Nat.reduceEqDiff, reduceCtorEq, Nat.reduceAdd, Nat.reduceLeDiff, F91, encQ]
/-! laws.toPair -/
def L92_0 : List AStep := [⟨.box 118 (.t 0), (some 1), none, []⟩, ⟨.alloc 109 [(.str (strOfNums [])), (.int .i64 0)], (some 2), none, []⟩]
theorem v92_0 : VS L92_0.eq_1 := rfl
def L92_1 : List AStep := [⟨.alloc 109 [(.str (strOfNums [])), (.int .i64 0)], (some 3), none, []⟩]
theorem v92_1 : VS L92_1.eq_1 := rfl
def L92_2 : List AStep := [⟨.faddr 0 (.t 3), (some 6), none, []⟩, ⟨.store 1 (.t 6) (.t 5), none, none, []⟩]
theorem v92_2 : VS L92_2.eq_1 := rfl
def L92_3 : List AStep := ⟨.faddr 0 (.t 1), (some 4), none, []⟩ :: ⟨.load 1 false (.t 4), (some 5), none, []⟩ :: L92_2
theorem v92_3 : VS L92_3.eq_1 := rfl
def L92_4 : List AStep := [⟨.faddr 1 (.t 3), (some 9), none, []⟩, ⟨.store 1 (.t 9) (.t 8), none, none, []⟩]
theorem v92_4 : VS L92_4.eq_1 := rfl
def L92_5 : List AStep := ⟨.faddr 1 (.t 1), (some 7), none, []⟩ :: ⟨.load 1 false (.t 7), (some 8), none, []⟩ :: L92_4
theorem v92_5 : VS L92_5.eq_1 := rfl
def L92_6 : List AStep := [⟨.load 2 true (.t 3), (some 10), none, []⟩, ⟨.store 2 (.t 2) (.t 10), none, none, []⟩]
theorem v92_6 : VS L92_6.eq_1 := rfl
def C92_0 : ACode := .seq (.reg L92_6) .ret
theorem u92_0 : VC C92_0.eq_1 := rfl
def C92_1 : ACode := .seq (.reg L92_5) C92_0
theorem u92_1 : VC C92_1.eq_1 := rfl
def C92_2 : ACode := .seq (.reg L92_3) C92_1
theorem u92_2 : VC C92_2.eq_1 := rfl
def C92_3 : ACode := .seq (.reg L92_1) C92_2
theorem u92_3 : VC C92_3.eq_1 := rfl
def C92_4 : ACode := .seq (.reg L92_0) C92_3
theorem u92_4 : VC C92_4.eq_1 := rfl
def F92 : AFunc := ⟨11, [.cell 2 2 true], C92_4⟩
theorem cF92 : compB Try.prog 92 = some F92 := by kernel_rfl
attribute [local go_sem ↓] u92_0 u92_1 u92_2 u92_3 u92_4 v92_0 v92_1 v92_2 v92_3 v92_4 v92_5 v92_6
theorem c_toPair (p : Pair) (h : H) : bm Try.prog 92 [.agg (encP p)] h = some (.agg (encP p), h) := by
  refine bm_eq cF92 ?_
  simp +contextual (maxSteps := 2000000) only [go_sem, Nat.reduceEqDiff, reduceCtorEq, Nat.reduceAdd, Nat.reduceLeDiff, F92, encP]
/-! laws.toIntS -/
def L59_0 : List AStep := [⟨.mov (.c (.sl none 0 (some 0))), (some 2), none, []⟩]
theorem v59_0 : VS L59_0.eq_1 := rfl
def L59_1 : List AStep := [⟨.mkslice 3 8 [(.int .i64 0)] (.t 6) (.t 6), (some 7), none, []⟩, ⟨.mov (.t 7), (some 3), none, []⟩]
theorem v59_1 : VS L59_1.eq_1 := rfl
def L59_2 : List AStep := ⟨.mov (.t 0), (some 5), none, []⟩ :: ⟨.len (.t 5), (some 6), none, []⟩ :: L59_1
theorem v59_2 : VS L59_2.eq_1 := rfl
def L59_3 : List AStep := [⟨.mov (.c (.int .i64 0)), (some 4), none, []⟩]
theorem v59_3 : VS L59_3.eq_1 := rfl
def L59_4 : List AStep := [⟨.len (.t 9), (some 10), none, []⟩, ⟨.bin .lss (.t 8) (.t 10), (some 11), none, []⟩]
theorem v59_4 : VS L59_4.eq_1 := rfl
def L59_5 : List AStep := ⟨.mov (.t 4), (some 8), none, []⟩ :: ⟨.mov (.t 0), (some 9), none, []⟩ :: L59_4
theorem v59_5 : VS L59_5.eq_1 := rfl
def L59_6 : List AStep := [⟨.iaddr 1 (.t 14) (.t 15), (some 20), none, []⟩, ⟨.store 1 (.t 20) (.t 19), none, none, []⟩]
theorem v59_6 : VS L59_6.eq_1 := rfl
def L59_7 : List AStep := ⟨.iaddr 1 (.t 16) (.t 17), (some 18), none, []⟩ :: ⟨.load 1 false (.t 18), (some 19), none, []⟩ :: L59_6
theorem v59_7 : VS L59_7.eq_1 := rfl
def L59_8 : List AStep := ⟨.mov (.t 0), (some 16), none, []⟩ :: ⟨.mov (.t 4), (some 17), none, []⟩ :: L59_7
theorem v59_8 : VS L59_8.eq_1 := rfl
def L59_9 : List AStep := ⟨.mov (.t 3), (some 14), none, []⟩ :: ⟨.mov (.t 4), (some 15), none, []⟩ :: L59_8
theorem v59_9 : VS L59_9.eq_1 := rfl
def L59_10 : List AStep := [⟨.mov (.t 13), (some 4), none, []⟩]
theorem v59_10 : VS L59_10.eq_1 := rfl
def L59_11 : List AStep := ⟨.mov (.t 4), (some 12), none, []⟩ :: ⟨.bin .add (.t 12) (.c (.int .i64 1)), (some 13), none, []⟩ :: L59_10
theorem v59_11 : VS L59_11.eq_1 := rfl
def L59_12 : List AStep := [⟨.mov (.t 3), (some 21), none, []⟩, ⟨.mov (.t 21), (some 2), none, []⟩]
theorem v59_12 : VS L59_12.eq_1 := rfl
def C59_0 : ACode := .cond (.t 11) .skip (.exit 0)
theorem u59_0 : VC C59_0.eq_1 := rfl
def C59_1 : ACode := .seq (.reg L59_5) C59_0
theorem u59_1 : VC C59_1.eq_1 := rfl
def C59_2 : ACode := .block 1 (.reg L59_9)
theorem u59_2 : VC C59_2.eq_1 := rfl
def C59_3 : ACode := .seq C59_2 (.reg L59_11)
theorem u59_3 : VC C59_3.eq_1 := rfl
def C59_4 : ACode := .seq C59_1 C59_3
theorem u59_4 : VC C59_4.eq_1 := rfl
def C59_5 : ACode := .block 0 (.loop C59_4)
theorem u59_5 : VC C59_5.eq_1 := rfl
def C59_6 : ACode := .seq (.reg L59_3) C59_5
theorem u59_6 : VC C59_6.eq_1 := rfl
def C59_7 : ACode := .seq (.reg L59_12) .ret
theorem u59_7 : VC C59_7.eq_1 := rfl
def C59_8 : ACode := .seq C59_6 C59_7
theorem u59_8 : VC C59_8.eq_1 := rfl
def C59_9 : ACode := .seq (.reg L59_2) C59_8
theorem u59_9 : VC C59_9.eq_1 := rfl
def C59_10 : ACode := .seq (.reg L59_0) C59_9
theorem u59_10 : VC C59_10.eq_1 := rfl
def F59 : AFunc := ⟨22, [.tmp 2], C59_10⟩
theorem cF59 : compB Try.prog 59 = some F59 := by kernel_rfl
attribute [local go_sem ↓] u59_0 u59_1 u59_2 u59_3 u59_4 u59_5 u59_6 u59_7 u59_8 u59_9 u59_10 v59_0 v59_1 v59_2 v59_3 v59_4 v59_5 v59_6 v59_7 v59_8 v59_9 v59_10 v59_11 v59_12
theorem c_toIntS {t1 : Nat} (l : List Int) (v : AV) (h : H) (hl : Sl encI 1 t1 h v l) (hn : l.length ≤ 1048576) : callK (bm Try.prog 59 [v] h) fun r h' => Grow h h' ∧ NwI h h' r l := by
  refine bm_of cF59 ?_
  simp +contextual (maxSteps := 2000000) only [go_sem, Nat.reduceEqDiff, reduceCtorEq, Nat.reduceAdd, Nat.reduceLeDiff, F59, hl.len]
  refine wp_make (enc := encI) (k := 1) (0 : Int) rfl (by omega) (by omega) ?_
  intro h1 o g1 n1 _
  simp +contextual (maxSteps := 2000000) only [go_sem, Nat.reduceEqDiff, reduceCtorEq, Nat.reduceAdd, Nat.reduceLeDiff]
  refine wpC_loop (fun i T L h' => Grow h h' ∧ T 0 = .v v ∧ T 3 = .v o ∧ T 4 = .v (.one (.int .i64 i)) ∧ NwI h h' o (fillL l (0 : Int) i)) l.length ?_ ?_ (Nat.zero_le _) ?_
  · rintro i T L h' hi ⟨g, t0, t3, t4, no⟩
    have hl := (‹Sl encI 1 t1 h v l›).grow g
    have hio : i < (fillL l (0 : Int) i).length := by rw [fillL_len (by omega)]; exact hi
    simp +contextual (maxSteps := 2000000) only [go_sem, Nat.reduceEqDiff, reduceCtorEq, Nat.reduceAdd, Nat.reduceLeDiff, t0, t3, t4, hl.len, hl.iaddr hi, hl.oneO hi, no.iaddr hio, lt_true hi]
    refine wp_setE (x := l[i]) lenI no hio rfl rfl g ?_
    intro h2 g2 n2 _
    simp +contextual (maxSteps := 2000000) only [go_sem, Nat.reduceEqDiff, reduceCtorEq, Nat.reduceAdd, Nat.reduceLeDiff, t0, t3, t4]
    rw [fillL_set hi] at n2
    exact ⟨g2, by rw [wrap_next hi (by omega)], n2⟩
  · rintro T L h' ⟨g, t0, t3, t4, no⟩
    have hl := (‹Sl encI 1 t1 h v l›).grow g
    simp +contextual (maxSteps := 2000000) only [go_sem, Nat.reduceEqDiff, reduceCtorEq, Nat.reduceAdd, Nat.reduceLeDiff, t0, t3, t4, hl.len, lt_false]
    rw [fillL_all] at no
    exact gcK_of ⟨g, no⟩ (fun hs _ => ⟨Grow.refl h, no.scalar hs h⟩)
  · simp +contextual (maxSteps := 2000000) only [go_sem, Nat.reduceEqDiff, reduceCtorEq, Nat.reduceAdd, Nat.reduceLeDiff]
    exact ⟨g1, rfl, by rw [fillL_zero]; exact n1⟩
/-! laws.toParamS -/
def L58_0 : List AStep := [⟨.mov (.c (.sl none 0 (some 0))), (some 2), none, []⟩]
theorem v58_0 : VS L58_0.eq_1 := rfl
def L58_1 : List AStep := [⟨.mkslice 81 40 [(.str (strOfNums [])), (.int .i64 0), (.bool false), (.int .i64 0)] (.t 6) (.t 6), (some 7), none, []⟩, ⟨.mov (.t 7), (some 3), none, []⟩]
theorem v58_1 : VS L58_1.eq_1 := rfl
def L58_2 : List AStep := ⟨.mov (.t 0), (some 5), none, []⟩ :: ⟨.len (.t 5), (some 6), none, []⟩ :: L58_1
theorem v58_2 : VS L58_2.eq_1 := rfl
def L58_3 : List AStep := [⟨.mov (.c (.int .i64 0)), (some 4), none, []⟩]
theorem v58_3 : VS L58_3.eq_1 := rfl
def L58_4 : List AStep := [⟨.len (.t 9), (some 10), none, []⟩, ⟨.bin .lss (.t 8) (.t 10), (some 11), none, []⟩]
theorem v58_4 : VS L58_4.eq_1 := rfl
def L58_5 : List AStep := ⟨.mov (.t 4), (some 8), none, []⟩ :: ⟨.mov (.t 0), (some 9), none, []⟩ :: L58_4
theorem v58_5 : VS L58_5.eq_1 := rfl
def L58_6 : List AStep := [⟨.store 4 (.t 21) (.t 20), none, none, []⟩]
theorem v58_6 : VS L58_6.eq_1 := rfl
def L58_7 : List AStep := ⟨.call 91 [(.t 19)], (some 20), none, []⟩ :: ⟨.iaddr 4 (.t 14) (.t 15), (some 21), none, []⟩ :: L58_6
theorem v58_7 : VS L58_7.eq_1 := rfl
def L58_8 : List AStep := ⟨.iaddr 4 (.t 16) (.t 17), (some 18), none, []⟩ :: ⟨.load 4 true (.t 18), (some 19), none, []⟩ :: L58_7
theorem v58_8 : VS L58_8.eq_1 := rfl
def L58_9 : List AStep := ⟨.mov (.t 0), (some 16), none, []⟩ :: ⟨.mov (.t 4), (some 17), none, []⟩ :: L58_8
theorem v58_9 : VS L58_9.eq_1 := rfl
def L58_10 : List AStep := ⟨.mov (.t 3), (some 14), none, []⟩ :: ⟨.mov (.t 4), (some 15), none, []⟩ :: L58_9
theorem v58_10 : VS L58_10.eq_1 := rfl
def L58_11 : List AStep := [⟨.mov (.t 13), (some 4), none, []⟩]
theorem v58_11 : VS L58_11.eq_1 := rfl
def L58_12 : List AStep := ⟨.mov (.t 4), (some 12), none, []⟩ :: ⟨.bin .add (.t 12) (.c (.int .i64 1)), (some 13), none, []⟩ :: L58_11
theorem v58_12 : VS L58_12.eq_1 := rfl
def L58_13 : List AStep := [⟨.mov (.t 3), (some 22), none, []⟩, ⟨.mov (.t 22), (some 2), none, []⟩]
theorem v58_13 : VS L58_13.eq_1 := rfl
def C58_0 : ACode := .cond (.t 11) .skip (.exit 0)
theorem u58_0 : VC C58_0.eq_1 := rfl
def C58_1 : ACode := .seq (.reg L58_5) C58_0
theorem u58_1 : VC C58_1.eq_1 := rfl
def C58_2 : ACode := .block 1 (.reg L58_10)
theorem u58_2 : VC C58_2.eq_1 := rfl
def C58_3 : ACode := .seq C58_2 (.reg L58_12)
theorem u58_3 : VC C58_3.eq_1 := rfl
def C58_4 : ACode := .seq C58_1 C58_3
theorem u58_4 : VC C58_4.eq_1 := rfl
def C58_5 : ACode := .block 0 (.loop C58_4)
theorem u58_5 : VC C58_5.eq_1 := rfl
def C58_6 : ACode := .seq (.reg L58_3) C58_5
theorem u58_6 : VC C58_6.eq_1 := rfl
def C58_7 : ACode := .seq (.reg L58_13) .ret
theorem u58_7 : VC C58_7.eq_1 := rfl
def C58_8 : ACode := .seq C58_6 C58_7
theorem u58_8 : VC C58_8.eq_1 := rfl
def C58_9 : ACode := .seq (.reg L58_2) C58_8
theorem u58_9 : VC C58_9.eq_1 := rfl
def C58_10 : ACode := .seq (.reg L58_0) C58_9
theorem u58_10 : VC C58_10.eq_1 := rfl
def F58 : AFunc := ⟨23, [.tmp 2], C58_10⟩
theorem cF58 : compB Try.prog 58 = some F58 := by kernel_rfl
attribute [local go_sem ↓] u58_0 u58_1 u58_2 u58_3 u58_4 u58_5 u58_6 u58_7 u58_8 u58_9 u58_10 v58_0 v58_1 v58_2 v58_3 v58_4 v58_5 v58_6 v58_7 v58_8 v58_9 v58_10 v58_11 v58_12 v58_13
theorem c_toParamS {t1 : Nat} (l : List Param) (v : AV) (h : H) (hl : Sl encQ 4 t1 h v l) (hn : l.length ≤ 1048576) : callK (bm Try.prog 58 [v] h) fun r h' => Grow h h' ∧ NwQ h h' r l := by
  refine bm_of cF58 ?_
  simp +contextual (maxSteps := 2000000) only [go_sem, Nat.reduceEqDiff, reduceCtorEq, Nat.reduceAdd, Nat.reduceLeDiff, F58, hl.len]
  refine wp_make (enc := encQ) (k := 4) (⟨(strOfNums []), 0, false, 0⟩ : Param) rfl (by omega) (by omega) ?_
  intro h1 o g1 n1 _
  simp +contextual (maxSteps := 2000000) only [go_sem, Nat.reduceEqDiff, reduceCtorEq, Nat.reduceAdd, Nat.reduceLeDiff]
  refine wpC_loop (fun i T L h' => Grow h h' ∧ T 0 = .v v ∧ T 3 = .v o ∧ T 4 = .v (.one (.int .i64 i)) ∧ NwQ h h' o (fillL l (⟨(strOfNums []), 0, false, 0⟩ : Param) i)) l.length ?_ ?_ (Nat.zero_le _) ?_
  · rintro i T L h' hi ⟨g, t0, t3, t4, no⟩
    have hl := (‹Sl encQ 4 t1 h v l›).grow g
    have hio : i < (fillL l (⟨(strOfNums []), 0, false, 0⟩ : Param) i).length := by rw [fillL_len (by omega)]; exact hi
    simp +contextual (maxSteps := 2000000) only [go_sem, Nat.reduceEqDiff, reduceCtorEq, Nat.reduceAdd, Nat.reduceLeDiff, t0, t3, t4, hl.len, hl.iaddr hi, hl.whole hi, no.iaddr hio, lt_true hi, c_toParam]
    refine wp_setE (x := l[i]) lenQ no hio rfl rfl g ?_
    intro h2 g2 n2 _
    simp +contextual (maxSteps := 2000000) only [go_sem, Nat.reduceEqDiff, reduceCtorEq, Nat.reduceAdd, Nat.reduceLeDiff, t0, t3, t4]
    rw [fillL_set hi] at n2
    exact ⟨g2, by rw [wrap_next hi (by omega)], n2⟩
  · rintro T L h' ⟨g, t0, t3, t4, no⟩
    have hl := (‹Sl encQ 4 t1 h v l›).grow g
    simp +contextual (maxSteps := 2000000) only [go_sem, Nat.reduceEqDiff, reduceCtorEq, Nat.reduceAdd, Nat.reduceLeDiff, t0, t3, t4, hl.len, lt_false]
    rw [fillL_all] at no
    exact gcK_of ⟨g, no⟩ (fun hs _ => ⟨Grow.refl h, no.scalar hs h⟩)
  · simp +contextual (maxSteps := 2000000) only [go_sem, Nat.reduceEqDiff, reduceCtorEq, Nat.reduceAdd, Nat.reduceLeDiff]
    exact ⟨g1, rfl, by rw [fillL_zero]; exact n1⟩
/-! laws.toPairS -/
def L60_0 : List AStep := [⟨.mov (.c (.sl none 0 (some 0))), (some 2), none, []⟩]
theorem v60_0 : VS L60_0.eq_1 := rfl
def L60_1 : List AStep := [⟨.mkslice 109 24 [(.str (strOfNums [])), (.int .i64 0)] (.t 6) (.t 6), (some 7), none, []⟩, ⟨.mov (.t 7), (some 3), none, []⟩]
theorem v60_1 : VS L60_1.eq_1 := rfl
def L60_2 : List AStep := ⟨.mov (.t 0), (some 5), none, []⟩ :: ⟨.len (.t 5), (some 6), none, []⟩ :: L60_1
theorem v60_2 : VS L60_2.eq_1 := rfl
def L60_3 : List AStep := [⟨.mov (.c (.int .i64 0)), (some 4), none, []⟩]
theorem v60_3 : VS L60_3.eq_1 := rfl
def L60_4 : List AStep := [⟨.len (.t 9), (some 10), none, []⟩, ⟨.bin .lss (.t 8) (.t 10), (some 11), none, []⟩]
theorem v60_4 : VS L60_4.eq_1 := rfl
def L60_5 : List AStep := ⟨.mov (.t 4), (some 8), none, []⟩ :: ⟨.mov (.t 0), (some 9), none, []⟩ :: L60_4
theorem v60_5 : VS L60_5.eq_1 := rfl
def L60_6 : List AStep := [⟨.store 2 (.t 21) (.t 20), none, none, []⟩]
theorem v60_6 : VS L60_6.eq_1 := rfl
def L60_7 : List AStep := ⟨.call 92 [(.t 19)], (some 20), none, []⟩ :: ⟨.iaddr 2 (.t 14) (.t 15), (some 21), none, []⟩ :: L60_6
theorem v60_7 : VS L60_7.eq_1 := rfl
def L60_8 : List AStep := ⟨.iaddr 2 (.t 16) (.t 17), (some 18), none, []⟩ :: ⟨.load 2 true (.t 18), (some 19), none, []⟩ :: L60_7
theorem v60_8 : VS L60_8.eq_1 := rfl
def L60_9 : List AStep := ⟨.mov (.t 0), (some 16), none, []⟩ :: ⟨.mov (.t 4), (some 17), none, []⟩ :: L60_8
theorem v60_9 : VS L60_9.eq_1 := rfl
def L60_10 : List AStep := ⟨.mov (.t 3), (some 14), none, []⟩ :: ⟨.mov (.t 4), (some 15), none, []⟩ :: L60_9
theorem v60_10 : VS L60_10.eq_1 := rfl
def L60_11 : List AStep := [⟨.mov (.t 13), (some 4), none, []⟩]
theorem v60_11 : VS L60_11.eq_1 := rfl
def L60_12 : List AStep := ⟨.mov (.t 4), (some 12), none, []⟩ :: ⟨.bin .add (.t 12) (.c (.int .i64 1)), (some 13), none, []⟩ :: L60_11
theorem v60_12 : VS L60_12.eq_1 := rfl
def L60_13 : List AStep := [⟨.mov (.t 3), (some 22), none, []⟩, ⟨.mov (.t 22), (some 2), none, []⟩]
theorem v60_13 : VS L60_13.eq_1 := rfl
def C60_0 : ACode := .cond (.t 11) .skip (.exit 0)
theorem u60_0 : VC C60_0.eq_1 := rfl
def C60_1 : ACode := .seq (.reg L60_5) C60_0
theorem u60_1 : VC C60_1.eq_1 := rfl
def C60_2 : ACode := .block 1 (.reg L60_10)
theorem u60_2 : VC C60_2.eq_1 := rfl
def C60_3 : ACode := .seq C60_2 (.reg L60_12)
theorem u60_3 : VC C60_3.eq_1 := rfl
def C60_4 : ACode := .seq C60_1 C60_3
theorem u60_4 : VC C60_4.eq_1 := rfl
def C60_5 : ACode := .block 0 (.loop C60_4)
theorem u60_5 : VC C60_5.eq_1 := rfl
def C60_6 : ACode := .seq (.reg L60_3) C60_5
theorem u60_6 : VC C60_6.eq_1 := rfl
def C60_7 : ACode := .seq (.reg L60_13) .ret
theorem u60_7 : VC C60_7.eq_1 := rfl
def C60_8 : ACode := .seq C60_6 C60_7
theorem u60_8 : VC C60_8.eq_1 := rfl
def C60_9 : ACode := .seq (.reg L60_2) C60_8
theorem u60_9 : VC C60_9.eq_1 := rfl
def C60_10 : ACode := .seq (.reg L60_0) C60_9
theorem u60_10 : VC C60_10.eq_1 := rfl
def F60 : AFunc := ⟨23, [.tmp 2], C60_10⟩
theorem cF60 : compB Try.prog 60 = some F60 := by kernel_rfl
attribute [local go_sem ↓] u60_0 u60_1 u60_2 u60_3 u60_4 u60_5 u60_6 u60_7 u60_8 u60_9 u60_10 v60_0 v60_1 v60_2 v60_3 v60_4 v60_5 v60_6 v60_7 v60_8 v60_9 v60_10 v60_11 v60_12 v60_13
theorem c_toPairS {t1 : Nat} (l : List Pair) (v : AV) (h : H) (hl : Sl encP 2 t1 h v l) (hn : l.length ≤ 1048576) : callK (bm Try.prog 60 [v] h) fun r h' => Grow h h' ∧ NwP h h' r l := by
  refine bm_of cF60 ?_
  simp +contextual (maxSteps := 2000000) only [go_sem, Nat.reduceEqDiff, reduceCtorEq, Nat.reduceAdd, Nat.reduceLeDiff, F60, hl.len]
  refine wp_make (enc := encP) (k := 2) (⟨(strOfNums []), 0⟩ : Pair) rfl (by omega) (by omega) ?_
  intro h1 o g1 n1 _
  simp +contextual (maxSteps := 2000000) only [go_sem, Nat.reduceEqDiff, reduceCtorEq, Nat.reduceAdd, Nat.reduceLeDiff]
  refine wpC_loop (fun i T L h' => Grow h h' ∧ T 0 = .v v ∧ T 3 = .v o ∧ T 4 = .v (.one (.int .i64 i)) ∧ NwP h h' o (fillL l (⟨(strOfNums []), 0⟩ : Pair) i)) l.length ?_ ?_ (Nat.zero_le _) ?_
  · rintro i T L h' hi ⟨g, t0, t3, t4, no⟩
    have hl := (‹Sl encP 2 t1 h v l›).grow g
    have hio : i < (fillL l (⟨(strOfNums []), 0⟩ : Pair) i).length := by rw [fillL_len (by omega)]; exact hi
    simp +contextual (maxSteps := 2000000) only [go_sem, Nat.reduceEqDiff, reduceCtorEq, Nat.reduceAdd, Nat.reduceLeDiff, t0, t3, t4, hl.len, hl.iaddr hi, hl.whole hi, no.iaddr hio, lt_true hi, c_toPair]
    refine wp_setE (x := l[i]) lenP no hio rfl rfl g ?_
    intro h2 g2 n2 _
    simp +contextual (maxSteps := 2000000) only [go_sem, Nat.reduceEqDiff, reduceCtorEq, Nat.reduceAdd, Nat.reduceLeDiff, t0, t3, t4]
    rw [fillL_set hi] at n2
    exact ⟨g2, by rw [wrap_next hi (by omega)], n2⟩
  · rintro T L h' ⟨g, t0, t3, t4, no⟩
    have hl := (‹Sl encP 2 t1 h v l›).grow g
    simp +contextual (maxSteps := 2000000) only [go_sem, Nat.reduceEqDiff, reduceCtorEq, Nat.reduceAdd, Nat.reduceLeDiff, t0, t3, t4, hl.len, lt_false]
    rw [fillL_all] at no
    exact gcK_of ⟨g, no⟩ (fun hs _ => ⟨Grow.refl h, no.scalar hs h⟩)
  · simp +contextual (maxSteps := 2000000) only [go_sem, Nat.reduceEqDiff, reduceCtorEq, Nat.reduceAdd, Nat.reduceLeDiff]
    exact ⟨g1, rfl, by rw [fillL_zero]; exact n1⟩
/-! laws.markIntS -/
def L40_0 : List AStep := [⟨.mov (.c (.int .i64 0)), (some 4), none, []⟩]
theorem v40_0 : VS L40_0.eq_1 := rfl
def L40_1 : List AStep := [⟨.mov (.c (.int .i64 0)), (some 5), none, []⟩]
theorem v40_1 : VS L40_1.eq_1 := rfl
def L40_2 : List AStep := [⟨.len (.t 7), (some 8), none, []⟩, ⟨.bin .lss (.t 6) (.t 8), (some 9), none, []⟩]
theorem v40_2 : VS L40_2.eq_1 := rfl
def L40_3 : List AStep := ⟨.mov (.t 5), (some 6), none, []⟩ :: ⟨.mov (.t 0), (some 7), none, []⟩ :: L40_2
theorem v40_3 : VS L40_3.eq_1 := rfl
def L40_4 : List AStep := [⟨.store 1 (.t 15) (.t 14), none, none, []⟩]
theorem v40_4 : VS L40_4.eq_1 := rfl
def L40_5 : List AStep := ⟨.mov (.t 1), (some 14), none, []⟩ :: ⟨.iaddr 1 (.t 12) (.t 13), (some 15), none, []⟩ :: L40_4
theorem v40_5 : VS L40_5.eq_1 := rfl
def L40_6 : List AStep := ⟨.mov (.t 0), (some 12), none, []⟩ :: ⟨.mov (.t 5), (some 13), none, []⟩ :: L40_5
theorem v40_6 : VS L40_6.eq_1 := rfl
def L40_7 : List AStep := [⟨.mov (.t 17), (some 1), none, []⟩]
theorem v40_7 : VS L40_7.eq_1 := rfl
def L40_8 : List AStep := ⟨.mov (.t 1), (some 16), none, []⟩ :: ⟨.bin .add (.t 16) (.c (.int .i64 1)), (some 17), none, []⟩ :: L40_7
theorem v40_8 : VS L40_8.eq_1 := rfl
def L40_9 : List AStep := [⟨.mov (.t 11), (some 5), none, []⟩]
theorem v40_9 : VS L40_9.eq_1 := rfl
def L40_10 : List AStep := ⟨.mov (.t 5), (some 10), none, []⟩ :: ⟨.bin .add (.t 10) (.c (.int .i64 1)), (some 11), none, []⟩ :: L40_9
theorem v40_10 : VS L40_10.eq_1 := rfl
def L40_11 : List AStep := [⟨.mov (.t 1), (some 18), none, []⟩, ⟨.mov (.t 18), (some 4), none, []⟩]
theorem v40_11 : VS L40_11.eq_1 := rfl
def C40_0 : ACode := .cond (.t 9) .skip (.exit 0)
theorem u40_0 : VC C40_0.eq_1 := rfl
def C40_1 : ACode := .seq (.reg L40_3) C40_0
theorem u40_1 : VC C40_1.eq_1 := rfl
def C40_2 : ACode := .seq (.reg L40_6) (.reg L40_8)
theorem u40_2 : VC C40_2.eq_1 := rfl
def C40_3 : ACode := .block 1 C40_2
theorem u40_3 : VC C40_3.eq_1 := rfl
def C40_4 : ACode := .seq C40_3 (.reg L40_10)
theorem u40_4 : VC C40_4.eq_1 := rfl
def C40_5 : ACode := .seq C40_1 C40_4
theorem u40_5 : VC C40_5.eq_1 := rfl
def C40_6 : ACode := .block 0 (.loop C40_5)
theorem u40_6 : VC C40_6.eq_1 := rfl
def C40_7 : ACode := .seq (.reg L40_1) C40_6
theorem u40_7 : VC C40_7.eq_1 := rfl
def C40_8 : ACode := .seq (.reg L40_11) .ret
theorem u40_8 : VC C40_8.eq_1 := rfl
def C40_9 : ACode := .seq C40_7 C40_8
theorem u40_9 : VC C40_9.eq_1 := rfl
def C40_10 : ACode := .seq (.reg L40_0) C40_9
theorem u40_10 : VC C40_10.eq_1 := rfl
def F40 : AFunc := ⟨19, [.tmp 4], C40_10⟩
theorem cF40 : compB Try.prog 40 = some F40 := by kernel_rfl
attribute [local go_sem ↓] u40_0 u40_1 u40_2 u40_3 u40_4 u40_5 u40_6 u40_7 u40_8 u40_9 u40_10 v40_0 v40_1 v40_2 v40_3 v40_4 v40_5 v40_6 v40_7 v40_8 v40_9 v40_10 v40_11
theorem c_markIntS (l : List Int) (v : AV) (k : Int) (h0 h : H) (hl : NwI h0 h v l) (g : Grow h0 h) (k1 : 0 ≤ k) (k2 : k ≤ 2 ^ 40) (hn : l.length ≤ 2 ^ 30) :
    callK (bm Try.prog 40 [v, .one (.int .i64 k)] h) fun r h' => r = ii (k + ((1 * l.length : Nat) : Int)) ∧ Grow h0 h' ∧ NwI h0 h' v (markL mkI 1 k l.length) ∧ Stay v h h' := by
  refine bm_of cF40 ?_
  simp +contextual (maxSteps := 2000000) only [go_sem, Nat.reduceEqDiff, reduceCtorEq, Nat.reduceAdd, Nat.reduceLeDiff, F40]
  refine wpC_loop (fun i T L h' => Grow h0 h' ∧ T 0 = .v v ∧ T 1 = .v (.one (.int .i64 (k + ((1 * i : Nat) : Int)))) ∧ T 5 = .v (.one (.int .i64 i)) ∧ NwI h0 h' v (markT mkI 1 k l i) ∧ Stay v h h') l.length ?_ ?_ (Nat.zero_le _) ?_
  · rintro i T L h' hi ⟨g, t0, t1, t5, no, st⟩
    have hlen : (markT mkI 1 k l i).length = l.length := markT_len (by omega)
    have hio : i < (markT mkI 1 k l i).length := by omega
    have hln := no.length
    rw [hlen] at hln
    have hia := no.iaddr hio (kd := .i64)
    have wr1 : IntKind.i64.wrap ((k + ((1 * i : Nat) : Int)) + 1) = (k + ((1 * i : Nat) : Int) + 1) := (i64_wrap (by omega) (by omega)).trans (by omega)
    simp +contextual (maxSteps := 2000000) only [go_sem, Nat.reduceEqDiff, reduceCtorEq, Nat.reduceAdd, Nat.reduceLeDiff, t0, t1, t5, hln, hia, lt_true hi, wr1]
    refine wp_setE (x := (k + ((1 * i : Nat) : Int))) lenI no hio rfl rfl g ?_
    intro h2 g2 n2 s2
    simp +contextual (maxSteps := 2000000) only [go_sem, Nat.reduceEqDiff, reduceCtorEq, Nat.reduceAdd, Nat.reduceLeDiff, t0, t1, t5, hln, hia, wr1]
    have e : (markT mkI 1 k l i).set i (mkI (k + ((1 * i : Nat) : Int))) = markT mkI 1 k l (i + 1) := markT_set hi
    have n3 : NwI h0 h2 v (markT mkI 1 k l (i + 1)) := by rw [← e]; exact n2
    refine ⟨g2, by rw [show k + ((1 * (i + 1) : Nat) : Int) = (k + ((1 * i : Nat) : Int) + 1) by omega], by rw [wrap_next hi (by omega)], n3, (st.trans s2)⟩
  · rintro T L h' ⟨g, t0, t1, t5, no, st⟩
    have hln := no.length
    rw [markT_len (Nat.le_refl _)] at hln
    simp +contextual (maxSteps := 2000000) only [go_sem, Nat.reduceEqDiff, reduceCtorEq, Nat.reduceAdd, Nat.reduceLeDiff, t0, t1, t5, hln, lt_false]
    rw [markT_all] at no
    exact gcK_of ⟨rfl, g, no, st⟩ (fun _ gg => ⟨rfl, ‹Grow h0 h›, no.back hl gg, (Grow.refl h).stay v⟩)
  · simp +contextual (maxSteps := 2000000) only [go_sem, Nat.reduceEqDiff, reduceCtorEq, Nat.reduceAdd, Nat.reduceLeDiff]
    exact ⟨g, by simp, rfl, by rw [markT_zero]; exact hl, (Grow.refl h).stay v⟩
/-! laws.heldIntS -/
def L41_0 : List AStep := [⟨.mov (.c (.int .i64 0)), (some 4), none, []⟩]
theorem v41_0 : VS L41_0.eq_1 := rfl
def L41_1 : List AStep := [⟨.mov (.c (.int .i64 0)), (some 5), none, []⟩]
theorem v41_1 : VS L41_1.eq_1 := rfl
def L41_2 : List AStep := [⟨.len (.t 7), (some 8), none, []⟩, ⟨.bin .lss (.t 6) (.t 8), (some 9), none, []⟩]
theorem v41_2 : VS L41_2.eq_1 := rfl
def L41_3 : List AStep := ⟨.mov (.t 5), (some 6), none, []⟩ :: ⟨.mov (.t 0), (some 7), none, []⟩ :: L41_2
theorem v41_3 : VS L41_3.eq_1 := rfl
def L41_4 : List AStep := [⟨.mov (.t 1), (some 16), none, []⟩, ⟨.bin .neq (.t 15) (.t 16), (some 17), none, []⟩]
theorem v41_4 : VS L41_4.eq_1 := rfl
def L41_5 : List AStep := ⟨.iaddr 1 (.t 12) (.t 13), (some 14), none, []⟩ :: ⟨.load 1 false (.t 14), (some 15), none, []⟩ :: L41_4
theorem v41_5 : VS L41_5.eq_1 := rfl
def L41_6 : List AStep := ⟨.mov (.t 0), (some 12), none, []⟩ :: ⟨.mov (.t 5), (some 13), none, []⟩ :: L41_5
theorem v41_6 : VS L41_6.eq_1 := rfl
def L41_7 : List AStep := [⟨.mov (.c (.int .i64 (-1))), (some 4), none, []⟩]
theorem v41_7 : VS L41_7.eq_1 := rfl
def L41_8 : List AStep := [⟨.mov (.t 19), (some 1), none, []⟩]
theorem v41_8 : VS L41_8.eq_1 := rfl
def L41_9 : List AStep := ⟨.mov (.t 1), (some 18), none, []⟩ :: ⟨.bin .add (.t 18) (.c (.int .i64 1)), (some 19), none, []⟩ :: L41_8
theorem v41_9 : VS L41_9.eq_1 := rfl
def L41_10 : List AStep := [⟨.mov (.t 11), (some 5), none, []⟩]
theorem v41_10 : VS L41_10.eq_1 := rfl
def L41_11 : List AStep := ⟨.mov (.t 5), (some 10), none, []⟩ :: ⟨.bin .add (.t 10) (.c (.int .i64 1)), (some 11), none, []⟩ :: L41_10
theorem v41_11 : VS L41_11.eq_1 := rfl
def L41_12 : List AStep := [⟨.mov (.t 1), (some 20), none, []⟩, ⟨.mov (.t 20), (some 4), none, []⟩]
theorem v41_12 : VS L41_12.eq_1 := rfl
def C41_0 : ACode := .cond (.t 9) .skip (.exit 0)
theorem u41_0 : VC C41_0.eq_1 := rfl
def C41_1 : ACode := .seq (.reg L41_3) C41_0
theorem u41_1 : VC C41_1.eq_1 := rfl
def C41_2 : ACode := .seq (.reg L41_7) .ret
theorem u41_2 : VC C41_2.eq_1 := rfl
def C41_3 : ACode := .cond (.t 17) C41_2 .skip
theorem u41_3 : VC C41_3.eq_1 := rfl
def C41_4 : ACode := .seq (.reg L41_6) C41_3
theorem u41_4 : VC C41_4.eq_1 := rfl
def C41_5 : ACode := .seq C41_4 (.reg L41_9)
theorem u41_5 : VC C41_5.eq_1 := rfl
def C41_6 : ACode := .block 1 C41_5
theorem u41_6 : VC C41_6.eq_1 := rfl
def C41_7 : ACode := .seq C41_6 (.reg L41_11)
theorem u41_7 : VC C41_7.eq_1 := rfl
def C41_8 : ACode := .seq C41_1 C41_7
theorem u41_8 : VC C41_8.eq_1 := rfl
def C41_9 : ACode := .block 0 (.loop C41_8)
theorem u41_9 : VC C41_9.eq_1 := rfl
def C41_10 : ACode := .seq (.reg L41_1) C41_9
theorem u41_10 : VC C41_10.eq_1 := rfl
def C41_11 : ACode := .seq (.reg L41_12) .ret
theorem u41_11 : VC C41_11.eq_1 := rfl
def C41_12 : ACode := .seq C41_10 C41_11
theorem u41_12 : VC C41_12.eq_1 := rfl
def C41_13 : ACode := .seq (.reg L41_0) C41_12
theorem u41_13 : VC C41_13.eq_1 := rfl
def F41 : AFunc := ⟨21, [.tmp 4], C41_13⟩
theorem cF41 : compB Try.prog 41 = some F41 := by kernel_rfl
attribute [local go_sem ↓] u41_0 u41_1 u41_2 u41_3 u41_4 u41_5 u41_6 u41_7 u41_8 u41_9 u41_10 u41_11 u41_12 u41_13 v41_0 v41_1 v41_2 v41_3 v41_4 v41_5 v41_6 v41_7 v41_8 v41_9 v41_10 v41_11 v41_12
theorem c_heldIntS (n : Nat) (v : AV) (k : Int) (h : H) (hl : SlI h v (markL mkI 1 k n)) (k1 : 0 ≤ k) (k2 : k ≤ 2 ^ 40) (hn : n ≤ 2 ^ 30) :
    bm Try.prog 41 [v, .one (.int .i64 k)] h = some (ii (k + ((1 * n : Nat) : Int)), h) := by
  refine bm_eq cF41 ?_
  have hlen := hl.len
  rw [markL_len] at hlen
  simp +contextual (maxSteps := 2000000) only [go_sem, Nat.reduceEqDiff, reduceCtorEq, Nat.reduceAdd, Nat.reduceLeDiff, F41]
  refine wpC_loop (fun i T L h' => h' = h ∧ T 0 = .v v ∧ T 1 = .v (.one (.int .i64 (k + ((1 * i : Nat) : Int)))) ∧ T 5 = .v (.one (.int .i64 i))) n ?_ ?_ (Nat.zero_le _) ?_
  · rintro i T L h' hi ⟨rfl, t0, t1, t5⟩
    have hio : i < (markL mkI 1 k n).length := by rw [markL_len]; exact hi
    have hat := markL_at hio
    have hia := hl.iaddr hio (kd := .i64)
    have hf : ∀ off : Nat, off + 1 ≤ 1 → _ := fun off ho => hl.fieldO (off := off) hio ho
    rw [hat] at hf
    have h0 := hl.field0 (c := .int .i64 (k + ((1 * i : Nat) : Int))) hio (by rw [hat]; rfl)
    have wr1 : IntKind.i64.wrap ((k + ((1 * i : Nat) : Int)) + 1) = (k + ((1 * i : Nat) : Int) + 1) := (i64_wrap (by omega) (by omega)).trans (by omega)
    simp +contextual (maxSteps := 2000000) only [go_sem, Nat.reduceEqDiff, reduceCtorEq, Nat.reduceAdd, Nat.reduceLeDiff, t0, t1, t5, hlen, hia, hf, h0, lt_true hi, decide_true, mkI, mBool, wr1]
    rw [show k + ((1 * (i + 1) : Nat) : Int) = (k + ((1 * i : Nat) : Int) + 1) by omega, wrap_next hi (by omega)]
    try exact ⟨rfl, rfl⟩
  · rintro T L h' ⟨rfl, t0, t1, t5⟩
    simp +contextual (maxSteps := 2000000) only [go_sem, Nat.reduceEqDiff, reduceCtorEq, Nat.reduceAdd, Nat.reduceLeDiff, t0, t1, t5, hlen, lt_false]
  · simp +contextual (maxSteps := 2000000) only [go_sem, Nat.reduceEqDiff, reduceCtorEq, Nat.reduceAdd, Nat.reduceLeDiff]
    simp
/-! laws.markStringS -/
def L16_0 : List AStep := [⟨.mov (.c (.int .i64 0)), (some 4), none, []⟩]
theorem v16_0 : VS L16_0.eq_1 := rfl
def L16_1 : List AStep := [⟨.mov (.c (.int .i64 0)), (some 5), none, []⟩]
theorem v16_1 : VS L16_1.eq_1 := rfl
def L16_2 : List AStep := [⟨.len (.t 7), (some 8), none, []⟩, ⟨.bin .lss (.t 6) (.t 8), (some 9), none, []⟩]
theorem v16_2 : VS L16_2.eq_1 := rfl
def L16_3 : List AStep := ⟨.mov (.t 5), (some 6), none, []⟩ :: ⟨.mov (.t 0), (some 7), none, []⟩ :: L16_2
theorem v16_3 : VS L16_3.eq_1 := rfl
def L16_4 : List AStep := [⟨.iaddr 1 (.t 12) (.t 13), (some 16), none, []⟩, ⟨.store 1 (.t 16) (.t 15), none, none, []⟩]
theorem v16_4 : VS L16_4.eq_1 := rfl
def L16_5 : List AStep := ⟨.mov (.t 1), (some 14), none, []⟩ :: ⟨.call 49 [(.t 14)], (some 15), none, []⟩ :: L16_4
theorem v16_5 : VS L16_5.eq_1 := rfl
def L16_6 : List AStep := ⟨.mov (.t 0), (some 12), none, []⟩ :: ⟨.mov (.t 5), (some 13), none, []⟩ :: L16_5
theorem v16_6 : VS L16_6.eq_1 := rfl
def L16_7 : List AStep := [⟨.mov (.t 18), (some 1), none, []⟩]
theorem v16_7 : VS L16_7.eq_1 := rfl
def L16_8 : List AStep := ⟨.mov (.t 1), (some 17), none, []⟩ :: ⟨.bin .add (.t 17) (.c (.int .i64 1)), (some 18), none, []⟩ :: L16_7
theorem v16_8 : VS L16_8.eq_1 := rfl
def L16_9 : List AStep := [⟨.mov (.t 11), (some 5), none, []⟩]
theorem v16_9 : VS L16_9.eq_1 := rfl
def L16_10 : List AStep := ⟨.mov (.t 5), (some 10), none, []⟩ :: ⟨.bin .add (.t 10) (.c (.int .i64 1)), (some 11), none, []⟩ :: L16_9
theorem v16_10 : VS L16_10.eq_1 := rfl
def L16_11 : List AStep := [⟨.mov (.t 1), (some 19), none, []⟩, ⟨.mov (.t 19), (some 4), none, []⟩]
theorem v16_11 : VS L16_11.eq_1 := rfl
def C16_0 : ACode := .cond (.t 9) .skip (.exit 0)
theorem u16_0 : VC C16_0.eq_1 := rfl
def C16_1 : ACode := .seq (.reg L16_3) C16_0
theorem u16_1 : VC C16_1.eq_1 := rfl
def C16_2 : ACode := .seq (.reg L16_6) (.reg L16_8)
theorem u16_2 : VC C16_2.eq_1 := rfl
def C16_3 : ACode := .block 1 C16_2
theorem u16_3 : VC C16_3.eq_1 := rfl
def C16_4 : ACode := .seq C16_3 (.reg L16_10)
theorem u16_4 : VC C16_4.eq_1 := rfl
def C16_5 : ACode := .seq C16_1 C16_4
theorem u16_5 : VC C16_5.eq_1 := rfl
def C16_6 : ACode := .block 0 (.loop C16_5)
theorem u16_6 : VC C16_6.eq_1 := rfl
def C16_7 : ACode := .seq (.reg L16_1) C16_6
theorem u16_7 : VC C16_7.eq_1 := rfl
def C16_8 : ACode := .seq (.reg L16_11) .ret
theorem u16_8 : VC C16_8.eq_1 := rfl
def C16_9 : ACode := .seq C16_7 C16_8
theorem u16_9 : VC C16_9.eq_1 := rfl
def C16_10 : ACode := .seq (.reg L16_0) C16_9
theorem u16_10 : VC C16_10.eq_1 := rfl
def F16 : AFunc := ⟨20, [.tmp 4], C16_10⟩
theorem cF16 : compB Try.prog 16 = some F16 := by kernel_rfl
attribute [local go_sem ↓] u16_0 u16_1 u16_2 u16_3 u16_4 u16_5 u16_6 u16_7 u16_8 u16_9 u16_10 v16_0 v16_1 v16_2 v16_3 v16_4 v16_5 v16_6 v16_7 v16_8 v16_9 v16_10 v16_11
theorem c_markStringS (l : List ByteArray) (v : AV) (k : Int) (h0 h : H) (hl : NwS h0 h v l) (g : Grow h0 h) (k1 : 0 ≤ k) (k2 : k ≤ 2 ^ 40) (hn : l.length ≤ 2 ^ 30) :
    callK (bm Try.prog 16 [v, .one (.int .i64 k)] h) fun r h' => r = ii (k + ((1 * l.length : Nat) : Int)) ∧ Grow h0 h' ∧ NwS h0 h' v (markL mkS 1 k l.length) ∧ Stay v h h' := by
  refine bm_of cF16 ?_
  simp +contextual (maxSteps := 2000000) only [go_sem, Nat.reduceEqDiff, reduceCtorEq, Nat.reduceAdd, Nat.reduceLeDiff, F16]
  refine wpC_loop (fun i T L h' => Grow h0 h' ∧ T 0 = .v v ∧ T 1 = .v (.one (.int .i64 (k + ((1 * i : Nat) : Int)))) ∧ T 5 = .v (.one (.int .i64 i)) ∧ NwS h0 h' v (markT mkS 1 k l i) ∧ Stay v h h') l.length ?_ ?_ (Nat.zero_le _) ?_
  · rintro i T L h' hi ⟨g, t0, t1, t5, no, st⟩
    have hlen : (markT mkS 1 k l i).length = l.length := markT_len (by omega)
    have hio : i < (markT mkS 1 k l i).length := by omega
    have hln := no.length
    rw [hlen] at hln
    have hia := no.iaddr hio (kd := .i64)
    have wr1 : IntKind.i64.wrap ((k + ((1 * i : Nat) : Int)) + 1) = (k + ((1 * i : Nat) : Int) + 1) := (i64_wrap (by omega) (by omega)).trans (by omega)
    simp +contextual (maxSteps := 2000000) only [go_sem, Nat.reduceEqDiff, reduceCtorEq, Nat.reduceAdd, Nat.reduceLeDiff, t0, t1, t5, hln, hia, lt_true hi, wr1, c_markText (k + ((1 * i : Nat) : Int)) _ (by omega)]
    refine wp_setE (x := mtxt (k + ((1 * i : Nat) : Int))) lenS no hio rfl rfl g ?_
    intro h2 g2 n2 s2
    simp +contextual (maxSteps := 2000000) only [go_sem, Nat.reduceEqDiff, reduceCtorEq, Nat.reduceAdd, Nat.reduceLeDiff, t0, t1, t5, hln, hia, wr1, c_markText (k + ((1 * i : Nat) : Int)) _ (by omega)]
    have e : (markT mkS 1 k l i).set i (mkS (k + ((1 * i : Nat) : Int))) = markT mkS 1 k l (i + 1) := markT_set hi
    have n3 : NwS h0 h2 v (markT mkS 1 k l (i + 1)) := by rw [← e]; exact n2
    refine ⟨g2, by rw [show k + ((1 * (i + 1) : Nat) : Int) = (k + ((1 * i : Nat) : Int) + 1) by omega], by rw [wrap_next hi (by omega)], n3, (st.trans s2)⟩
  · rintro T L h' ⟨g, t0, t1, t5, no, st⟩
    have hln := no.length
    rw [markT_len (Nat.le_refl _)] at hln
    simp +contextual (maxSteps := 2000000) only [go_sem, Nat.reduceEqDiff, reduceCtorEq, Nat.reduceAdd, Nat.reduceLeDiff, t0, t1, t5, hln, lt_false]
    rw [markT_all] at no
    exact gcK_of ⟨rfl, g, no, st⟩ (fun _ gg => ⟨rfl, ‹Grow h0 h›, no.back hl gg, (Grow.refl h).stay v⟩)
  · simp +contextual (maxSteps := 2000000) only [go_sem, Nat.reduceEqDiff, reduceCtorEq, Nat.reduceAdd, Nat.reduceLeDiff]
    exact ⟨g, by simp, rfl, by rw [markT_zero]; exact hl, (Grow.refl h).stay v⟩
/-! laws.heldStringS -/
def L17_0 : List AStep := [⟨.mov (.c (.int .i64 0)), (some 4), none, []⟩]
theorem v17_0 : VS L17_0.eq_1 := rfl
def L17_1 : List AStep := [⟨.mov (.c (.int .i64 0)), (some 5), none, []⟩]
theorem v17_1 : VS L17_1.eq_1 := rfl
def L17_2 : List AStep := [⟨.len (.t 7), (some 8), none, []⟩, ⟨.bin .lss (.t 6) (.t 8), (some 9), none, []⟩]
theorem v17_2 : VS L17_2.eq_1 := rfl
def L17_3 : List AStep := ⟨.mov (.t 5), (some 6), none, []⟩ :: ⟨.mov (.t 0), (some 7), none, []⟩ :: L17_2
theorem v17_3 : VS L17_3.eq_1 := rfl
def L17_4 : List AStep := [⟨.bin .neq (.t 15) (.t 17), (some 18), none, []⟩]
theorem v17_4 : VS L17_4.eq_1 := rfl
def L17_5 : List AStep := ⟨.mov (.t 1), (some 16), none, []⟩ :: ⟨.call 49 [(.t 16)], (some 17), none, [(.load 1 false (.t 14), (some 15), none)]⟩ :: L17_4
theorem v17_5 : VS L17_5.eq_1 := rfl
def L17_6 : List AStep := ⟨.iaddr 1 (.t 12) (.t 13), (some 14), none, []⟩ :: ⟨.load 1 false (.t 14), (some 15), none, []⟩ :: L17_5
theorem v17_6 : VS L17_6.eq_1 := rfl
def L17_7 : List AStep := ⟨.mov (.t 0), (some 12), none, []⟩ :: ⟨.mov (.t 5), (some 13), none, []⟩ :: L17_6
theorem v17_7 : VS L17_7.eq_1 := rfl
def L17_8 : List AStep := [⟨.mov (.c (.int .i64 (-1))), (some 4), none, []⟩]
theorem v17_8 : VS L17_8.eq_1 := rfl
def L17_9 : List AStep := [⟨.mov (.t 20), (some 1), none, []⟩]
theorem v17_9 : VS L17_9.eq_1 := rfl
def L17_10 : List AStep := ⟨.mov (.t 1), (some 19), none, []⟩ :: ⟨.bin .add (.t 19) (.c (.int .i64 1)), (some 20), none, []⟩ :: L17_9
theorem v17_10 : VS L17_10.eq_1 := rfl
def L17_11 : List AStep := [⟨.mov (.t 11), (some 5), none, []⟩]
theorem v17_11 : VS L17_11.eq_1 := rfl
def L17_12 : List AStep := ⟨.mov (.t 5), (some 10), none, []⟩ :: ⟨.bin .add (.t 10) (.c (.int .i64 1)), (some 11), none, []⟩ :: L17_11
theorem v17_12 : VS L17_12.eq_1 := rfl
def L17_13 : List AStep := [⟨.mov (.t 1), (some 21), none, []⟩, ⟨.mov (.t 21), (some 4), none, []⟩]
theorem v17_13 : VS L17_13.eq_1 := rfl
def C17_0 : ACode := .cond (.t 9) .skip (.exit 0)
theorem u17_0 : VC C17_0.eq_1 := rfl
def C17_1 : ACode := .seq (.reg L17_3) C17_0
theorem u17_1 : VC C17_1.eq_1 := rfl
def C17_2 : ACode := .seq (.reg L17_8) .ret
theorem u17_2 : VC C17_2.eq_1 := rfl
def C17_3 : ACode := .cond (.t 18) C17_2 .skip
theorem u17_3 : VC C17_3.eq_1 := rfl
def C17_4 : ACode := .seq (.reg L17_7) C17_3
theorem u17_4 : VC C17_4.eq_1 := rfl
def C17_5 : ACode := .seq C17_4 (.reg L17_10)
theorem u17_5 : VC C17_5.eq_1 := rfl
def C17_6 : ACode := .block 1 C17_5
theorem u17_6 : VC C17_6.eq_1 := rfl
def C17_7 : ACode := .seq C17_6 (.reg L17_12)
theorem u17_7 : VC C17_7.eq_1 := rfl
def C17_8 : ACode := .seq C17_1 C17_7
theorem u17_8 : VC C17_8.eq_1 := rfl
def C17_9 : ACode := .block 0 (.loop C17_8)
theorem u17_9 : VC C17_9.eq_1 := rfl
def C17_10 : ACode := .seq (.reg L17_1) C17_9
theorem u17_10 : VC C17_10.eq_1 := rfl
def C17_11 : ACode := .seq (.reg L17_13) .ret
theorem u17_11 : VC C17_11.eq_1 := rfl
def C17_12 : ACode := .seq C17_10 C17_11
theorem u17_12 : VC C17_12.eq_1 := rfl
def C17_13 : ACode := .seq (.reg L17_0) C17_12
theorem u17_13 : VC C17_13.eq_1 := rfl
def F17 : AFunc := ⟨22, [.tmp 4], C17_13⟩
theorem cF17 : compB Try.prog 17 = some F17 := by kernel_rfl
attribute [local go_sem ↓] u17_0 u17_1 u17_2 u17_3 u17_4 u17_5 u17_6 u17_7 u17_8 u17_9 u17_10 u17_11 u17_12 u17_13 v17_0 v17_1 v17_2 v17_3 v17_4 v17_5 v17_6 v17_7 v17_8 v17_9 v17_10 v17_11 v17_12 v17_13
theorem c_heldStringS (n : Nat) (v : AV) (k : Int) (h : H) (hl : SlS h v (markL mkS 1 k n)) (k1 : 0 ≤ k) (k2 : k ≤ 2 ^ 40) (hn : n ≤ 2 ^ 30) :
    bm Try.prog 17 [v, .one (.int .i64 k)] h = some (ii (k + ((1 * n : Nat) : Int)), h) := by
  refine bm_eq cF17 ?_
  have hlen := hl.len
  rw [markL_len] at hlen
  simp +contextual (maxSteps := 2000000) only [go_sem, Nat.reduceEqDiff, reduceCtorEq, Nat.reduceAdd, Nat.reduceLeDiff, F17]
  refine wpC_loop (fun i T L h' => h' = h ∧ T 0 = .v v ∧ T 1 = .v (.one (.int .i64 (k + ((1 * i : Nat) : Int)))) ∧ T 5 = .v (.one (.int .i64 i))) n ?_ ?_ (Nat.zero_le _) ?_
  · rintro i T L h' hi ⟨rfl, t0, t1, t5⟩
    have hio : i < (markL mkS 1 k n).length := by rw [markL_len]; exact hi
    have hat := markL_at hio
    have hia := hl.iaddr hio (kd := .i64)
    have hf : ∀ off : Nat, off + 1 ≤ 1 → _ := fun off ho => hl.fieldO (off := off) hio ho
    rw [hat] at hf
    have h0 := hl.field0 (c := .str (mtxt (k + ((1 * i : Nat) : Int)))) hio (by rw [hat]; rfl)
    have wr1 : IntKind.i64.wrap ((k + ((1 * i : Nat) : Int)) + 1) = (k + ((1 * i : Nat) : Int) + 1) := (i64_wrap (by omega) (by omega)).trans (by omega)
    simp +contextual (maxSteps := 2000000) only [go_sem, Nat.reduceEqDiff, reduceCtorEq, Nat.reduceAdd, Nat.reduceLeDiff, t0, t1, t5, hlen, hia, hf, h0, lt_true hi, decide_true, mkS, mBool, wr1, c_markText (k + ((1 * i : Nat) : Int)) _ (by omega)]
    rw [show k + ((1 * (i + 1) : Nat) : Int) = (k + ((1 * i : Nat) : Int) + 1) by omega, wrap_next hi (by omega)]
    try exact ⟨rfl, rfl⟩
  · rintro T L h' ⟨rfl, t0, t1, t5⟩
    simp +contextual (maxSteps := 2000000) only [go_sem, Nat.reduceEqDiff, reduceCtorEq, Nat.reduceAdd, Nat.reduceLeDiff, t0, t1, t5, hlen, lt_false]
  · simp +contextual (maxSteps := 2000000) only [go_sem, Nat.reduceEqDiff, reduceCtorEq, Nat.reduceAdd, Nat.reduceLeDiff]
    simp
/-! laws.markPairS -/
def L67_0 : List AStep := [⟨.mov (.c (.int .i64 0)), (some 4), none, []⟩]
theorem v67_0 : VS L67_0.eq_1 := rfl
def L67_1 : List AStep := [⟨.mov (.c (.int .i64 0)), (some 5), none, []⟩]
theorem v67_1 : VS L67_1.eq_1 := rfl
def L67_2 : List AStep := [⟨.len (.t 7), (some 8), none, []⟩, ⟨.bin .lss (.t 6) (.t 8), (some 9), none, []⟩]
theorem v67_2 : VS L67_2.eq_1 := rfl
def L67_3 : List AStep := ⟨.mov (.t 5), (some 6), none, []⟩ :: ⟨.mov (.t 0), (some 7), none, []⟩ :: L67_2
theorem v67_3 : VS L67_3.eq_1 := rfl
def L67_4 : List AStep := [⟨.store 1 (.t 17) (.t 15), none, none, []⟩]
theorem v67_4 : VS L67_4.eq_1 := rfl
def L67_5 : List AStep := ⟨.iaddr 2 (.t 12) (.t 13), (some 16), none, []⟩ :: ⟨.faddr 0 (.t 16), (some 17), none, []⟩ :: L67_4
theorem v67_5 : VS L67_5.eq_1 := rfl
def L67_6 : List AStep := ⟨.mov (.t 1), (some 14), none, []⟩ :: ⟨.call 49 [(.t 14)], (some 15), none, []⟩ :: L67_5
theorem v67_6 : VS L67_6.eq_1 := rfl
def L67_7 : List AStep := ⟨.mov (.t 0), (some 12), none, []⟩ :: ⟨.mov (.t 5), (some 13), none, []⟩ :: L67_6
theorem v67_7 : VS L67_7.eq_1 := rfl
def L67_8 : List AStep := [⟨.mov (.t 19), (some 1), none, []⟩]
theorem v67_8 : VS L67_8.eq_1 := rfl
def L67_9 : List AStep := ⟨.mov (.t 1), (some 18), none, []⟩ :: ⟨.bin .add (.t 18) (.c (.int .i64 1)), (some 19), none, []⟩ :: L67_8
theorem v67_9 : VS L67_9.eq_1 := rfl
def L67_10 : List AStep := [⟨.faddr 1 (.t 23), (some 24), none, []⟩, ⟨.store 1 (.t 24) (.t 22), none, none, []⟩]
theorem v67_10 : VS L67_10.eq_1 := rfl
def L67_11 : List AStep := ⟨.mov (.t 1), (some 22), none, []⟩ :: ⟨.iaddr 2 (.t 20) (.t 21), (some 23), none, []⟩ :: L67_10
theorem v67_11 : VS L67_11.eq_1 := rfl
def L67_12 : List AStep := ⟨.mov (.t 0), (some 20), none, []⟩ :: ⟨.mov (.t 5), (some 21), none, []⟩ :: L67_11
theorem v67_12 : VS L67_12.eq_1 := rfl
def L67_13 : List AStep := [⟨.mov (.t 26), (some 1), none, []⟩]
theorem v67_13 : VS L67_13.eq_1 := rfl
def L67_14 : List AStep := ⟨.mov (.t 1), (some 25), none, []⟩ :: ⟨.bin .add (.t 25) (.c (.int .i64 1)), (some 26), none, []⟩ :: L67_13
theorem v67_14 : VS L67_14.eq_1 := rfl
def L67_15 : List AStep := [⟨.mov (.t 11), (some 5), none, []⟩]
theorem v67_15 : VS L67_15.eq_1 := rfl
def L67_16 : List AStep := ⟨.mov (.t 5), (some 10), none, []⟩ :: ⟨.bin .add (.t 10) (.c (.int .i64 1)), (some 11), none, []⟩ :: L67_15
theorem v67_16 : VS L67_16.eq_1 := rfl
def L67_17 : List AStep := [⟨.mov (.t 1), (some 27), none, []⟩, ⟨.mov (.t 27), (some 4), none, []⟩]
theorem v67_17 : VS L67_17.eq_1 := rfl
def C67_0 : ACode := .cond (.t 9) .skip (.exit 0)
theorem u67_0 : VC C67_0.eq_1 := rfl
def C67_1 : ACode := .seq (.reg L67_3) C67_0
theorem u67_1 : VC C67_1.eq_1 := rfl
def C67_2 : ACode := .seq (.reg L67_12) (.reg L67_14)
theorem u67_2 : VC C67_2.eq_1 := rfl
def C67_3 : ACode := .seq (.reg L67_9) C67_2
theorem u67_3 : VC C67_3.eq_1 := rfl
def C67_4 : ACode := .seq (.reg L67_7) C67_3
theorem u67_4 : VC C67_4.eq_1 := rfl
def C67_5 : ACode := .block 1 C67_4
theorem u67_5 : VC C67_5.eq_1 := rfl
def C67_6 : ACode := .seq C67_5 (.reg L67_16)
theorem u67_6 : VC C67_6.eq_1 := rfl
def C67_7 : ACode := .seq C67_1 C67_6
theorem u67_7 : VC C67_7.eq_1 := rfl
def C67_8 : ACode := .block 0 (.loop C67_7)
theorem u67_8 : VC C67_8.eq_1 := rfl
def C67_9 : ACode := .seq (.reg L67_1) C67_8
theorem u67_9 : VC C67_9.eq_1 := rfl
def C67_10 : ACode := .seq (.reg L67_17) .ret
theorem u67_10 : VC C67_10.eq_1 := rfl
def C67_11 : ACode := .seq C67_9 C67_10
theorem u67_11 : VC C67_11.eq_1 := rfl
def C67_12 : ACode := .seq (.reg L67_0) C67_11
theorem u67_12 : VC C67_12.eq_1 := rfl
def F67 : AFunc := ⟨28, [.tmp 4], C67_12⟩
theorem cF67 : compB Try.prog 67 = some F67 := by kernel_rfl
attribute [local go_sem ↓] u67_0 u67_1 u67_2 u67_3 u67_4 u67_5 u67_6 u67_7 u67_8 u67_9 u67_10 u67_11 u67_12 v67_0 v67_1 v67_2 v67_3 v67_4 v67_5 v67_6 v67_7 v67_8 v67_9 v67_10 v67_11 v67_12 v67_13 v67_14 v67_15 v67_16 v67_17
theorem c_markPairS (l : List Pair) (v : AV) (k : Int) (h0 h : H) (hl : NwP h0 h v l) (g : Grow h0 h) (k1 : 0 ≤ k) (k2 : k ≤ 2 ^ 40) (hn : l.length ≤ 2 ^ 30) :
    callK (bm Try.prog 67 [v, .one (.int .i64 k)] h) fun r h' => r = ii (k + ((2 * l.length : Nat) : Int)) ∧ Grow h0 h' ∧ NwP h0 h' v (markL mkP 2 k l.length) ∧ Stay v h h' := by
  refine bm_of cF67 ?_
  simp +contextual (maxSteps := 2000000) only [go_sem, Nat.reduceEqDiff, reduceCtorEq, Nat.reduceAdd, Nat.reduceLeDiff, F67]
  refine wpC_loop (fun i T L h' => Grow h0 h' ∧ T 0 = .v v ∧ T 1 = .v (.one (.int .i64 (k + ((2 * i : Nat) : Int)))) ∧ T 5 = .v (.one (.int .i64 i)) ∧ NwP h0 h' v (markT mkP 2 k l i) ∧ Stay v h h') l.length ?_ ?_ (Nat.zero_le _) ?_
  · rintro i T L h' hi ⟨g, t0, t1, t5, no, st⟩
    have hlen : (markT mkP 2 k l i).length = l.length := markT_len (by omega)
    have hio : i < (markT mkP 2 k l i).length := by omega
    have hln := no.length
    rw [hlen] at hln
    have hia := no.iaddr hio (kd := .i64)
    have wr1 : IntKind.i64.wrap ((k + ((2 * i : Nat) : Int)) + 1) = (k + ((2 * i : Nat) : Int) + 1) := (i64_wrap (by omega) (by omega)).trans (by omega)
    have wr2 : IntKind.i64.wrap ((k + ((2 * i : Nat) : Int) + 1) + 1) = (k + ((2 * i : Nat) : Int) + 2) := (i64_wrap (by omega) (by omega)).trans (by omega)
    simp +contextual (maxSteps := 2000000) only [go_sem, Nat.reduceEqDiff, reduceCtorEq, Nat.reduceAdd, Nat.reduceLeDiff, t0, t1, t5, hln, hia, lt_true hi, wr1, wr2, c_markText (k + ((2 * i : Nat) : Int)) _ (by omega)]
    refine wp_set (x := (⟨mtxt (k + ((2 * i : Nat) : Int)), (markT mkP 2 k l i)[i].value⟩ : Pair)) (off := 0) (vs := [.str (mtxt (k + ((2 * i : Nat) : Int)))]) lenP no (by first | exact hio | (simp only [List.length_set]; exact hio)) rfl (by simp [encP, List.getElem_set_self]) (Nat.le_of_ble_eq_true rfl) g ?_
    intro h2 g2 n2 s2
    try rw [List.set_set] at n2
    simp +contextual (maxSteps := 2000000) only [go_sem, Nat.reduceEqDiff, reduceCtorEq, Nat.reduceAdd, Nat.reduceLeDiff, t0, t1, t5, hln, hia, wr1, wr2, c_markText (k + ((2 * i : Nat) : Int)) _ (by omega)]
    refine wp_set (x := (⟨mtxt (k + ((2 * i : Nat) : Int)), (k + ((2 * i : Nat) : Int) + 1)⟩ : Pair)) (off := 1) (vs := [.int .i64 (k + ((2 * i : Nat) : Int) + 1)]) lenP n2 (by first | exact hio | (simp only [List.length_set]; exact hio)) rfl (by simp [encP, List.getElem_set_self]) (Nat.le_of_ble_eq_true rfl) g2 ?_
    intro h3 g3 n3 s3
    try rw [List.set_set] at n3
    simp +contextual (maxSteps := 2000000) only [go_sem, Nat.reduceEqDiff, reduceCtorEq, Nat.reduceAdd, Nat.reduceLeDiff, t0, t1, t5, hln, hia, wr1, wr2, c_markText (k + ((2 * i : Nat) : Int)) _ (by omega)]
    have e : (markT mkP 2 k l i).set i (mkP (k + ((2 * i : Nat) : Int))) = markT mkP 2 k l (i + 1) := markT_set hi
    have n4 : NwP h0 h3 v (markT mkP 2 k l (i + 1)) := by rw [← e]; exact n3
    refine ⟨g3, by rw [show k + ((2 * (i + 1) : Nat) : Int) = (k + ((2 * i : Nat) : Int) + 2) by omega], by rw [wrap_next hi (by omega)], n4, ((st.trans s2).trans s3)⟩
  · rintro T L h' ⟨g, t0, t1, t5, no, st⟩
    have hln := no.length
    rw [markT_len (Nat.le_refl _)] at hln
    simp +contextual (maxSteps := 2000000) only [go_sem, Nat.reduceEqDiff, reduceCtorEq, Nat.reduceAdd, Nat.reduceLeDiff, t0, t1, t5, hln, lt_false]
    rw [markT_all] at no
    exact gcK_of ⟨rfl, g, no, st⟩ (fun _ gg => ⟨rfl, ‹Grow h0 h›, no.back hl gg, (Grow.refl h).stay v⟩)
  · simp +contextual (maxSteps := 2000000) only [go_sem, Nat.reduceEqDiff, reduceCtorEq, Nat.reduceAdd, Nat.reduceLeDiff]
    exact ⟨g, by simp, rfl, by rw [markT_zero]; exact hl, (Grow.refl h).stay v⟩
/-! laws.heldPairS -/
def L68_0 : List AStep := [⟨.mov (.c (.int .i64 0)), (some 4), none, []⟩]
theorem v68_0 : VS L68_0.eq_1 := rfl
def L68_1 : List AStep := [⟨.mov (.c (.int .i64 0)), (some 5), none, []⟩]
theorem v68_1 : VS L68_1.eq_1 := rfl
def L68_2 : List AStep := [⟨.len (.t 7), (some 8), none, []⟩, ⟨.bin .lss (.t 6) (.t 8), (some 9), none, []⟩]
theorem v68_2 : VS L68_2.eq_1 := rfl
def L68_3 : List AStep := ⟨.mov (.t 5), (some 6), none, []⟩ :: ⟨.mov (.t 0), (some 7), none, []⟩ :: L68_2
theorem v68_3 : VS L68_3.eq_1 := rfl
def L68_4 : List AStep := [⟨.call 49 [(.t 17)], (some 18), none, [(.load 1 false (.t 15), (some 16), none)]⟩, ⟨.bin .neq (.t 16) (.t 18), (some 19), none, []⟩]
theorem v68_4 : VS L68_4.eq_1 := rfl
def L68_5 : List AStep := ⟨.load 1 false (.t 15), (some 16), none, []⟩ :: ⟨.mov (.t 1), (some 17), none, []⟩ :: L68_4
theorem v68_5 : VS L68_5.eq_1 := rfl
def L68_6 : List AStep := ⟨.iaddr 2 (.t 12) (.t 13), (some 14), none, []⟩ :: ⟨.faddr 0 (.t 14), (some 15), none, []⟩ :: L68_5
theorem v68_6 : VS L68_6.eq_1 := rfl
def L68_7 : List AStep := ⟨.mov (.t 0), (some 12), none, []⟩ :: ⟨.mov (.t 5), (some 13), none, []⟩ :: L68_6
theorem v68_7 : VS L68_7.eq_1 := rfl
def L68_8 : List AStep := [⟨.mov (.c (.int .i64 (-1))), (some 4), none, []⟩]
theorem v68_8 : VS L68_8.eq_1 := rfl
def L68_9 : List AStep := [⟨.mov (.t 21), (some 1), none, []⟩]
theorem v68_9 : VS L68_9.eq_1 := rfl
def L68_10 : List AStep := ⟨.mov (.t 1), (some 20), none, []⟩ :: ⟨.bin .add (.t 20) (.c (.int .i64 1)), (some 21), none, []⟩ :: L68_9
theorem v68_10 : VS L68_10.eq_1 := rfl
def L68_11 : List AStep := [⟨.bin .neq (.t 26) (.t 27), (some 28), none, []⟩]
theorem v68_11 : VS L68_11.eq_1 := rfl
def L68_12 : List AStep := ⟨.load 1 false (.t 25), (some 26), none, []⟩ :: ⟨.mov (.t 1), (some 27), none, []⟩ :: L68_11
theorem v68_12 : VS L68_12.eq_1 := rfl
def L68_13 : List AStep := ⟨.iaddr 2 (.t 22) (.t 23), (some 24), none, []⟩ :: ⟨.faddr 1 (.t 24), (some 25), none, []⟩ :: L68_12
theorem v68_13 : VS L68_13.eq_1 := rfl
def L68_14 : List AStep := ⟨.mov (.t 0), (some 22), none, []⟩ :: ⟨.mov (.t 5), (some 23), none, []⟩ :: L68_13
theorem v68_14 : VS L68_14.eq_1 := rfl
def L68_15 : List AStep := [⟨.mov (.c (.int .i64 (-1))), (some 4), none, []⟩]
theorem v68_15 : VS L68_15.eq_1 := rfl
def L68_16 : List AStep := [⟨.mov (.t 30), (some 1), none, []⟩]
theorem v68_16 : VS L68_16.eq_1 := rfl
def L68_17 : List AStep := ⟨.mov (.t 1), (some 29), none, []⟩ :: ⟨.bin .add (.t 29) (.c (.int .i64 1)), (some 30), none, []⟩ :: L68_16
theorem v68_17 : VS L68_17.eq_1 := rfl
def L68_18 : List AStep := [⟨.mov (.t 11), (some 5), none, []⟩]
theorem v68_18 : VS L68_18.eq_1 := rfl
def L68_19 : List AStep := ⟨.mov (.t 5), (some 10), none, []⟩ :: ⟨.bin .add (.t 10) (.c (.int .i64 1)), (some 11), none, []⟩ :: L68_18
theorem v68_19 : VS L68_19.eq_1 := rfl
def L68_20 : List AStep := [⟨.mov (.t 1), (some 31), none, []⟩, ⟨.mov (.t 31), (some 4), none, []⟩]
theorem v68_20 : VS L68_20.eq_1 := rfl
def C68_0 : ACode := .cond (.t 9) .skip (.exit 0)
theorem u68_0 : VC C68_0.eq_1 := rfl
def C68_1 : ACode := .seq (.reg L68_3) C68_0
theorem u68_1 : VC C68_1.eq_1 := rfl
def C68_2 : ACode := .seq (.reg L68_8) .ret
theorem u68_2 : VC C68_2.eq_1 := rfl
def C68_3 : ACode := .cond (.t 19) C68_2 .skip
theorem u68_3 : VC C68_3.eq_1 := rfl
def C68_4 : ACode := .seq (.reg L68_7) C68_3
theorem u68_4 : VC C68_4.eq_1 := rfl
def C68_5 : ACode := .seq (.reg L68_15) .ret
theorem u68_5 : VC C68_5.eq_1 := rfl
def C68_6 : ACode := .cond (.t 28) C68_5 .skip
theorem u68_6 : VC C68_6.eq_1 := rfl
def C68_7 : ACode := .seq (.reg L68_14) C68_6
theorem u68_7 : VC C68_7.eq_1 := rfl
def C68_8 : ACode := .seq C68_7 (.reg L68_17)
theorem u68_8 : VC C68_8.eq_1 := rfl
def C68_9 : ACode := .seq (.reg L68_10) C68_8
theorem u68_9 : VC C68_9.eq_1 := rfl
def C68_10 : ACode := .seq C68_4 C68_9
theorem u68_10 : VC C68_10.eq_1 := rfl
def C68_11 : ACode := .block 1 C68_10
theorem u68_11 : VC C68_11.eq_1 := rfl
def C68_12 : ACode := .seq C68_11 (.reg L68_19)
theorem u68_12 : VC C68_12.eq_1 := rfl
def C68_13 : ACode := .seq C68_1 C68_12
theorem u68_13 : VC C68_13.eq_1 := rfl
def C68_14 : ACode := .block 0 (.loop C68_13)
theorem u68_14 : VC C68_14.eq_1 := rfl
def C68_15 : ACode := .seq (.reg L68_1) C68_14
theorem u68_15 : VC C68_15.eq_1 := rfl
def C68_16 : ACode := .seq (.reg L68_20) .ret
theorem u68_16 : VC C68_16.eq_1 := rfl
def C68_17 : ACode := .seq C68_15 C68_16
theorem u68_17 : VC C68_17.eq_1 := rfl
def C68_18 : ACode := .seq (.reg L68_0) C68_17
theorem u68_18 : VC C68_18.eq_1 := rfl
def F68 : AFunc := ⟨32, [.tmp 4], C68_18⟩
theorem cF68 : compB Try.prog 68 = some F68 := by kernel_rfl
attribute [local go_sem ↓] u68_0 u68_1 u68_2 u68_3 u68_4 u68_5 u68_6 u68_7 u68_8 u68_9 u68_10 u68_11 u68_12 u68_13 u68_14 u68_15 u68_16 u68_17 u68_18 v68_0 v68_1 v68_2 v68_3 v68_4 v68_5 v68_6 v68_7 v68_8 v68_9 v68_10 v68_11 v68_12 v68_13 v68_14 v68_15 v68_16 v68_17 v68_18 v68_19 v68_20
theorem c_heldPairS (n : Nat) (v : AV) (k : Int) (h : H) (hl : SlP h v (markL mkP 2 k n)) (k1 : 0 ≤ k) (k2 : k ≤ 2 ^ 40) (hn : n ≤ 2 ^ 30) :
    bm Try.prog 68 [v, .one (.int .i64 k)] h = some (ii (k + ((2 * n : Nat) : Int)), h) := by
  refine bm_eq cF68 ?_
  have hlen := hl.len
  rw [markL_len] at hlen
  simp +contextual (maxSteps := 2000000) only [go_sem, Nat.reduceEqDiff, reduceCtorEq, Nat.reduceAdd, Nat.reduceLeDiff, F68]
  refine wpC_loop (fun i T L h' => h' = h ∧ T 0 = .v v ∧ T 1 = .v (.one (.int .i64 (k + ((2 * i : Nat) : Int)))) ∧ T 5 = .v (.one (.int .i64 i))) n ?_ ?_ (Nat.zero_le _) ?_
  · rintro i T L h' hi ⟨rfl, t0, t1, t5⟩
    have hio : i < (markL mkP 2 k n).length := by rw [markL_len]; exact hi
    have hat := markL_at hio
    have hia := hl.iaddr hio (kd := .i64)
    have hf : ∀ off : Nat, off + 1 ≤ 2 → _ := fun off ho => hl.fieldO (off := off) hio ho
    rw [hat] at hf
    have h0 := hl.field0 (c := .str (mtxt (k + ((2 * i : Nat) : Int)))) hio (by rw [hat]; rfl)
    have wr1 : IntKind.i64.wrap ((k + ((2 * i : Nat) : Int)) + 1) = (k + ((2 * i : Nat) : Int) + 1) := (i64_wrap (by omega) (by omega)).trans (by omega)
    have wr2 : IntKind.i64.wrap ((k + ((2 * i : Nat) : Int) + 1) + 1) = (k + ((2 * i : Nat) : Int) + 2) := (i64_wrap (by omega) (by omega)).trans (by omega)
    simp +contextual (maxSteps := 2000000) only [go_sem, Nat.reduceEqDiff, reduceCtorEq, Nat.reduceAdd, Nat.reduceLeDiff, t0, t1, t5, hlen, hia, hf, h0, lt_true hi, decide_true, mkP, mBool, wr1, wr2, c_markText (k + ((2 * i : Nat) : Int)) _ (by omega)]
    rw [show k + ((2 * (i + 1) : Nat) : Int) = (k + ((2 * i : Nat) : Int) + 2) by omega, wrap_next hi (by omega)]
    try exact ⟨rfl, rfl⟩
  · rintro T L h' ⟨rfl, t0, t1, t5⟩
    simp +contextual (maxSteps := 2000000) only [go_sem, Nat.reduceEqDiff, reduceCtorEq, Nat.reduceAdd, Nat.reduceLeDiff, t0, t1, t5, hlen, lt_false]
  · simp +contextual (maxSteps := 2000000) only [go_sem, Nat.reduceEqDiff, reduceCtorEq, Nat.reduceAdd, Nat.reduceLeDiff]
    simp
/-! laws.markParamS -/
def L66_0 : List AStep := [⟨.mov (.c (.int .i64 0)), (some 4), none, []⟩]
theorem v66_0 : VS L66_0.eq_1 := rfl
def L66_1 : List AStep := [⟨.mov (.c (.int .i64 0)), (some 5), none, []⟩]
theorem v66_1 : VS L66_1.eq_1 := rfl
def L66_2 : List AStep := [⟨.len (.t 7), (some 8), none, []⟩, ⟨.bin .lss (.t 6) (.t 8), (some 9), none, []⟩]
theorem v66_2 : VS L66_2.eq_1 := rfl
def L66_3 : List AStep := ⟨.mov (.t 5), (some 6), none, []⟩ :: ⟨.mov (.t 0), (some 7), none, []⟩ :: L66_2
theorem v66_3 : VS L66_3.eq_1 := rfl
def L66_4 : List AStep := [⟨.store 1 (.t 17) (.t 15), none, none, []⟩]
theorem v66_4 : VS L66_4.eq_1 := rfl
def L66_5 : List AStep := ⟨.iaddr 4 (.t 12) (.t 13), (some 16), none, []⟩ :: ⟨.faddr 0 (.t 16), (some 17), none, []⟩ :: L66_4
theorem v66_5 : VS L66_5.eq_1 := rfl
def L66_6 : List AStep := ⟨.mov (.t 1), (some 14), none, []⟩ :: ⟨.call 49 [(.t 14)], (some 15), none, []⟩ :: L66_5
theorem v66_6 : VS L66_6.eq_1 := rfl
def L66_7 : List AStep := ⟨.mov (.t 0), (some 12), none, []⟩ :: ⟨.mov (.t 5), (some 13), none, []⟩ :: L66_6
theorem v66_7 : VS L66_7.eq_1 := rfl
def L66_8 : List AStep := [⟨.mov (.t 19), (some 1), none, []⟩]
theorem v66_8 : VS L66_8.eq_1 := rfl
def L66_9 : List AStep := ⟨.mov (.t 1), (some 18), none, []⟩ :: ⟨.bin .add (.t 18) (.c (.int .i64 1)), (some 19), none, []⟩ :: L66_8
theorem v66_9 : VS L66_9.eq_1 := rfl
def L66_10 : List AStep := [⟨.faddr 1 (.t 23), (some 24), none, []⟩, ⟨.store 1 (.t 24) (.t 22), none, none, []⟩]
theorem v66_10 : VS L66_10.eq_1 := rfl
def L66_11 : List AStep := ⟨.mov (.t 1), (some 22), none, []⟩ :: ⟨.iaddr 4 (.t 20) (.t 21), (some 23), none, []⟩ :: L66_10
theorem v66_11 : VS L66_11.eq_1 := rfl
def L66_12 : List AStep := ⟨.mov (.t 0), (some 20), none, []⟩ :: ⟨.mov (.t 5), (some 21), none, []⟩ :: L66_11
theorem v66_12 : VS L66_12.eq_1 := rfl
def L66_13 : List AStep := [⟨.mov (.t 26), (some 1), none, []⟩]
theorem v66_13 : VS L66_13.eq_1 := rfl
def L66_14 : List AStep := ⟨.mov (.t 1), (some 25), none, []⟩ :: ⟨.bin .add (.t 25) (.c (.int .i64 1)), (some 26), none, []⟩ :: L66_13
theorem v66_14 : VS L66_14.eq_1 := rfl
def L66_15 : List AStep := [⟨.faddr 2 (.t 32), (some 33), none, []⟩, ⟨.store 1 (.t 33) (.t 31), none, none, []⟩]
theorem v66_15 : VS L66_15.eq_1 := rfl
def L66_16 : List AStep := ⟨.bin .eql (.t 30) (.c (.int .i64 0)), (some 31), none, []⟩ :: ⟨.iaddr 4 (.t 27) (.t 28), (some 32), none, []⟩ :: L66_15
theorem v66_16 : VS L66_16.eq_1 := rfl
def L66_17 : List AStep := ⟨.mov (.t 1), (some 29), none, []⟩ :: ⟨.bin .rem (.t 29) (.c (.int .i64 3)), (some 30), none, []⟩ :: L66_16
theorem v66_17 : VS L66_17.eq_1 := rfl
def L66_18 : List AStep := ⟨.mov (.t 0), (some 27), none, []⟩ :: ⟨.mov (.t 5), (some 28), none, []⟩ :: L66_17
theorem v66_18 : VS L66_18.eq_1 := rfl
def L66_19 : List AStep := [⟨.mov (.t 35), (some 1), none, []⟩]
theorem v66_19 : VS L66_19.eq_1 := rfl
def L66_20 : List AStep := ⟨.mov (.t 1), (some 34), none, []⟩ :: ⟨.bin .add (.t 34) (.c (.int .i64 1)), (some 35), none, []⟩ :: L66_19
theorem v66_20 : VS L66_20.eq_1 := rfl
def L66_21 : List AStep := [⟨.faddr 3 (.t 39), (some 40), none, []⟩, ⟨.store 1 (.t 40) (.t 38), none, none, []⟩]
theorem v66_21 : VS L66_21.eq_1 := rfl
def L66_22 : List AStep := ⟨.mov (.t 1), (some 38), none, []⟩ :: ⟨.iaddr 4 (.t 36) (.t 37), (some 39), none, []⟩ :: L66_21
theorem v66_22 : VS L66_22.eq_1 := rfl
def L66_23 : List AStep := ⟨.mov (.t 0), (some 36), none, []⟩ :: ⟨.mov (.t 5), (some 37), none, []⟩ :: L66_22
theorem v66_23 : VS L66_23.eq_1 := rfl
def L66_24 : List AStep := [⟨.mov (.t 42), (some 1), none, []⟩]
theorem v66_24 : VS L66_24.eq_1 := rfl
def L66_25 : List AStep := ⟨.mov (.t 1), (some 41), none, []⟩ :: ⟨.bin .add (.t 41) (.c (.int .i64 1)), (some 42), none, []⟩ :: L66_24
theorem v66_25 : VS L66_25.eq_1 := rfl
def L66_26 : List AStep := [⟨.mov (.t 11), (some 5), none, []⟩]
theorem v66_26 : VS L66_26.eq_1 := rfl
def L66_27 : List AStep := ⟨.mov (.t 5), (some 10), none, []⟩ :: ⟨.bin .add (.t 10) (.c (.int .i64 1)), (some 11), none, []⟩ :: L66_26
theorem v66_27 : VS L66_27.eq_1 := rfl
def L66_28 : List AStep := [⟨.mov (.t 1), (some 43), none, []⟩, ⟨.mov (.t 43), (some 4), none, []⟩]
theorem v66_28 : VS L66_28.eq_1 := rfl
def C66_0 : ACode := .cond (.t 9) .skip (.exit 0)
theorem u66_0 : VC C66_0.eq_1 := rfl
def C66_1 : ACode := .seq (.reg L66_3) C66_0
theorem u66_1 : VC C66_1.eq_1 := rfl
def C66_2 : ACode := .seq (.reg L66_23) (.reg L66_25)
theorem u66_2 : VC C66_2.eq_1 := rfl
def C66_3 : ACode := .seq (.reg L66_20) C66_2
theorem u66_3 : VC C66_3.eq_1 := rfl
def C66_4 : ACode := .seq (.reg L66_18) C66_3
theorem u66_4 : VC C66_4.eq_1 := rfl
def C66_5 : ACode := .seq (.reg L66_14) C66_4
theorem u66_5 : VC C66_5.eq_1 := rfl
def C66_6 : ACode := .seq (.reg L66_12) C66_5
theorem u66_6 : VC C66_6.eq_1 := rfl
def C66_7 : ACode := .seq (.reg L66_9) C66_6
theorem u66_7 : VC C66_7.eq_1 := rfl
def C66_8 : ACode := .seq (.reg L66_7) C66_7
theorem u66_8 : VC C66_8.eq_1 := rfl
def C66_9 : ACode := .block 1 C66_8
theorem u66_9 : VC C66_9.eq_1 := rfl
def C66_10 : ACode := .seq C66_9 (.reg L66_27)
theorem u66_10 : VC C66_10.eq_1 := rfl
def C66_11 : ACode := .seq C66_1 C66_10
theorem u66_11 : VC C66_11.eq_1 := rfl
def C66_12 : ACode := .block 0 (.loop C66_11)
theorem u66_12 : VC C66_12.eq_1 := rfl
def C66_13 : ACode := .seq (.reg L66_1) C66_12
theorem u66_13 : VC C66_13.eq_1 := rfl
def C66_14 : ACode := .seq (.reg L66_28) .ret
theorem u66_14 : VC C66_14.eq_1 := rfl
def C66_15 : ACode := .seq C66_13 C66_14
theorem u66_15 : VC C66_15.eq_1 := rfl
def C66_16 : ACode := .seq (.reg L66_0) C66_15
theorem u66_16 : VC C66_16.eq_1 := rfl
def F66 : AFunc := ⟨44, [.tmp 4], C66_16⟩
theorem cF66 : compB Try.prog 66 = some F66 := by kernel_rfl
attribute [local go_sem ↓] u66_0 u66_1 u66_2 u66_3 u66_4 u66_5 u66_6 u66_7 u66_8 u66_9 u66_10 u66_11 u66_12 u66_13 u66_14 u66_15 u66_16 v66_0 v66_1 v66_2 v66_3 v66_4 v66_5 v66_6 v66_7 v66_8 v66_9 v66_10 v66_11 v66_12 v66_13 v66_14 v66_15 v66_16 v66_17 v66_18 v66_19 v66_20 v66_21 v66_22 v66_23 v66_24 v66_25 v66_26 v66_27 v66_28
theorem c_markParamS (l : List Param) (v : AV) (k : Int) (h0 h : H) (hl : NwQ h0 h v l) (g : Grow h0 h) (k1 : 0 ≤ k) (k2 : k ≤ 2 ^ 40) (hn : l.length ≤ 2 ^ 30) :
    callK (bm Try.prog 66 [v, .one (.int .i64 k)] h) fun r h' => r = ii (k + ((4 * l.length : Nat) : Int)) ∧ Grow h0 h' ∧ NwQ h0 h' v (markL mkQ 4 k l.length) ∧ Stay v h h' := by
  refine bm_of cF66 ?_
  simp +contextual (maxSteps := 2000000) only [go_sem, Nat.reduceEqDiff, reduceCtorEq, Nat.reduceAdd, Nat.reduceLeDiff, F66]
  refine wpC_loop (fun i T L h' => Grow h0 h' ∧ T 0 = .v v ∧ T 1 = .v (.one (.int .i64 (k + ((4 * i : Nat) : Int)))) ∧ T 5 = .v (.one (.int .i64 i)) ∧ NwQ h0 h' v (markT mkQ 4 k l i) ∧ Stay v h h') l.length ?_ ?_ (Nat.zero_le _) ?_
  · rintro i T L h' hi ⟨g, t0, t1, t5, no, st⟩
    have hlen : (markT mkQ 4 k l i).length = l.length := markT_len (by omega)
    have hio : i < (markT mkQ 4 k l i).length := by omega
    have hln := no.length
    rw [hlen] at hln
    have hia := no.iaddr hio (kd := .i64)
    have wr1 : IntKind.i64.wrap ((k + ((4 * i : Nat) : Int)) + 1) = (k + ((4 * i : Nat) : Int) + 1) := (i64_wrap (by omega) (by omega)).trans (by omega)
    have wr2 : IntKind.i64.wrap ((k + ((4 * i : Nat) : Int) + 1) + 1) = (k + ((4 * i : Nat) : Int) + 2) := (i64_wrap (by omega) (by omega)).trans (by omega)
    have wr3 : IntKind.i64.wrap ((k + ((4 * i : Nat) : Int) + 2) + 1) = (k + ((4 * i : Nat) : Int) + 3) := (i64_wrap (by omega) (by omega)).trans (by omega)
    have wr4 : IntKind.i64.wrap ((k + ((4 * i : Nat) : Int) + 3) + 1) = (k + ((4 * i : Nat) : Int) + 4) := (i64_wrap (by omega) (by omega)).trans (by omega)
    simp +contextual (maxSteps := 2000000) only [go_sem, Nat.reduceEqDiff, reduceCtorEq, Nat.reduceAdd, Nat.reduceLeDiff, t0, t1, t5, hln, hia, lt_true hi, wr1, wr2, wr3, wr4, c_markText (k + ((4 * i : Nat) : Int)) _ (by omega), bin_rem (k := .i64) (a := (k + ((4 * i : Nat) : Int) + 2)) (b := 3) (by decide)]
    refine wp_set (x := (⟨mtxt (k + ((4 * i : Nat) : Int)), (markT mkQ 4 k l i)[i].kind, (markT mkQ 4 k l i)[i].has, (markT mkQ 4 k l i)[i].dflt⟩ : Param)) (off := 0) (vs := [.str (mtxt (k + ((4 * i : Nat) : Int)))]) lenQ no (by first | exact hio | (simp only [List.length_set]; exact hio)) rfl (by simp [encQ, List.getElem_set_self]) (Nat.le_of_ble_eq_true rfl) g ?_
    intro h2 g2 n2 s2
    try rw [List.set_set] at n2
    simp +contextual (maxSteps := 2000000) only [go_sem, Nat.reduceEqDiff, reduceCtorEq, Nat.reduceAdd, Nat.reduceLeDiff, t0, t1, t5, hln, hia, wr1, wr2, wr3, wr4, c_markText (k + ((4 * i : Nat) : Int)) _ (by omega), bin_rem (k := .i64) (a := (k + ((4 * i : Nat) : Int) + 2)) (b := 3) (by decide)]
    refine wp_set (x := (⟨mtxt (k + ((4 * i : Nat) : Int)), (k + ((4 * i : Nat) : Int) + 1), (markT mkQ 4 k l i)[i].has, (markT mkQ 4 k l i)[i].dflt⟩ : Param)) (off := 1) (vs := [.int .i64 (k + ((4 * i : Nat) : Int) + 1)]) lenQ n2 (by first | exact hio | (simp only [List.length_set]; exact hio)) rfl (by simp [encQ, List.getElem_set_self]) (Nat.le_of_ble_eq_true rfl) g2 ?_
    intro h3 g3 n3 s3
    try rw [List.set_set] at n3
    simp +contextual (maxSteps := 2000000) only [go_sem, Nat.reduceEqDiff, reduceCtorEq, Nat.reduceAdd, Nat.reduceLeDiff, t0, t1, t5, hln, hia, wr1, wr2, wr3, wr4, c_markText (k + ((4 * i : Nat) : Int)) _ (by omega), bin_rem (k := .i64) (a := (k + ((4 * i : Nat) : Int) + 2)) (b := 3) (by decide)]
    refine wp_set (x := (⟨mtxt (k + ((4 * i : Nat) : Int)), (k + ((4 * i : Nat) : Int) + 1), mBool (k + ((4 * i : Nat) : Int) + 2), (markT mkQ 4 k l i)[i].dflt⟩ : Param)) (off := 2) (vs := [.bool (mBool (k + ((4 * i : Nat) : Int) + 2))]) lenQ n3 (by first | exact hio | (simp only [List.length_set]; exact hio)) rfl (by simp [encQ, List.getElem_set_self]) (Nat.le_of_ble_eq_true rfl) g3 ?_
    intro h4 g4 n4 s4
    try rw [List.set_set] at n4
    simp +contextual (maxSteps := 2000000) only [go_sem, Nat.reduceEqDiff, reduceCtorEq, Nat.reduceAdd, Nat.reduceLeDiff, t0, t1, t5, hln, hia, wr1, wr2, wr3, wr4, c_markText (k + ((4 * i : Nat) : Int)) _ (by omega), bin_rem (k := .i64) (a := (k + ((4 * i : Nat) : Int) + 2)) (b := 3) (by decide)]
    refine wp_set (x := (⟨mtxt (k + ((4 * i : Nat) : Int)), (k + ((4 * i : Nat) : Int) + 1), mBool (k + ((4 * i : Nat) : Int) + 2), (k + ((4 * i : Nat) : Int) + 3)⟩ : Param)) (off := 3) (vs := [.int .i64 (k + ((4 * i : Nat) : Int) + 3)]) lenQ n4 (by first | exact hio | (simp only [List.length_set]; exact hio)) rfl (by simp [encQ, List.getElem_set_self]) (Nat.le_of_ble_eq_true rfl) g4 ?_
    intro h5 g5 n5 s5
    try rw [List.set_set] at n5
    simp +contextual (maxSteps := 2000000) only [go_sem, Nat.reduceEqDiff, reduceCtorEq, Nat.reduceAdd, Nat.reduceLeDiff, t0, t1, t5, hln, hia, wr1, wr2, wr3, wr4, c_markText (k + ((4 * i : Nat) : Int)) _ (by omega), bin_rem (k := .i64) (a := (k + ((4 * i : Nat) : Int) + 2)) (b := 3) (by decide)]
    have e : (markT mkQ 4 k l i).set i (mkQ (k + ((4 * i : Nat) : Int))) = markT mkQ 4 k l (i + 1) := markT_set hi
    have n6 : NwQ h0 h5 v (markT mkQ 4 k l (i + 1)) := by rw [← e]; exact n5
    refine ⟨g5, by rw [show k + ((4 * (i + 1) : Nat) : Int) = (k + ((4 * i : Nat) : Int) + 4) by omega], by rw [wrap_next hi (by omega)], n6, ((((st.trans s2).trans s3).trans s4).trans s5)⟩
  · rintro T L h' ⟨g, t0, t1, t5, no, st⟩
    have hln := no.length
    rw [markT_len (Nat.le_refl _)] at hln
    simp +contextual (maxSteps := 2000000) only [go_sem, Nat.reduceEqDiff, reduceCtorEq, Nat.reduceAdd, Nat.reduceLeDiff, t0, t1, t5, hln, lt_false]
    rw [markT_all] at no
    exact gcK_of ⟨rfl, g, no, st⟩ (fun _ gg => ⟨rfl, ‹Grow h0 h›, no.back hl gg, (Grow.refl h).stay v⟩)
  · simp +contextual (maxSteps := 2000000) only [go_sem, Nat.reduceEqDiff, reduceCtorEq, Nat.reduceAdd, Nat.reduceLeDiff]
    exact ⟨g, by simp, rfl, by rw [markT_zero]; exact hl, (Grow.refl h).stay v⟩
end Go.Proofs.Ytdalgphpacikkab.Am
