/- Contracts of the laws: copies, marks, and what is held of them. -/
import Derived.Test.YtcbnihbilmlokaaDat
namespace Go.Proofs.Ytcbnihbilmlokaa.Am
open Go
set_option maxRecDepth 100000
set_option maxHeartbeats 4000000
set_option linter.unusedSimpArgs false
set_option linter.unusedVariables false
attribute [local go_sem ↓] bv_t bv_c ev_t ev_c put_same put_ne put_none kill_at pro_at lb_same lb_ne start_zero start_succ wpC_seq wpC_reg wpC_cond wpC_block wpC_skip wpC_exit wpC_ret thenQ_normal thenQ_exit thenQ_ret inBlk_normal inBlk_exit inBlk_ret wpS_nil wpS_step wpS_again wpS_guard wpO_mov wpO_load wpO_faddr wpO_nilCheck wpO_pick wpO_build wpO_bin wpO_eqb wpO_eqst wpO_eqnil wpO_not wpO_conv wpO_bytesStr wpO_iaddr wpO_idxStr wpO_field wpO_extract wpO_len wpO_lenStr wpO_cap wpO_min wpO_slice wpO_sliceStr wpO_alloc wpO_box wpO_store wpO_call wpO_callv wpO_mkfn wpO_buildSlice wpO_mkslice wpO_append wpO_appz proA_nil proA_cons tmpX_nil tmpX_tmp tmpX_cell doneB_normal doneB_ret agK_cons agK_nil pureB_load results_one results_two results_nil resBs_cons resBs_nil resB_tmp resB_cell
attribute [local go_sem] kill_v kill_lp_ne kill_lp_same pro_v pro_lp_same pro_lp_ne av_v av_lp optB_some optX_some valX_eq ldX_lp ldX_v faX_lp faX_v ncX_lp ncX_ptr ncX_fn boxK_one boxK_agg stL_some stK_lp_one stK_lp_agg stK_v_one stK_v_agg proM_v proM_lp callG_mk callVG_mk callvK_fn fnG_mk ptrsA_nil ptrsA_cons callH_some whenA_true whenA_false guardH_tt guardH_ff guardH_tf guardH_ft guardH_undef agV_one agV_agg lenO_sl lenStrO_str notO_bool pickO_bool convO_int eqbO_bool eqnilO_sl extractO_tup capO_sl minO_int loadL_one loadL_all storeL_eq fillA_nil fillA_one fillA_agg nat_ge neg_ge nat_lt neg_lt buildO bin_add bin_sub bin_mul bin_eql bin_neq bin_lss bin_leq bin_gtr bin_geq str_eql str_neq str_lss str_leq str_gtr str_geq retK_some endK_mk gcK_same gcK_int gcK_bool tupO_one tupO_agg rdy_self ib ii Option.map_none Option.map_some Option.some.injEq exists_eq_left' exists_eq_left ne_eq not_false_eq_true if_true if_false List.map_cons List.map_nil List.getElem?_cons_zero List.getElem?_cons_succ List.length_cons List.length_nil List.take_succ_cons List.take_zero List.take_nil List.drop_succ_cons List.drop_zero List.drop_nil List.cons_append List.nil_append List.append_nil List.set_cons_zero List.set_cons_succ Nat.zero_add forall_const true_and and_true and_self Bool.false_eq_true false_implies true_implies implies_true Bool.not_true Bool.not_false Bool.not_eq_true' Bool.not_eq_false' beq_self_eq_true Bool.bne_true Bool.bne_false
attribute [local go_sem] lenI lenS lenP lenQ lenB lenL lenT encI_0 encS_0 encP_0 encP_1 encQ_0 encQ_1 encQ_2 encQ_3 encB_0 encB_1 encL_0 encL_1 encT_0 encT_1
attribute [local go_sem low] whenA_bool guardH_bool
def encU (n : Int) : List CV := [.int .u8 n]
section
variable {P : Program} {T : Tb} {L : Lb} {h : H} {Q : PostC} {K : Post}
/-! laws.markText -/
def L89_0 : List AStep := [⟨.mov (.c (.str (strOfNums []))), (some 2), none, []⟩]
theorem v89_0 : wpS P L89_0 T L (rdy h) K = wpS P ([⟨.mov (.c (.str (strOfNums []))), (some 2), none, []⟩]) T L (rdy h) K := rfl
def L89_1 : List AStep := [⟨.mov (.t 0), (some 4), none, []⟩, ⟨.bin .leq (.t 4) (.c (.int .i64 0)), (some 5), none, []⟩]
theorem v89_1 : wpS P L89_1 T L (rdy h) K = wpS P ([⟨.mov (.t 0), (some 4), none, []⟩, ⟨.bin .leq (.t 4) (.c (.int .i64 0)), (some 5), none, []⟩]) T L (rdy h) K := rfl
def L89_2 : List AStep := [⟨.mov (.c (.str (strOfNums [109, 48]))), (some 2), none, []⟩]
theorem v89_2 : wpS P L89_2 T L (rdy h) K = wpS P ([⟨.mov (.c (.str (strOfNums [109, 48]))), (some 2), none, []⟩]) T L (rdy h) K := rfl
def L89_3 : List AStep := [⟨.mov (.c (.str (strOfNums []))), (some 3), none, []⟩]
theorem v89_3 : wpS P L89_3 T L (rdy h) K = wpS P ([⟨.mov (.c (.str (strOfNums []))), (some 3), none, []⟩]) T L (rdy h) K := rfl
def L89_4 : List AStep := [⟨.mov (.t 0), (some 6), none, []⟩, ⟨.bin .gtr (.t 6) (.c (.int .i64 0)), (some 7), none, []⟩]
theorem v89_4 : wpS P L89_4 T L (rdy h) K = wpS P ([⟨.mov (.t 0), (some 6), none, []⟩, ⟨.bin .gtr (.t 6) (.c (.int .i64 0)), (some 7), none, []⟩]) T L (rdy h) K := rfl
def L89_5 : List AStep := [⟨.mov (.t 15), (some 3), none, []⟩]
theorem v89_5 : wpS P L89_5 T L (rdy h) K = wpS P ([⟨.mov (.t 15), (some 3), none, []⟩]) T L (rdy h) K := rfl
def L89_6 : List AStep := ⟨.mov (.t 3), (some 14), none, []⟩ :: ⟨.bin .add (.t 13) (.t 14), (some 15), none, []⟩ :: L89_5
theorem v89_6 : wpS P L89_6 T L (rdy h) K = wpS P (⟨.mov (.t 3), (some 14), none, []⟩ :: ⟨.bin .add (.t 13) (.t 14), (some 15), none, []⟩ :: L89_5) T L (rdy h) K := rfl
def L89_7 : List AStep := ⟨.buildSlice 5 1 [(.int .u8 0)] [(0, 1, (.t 11))], (some 12), none, []⟩ :: ⟨.bytesStr (.t 12), (some 13), none, []⟩ :: L89_6
theorem v89_7 : wpS P L89_7 T L (rdy h) K = wpS P (⟨.buildSlice 5 1 [(.int .u8 0)] [(0, 1, (.t 11))], (some 12), none, []⟩ :: ⟨.bytesStr (.t 12), (some 13), none, []⟩ :: L89_6) T L (rdy h) K := rfl
def L89_8 : List AStep := ⟨.bin .add (.c (.int .i64 48)) (.t 9), (some 10), none, []⟩ :: ⟨.conv .u8 (.t 10), (some 11), none, []⟩ :: L89_7
theorem v89_8 : wpS P L89_8 T L (rdy h) K = wpS P (⟨.bin .add (.c (.int .i64 48)) (.t 9), (some 10), none, []⟩ :: ⟨.conv .u8 (.t 10), (some 11), none, []⟩ :: L89_7) T L (rdy h) K := rfl
def L89_9 : List AStep := ⟨.mov (.t 0), (some 8), none, []⟩ :: ⟨.bin .rem (.t 8) (.c (.int .i64 10)), (some 9), none, []⟩ :: L89_8
theorem v89_9 : wpS P L89_9 T L (rdy h) K = wpS P (⟨.mov (.t 0), (some 8), none, []⟩ :: ⟨.bin .rem (.t 8) (.c (.int .i64 10)), (some 9), none, []⟩ :: L89_8) T L (rdy h) K := rfl
def L89_10 : List AStep := [⟨.mov (.t 17), (some 0), none, []⟩]
theorem v89_10 : wpS P L89_10 T L (rdy h) K = wpS P ([⟨.mov (.t 17), (some 0), none, []⟩]) T L (rdy h) K := rfl
def L89_11 : List AStep := ⟨.mov (.t 0), (some 16), none, []⟩ :: ⟨.bin .quo (.t 16) (.c (.int .i64 10)), (some 17), none, []⟩ :: L89_10
theorem v89_11 : wpS P L89_11 T L (rdy h) K = wpS P (⟨.mov (.t 0), (some 16), none, []⟩ :: ⟨.bin .quo (.t 16) (.c (.int .i64 10)), (some 17), none, []⟩ :: L89_10) T L (rdy h) K := rfl
def L89_12 : List AStep := [⟨.mov (.t 19), (some 2), none, []⟩]
theorem v89_12 : wpS P L89_12 T L (rdy h) K = wpS P ([⟨.mov (.t 19), (some 2), none, []⟩]) T L (rdy h) K := rfl
def L89_13 : List AStep := ⟨.mov (.t 3), (some 18), none, []⟩ :: ⟨.bin .add (.c (.str (strOfNums [109]))) (.t 18), (some 19), none, []⟩ :: L89_12
theorem v89_13 : wpS P L89_13 T L (rdy h) K = wpS P (⟨.mov (.t 3), (some 18), none, []⟩ :: ⟨.bin .add (.c (.str (strOfNums [109]))) (.t 18), (some 19), none, []⟩ :: L89_12) T L (rdy h) K := rfl
def C89_0 : ACode := .seq (.reg L89_2) .ret
theorem u89_0 : wpC P C89_0 T L (rdy h) Q = wpC P (.seq (.reg L89_2) .ret) T L (rdy h) Q := rfl
def C89_1 : ACode := .cond (.t 5) C89_0 .skip
theorem u89_1 : wpC P C89_1 T L (rdy h) Q = wpC P (.cond (.t 5) C89_0 .skip) T L (rdy h) Q := rfl
def C89_2 : ACode := .seq (.reg L89_1) C89_1
theorem u89_2 : wpC P C89_2 T L (rdy h) Q = wpC P (.seq (.reg L89_1) C89_1) T L (rdy h) Q := rfl
def C89_3 : ACode := .cond (.t 7) .skip (.exit 0)
theorem u89_3 : wpC P C89_3 T L (rdy h) Q = wpC P (.cond (.t 7) .skip (.exit 0)) T L (rdy h) Q := rfl
def C89_4 : ACode := .seq (.reg L89_4) C89_3
theorem u89_4 : wpC P C89_4 T L (rdy h) Q = wpC P (.seq (.reg L89_4) C89_3) T L (rdy h) Q := rfl
def C89_5 : ACode := .seq (.reg L89_9) (.reg L89_11)
theorem u89_5 : wpC P C89_5 T L (rdy h) Q = wpC P (.seq (.reg L89_9) (.reg L89_11)) T L (rdy h) Q := rfl
def C89_6 : ACode := .block 1 C89_5
theorem u89_6 : wpC P C89_6 T L (rdy h) Q = wpC P (.block 1 C89_5) T L (rdy h) Q := rfl
def C89_7 : ACode := .seq C89_4 C89_6
theorem u89_7 : wpC P C89_7 T L (rdy h) Q = wpC P (.seq C89_4 C89_6) T L (rdy h) Q := rfl
def C89_8 : ACode := .block 0 (.loop C89_7)
theorem u89_8 : wpC P C89_8 T L (rdy h) Q = wpC P (.block 0 (.loop C89_7)) T L (rdy h) Q := rfl
def C89_9 : ACode := .seq (.reg L89_13) .ret
theorem u89_9 : wpC P C89_9 T L (rdy h) Q = wpC P (.seq (.reg L89_13) .ret) T L (rdy h) Q := rfl
def C89_10 : ACode := .seq C89_8 C89_9
theorem u89_10 : wpC P C89_10 T L (rdy h) Q = wpC P (.seq C89_8 C89_9) T L (rdy h) Q := rfl
def C89_11 : ACode := .seq (.reg L89_3) C89_10
theorem u89_11 : wpC P C89_11 T L (rdy h) Q = wpC P (.seq (.reg L89_3) C89_10) T L (rdy h) Q := rfl
def C89_12 : ACode := .seq C89_2 C89_11
theorem u89_12 : wpC P C89_12 T L (rdy h) Q = wpC P (.seq C89_2 C89_11) T L (rdy h) Q := rfl
def C89_13 : ACode := .seq (.reg L89_0) C89_12
theorem u89_13 : wpC P C89_13 T L (rdy h) Q = wpC P (.seq (.reg L89_0) C89_12) T L (rdy h) Q := rfl
def F89 : AFunc := ⟨20, [.tmp 2], C89_13⟩
theorem cF89 : compB Try.prog 89 = some F89 := by kernel_rfl
end
attribute [local go_sem ↓] u89_0 u89_1 u89_2 u89_3 u89_4 u89_5 u89_6 u89_7 u89_8 u89_9 u89_10 u89_11 u89_12 u89_13 v89_0 v89_1 v89_2 v89_3 v89_4 v89_5 v89_6 v89_7 v89_8 v89_9 v89_10 v89_11 v89_12 v89_13
theorem c_markText (k : Int) (h : H) (h1 : k < 2 ^ 60) : bm Try.prog 89 [.one (.int .i64 k)] h = some (.one (.str (mtxt k)), h) := by
  by_cases hk : k ≤ 0
  · refine bm_eq cF89 ?_
    simp +contextual (maxSteps := 2000000) only [go_sem, Nat.reduceEqDiff, reduceCtorEq, Nat.reduceAdd, Nat.reduceLeDiff, F89, decide_eq_true hk]
    unfold mtxt
    rw [if_pos hk]
  obtain ⟨n, rfl⟩ : ∃ n : Nat, k = n := ⟨k.toNat, by omega⟩
  have key : callK (bm Try.prog 89 [.one (.int .i64 n)] h) fun v h' => v = .one (.str (mtxt n)) ∧ h' = h := by
    refine bm_of cF89 ?_
    simp +contextual (maxSteps := 2000000) only [go_sem, Nat.reduceEqDiff, reduceCtorEq, Nat.reduceAdd, Nat.reduceLeDiff, F89, decide_eq_false hk]
    refine wpC_while (fun m T L h' => Grow h h' ∧ T 0 = .v (.one (.int .i64 m)) ∧ ∃ s, T 3 = .v (.one (.str s)) ∧ mDig m s = mDig n (strOfNums []) ∧ s.size + m ≤ n) ?_ ?_ (m := n)
    · rintro m T L h' ⟨g, t0, s, t3, e1, e2⟩
      by_cases hm : m = 0
      · subst hm
        have e3 : mDig 0 s = s := by unfold mDig; simp
        rw [e3] at e1
        simp +contextual (maxSteps := 2000000) only [go_sem, Nat.reduceEqDiff, reduceCtorEq, Nat.reduceAdd, Nat.reduceLeDiff, t0, t3, show decide (((0 : Nat) : Int) > 0) = false from rfl]
        have e4 : (strOfNums [109]).size = 1 := strOfNums_size _
        simp +contextual (maxSteps := 2000000) only [go_sem, Nat.reduceEqDiff, reduceCtorEq, Nat.reduceAdd, Nat.reduceLeDiff, str_add (s := strOfNums [109]) (t := s) (by rw [e4]; omega)]
        refine gcR_of g rfl ⟨?_, rfl⟩
        unfold mtxt
        rw [if_neg hk, e1]
        rfl
      · have e5 : mDig m s = mDig (m / 10) (strOfNums [digit m] ++ s) := by rw [mDig, dif_neg hm]
        simp +contextual (maxSteps := 2000000) only [go_sem, Nat.reduceEqDiff, reduceCtorEq, Nat.reduceAdd, Nat.reduceLeDiff, t0, t3, decide_eq_true (show ((m : Nat) : Int) > 0 by omega), bin_rem (k := .i64) (a := (m : Int)) (b := 10) (by decide), bin_quo (k := .i64) (a := (m : Int)) (b := 10) (by decide)]
        refine wp_lit (enc := encU) (k := 1) [digit m] rfl rfl ?_
        intro h2 v g2 n2 _
        have hb := bytes_at (n2.sl (fun _ => rfl)) (by simp)
        have e4 : (strOfNums [digit m]).size = 1 := strOfNums_size _
        simp +contextual (maxSteps := 2000000) only [go_sem, Nat.reduceEqDiff, reduceCtorEq, Nat.reduceAdd, Nat.reduceLeDiff, hb, t0, t3, str_add (s := strOfNums [digit m]) (t := s) (by rw [e4]; omega), bin_quo (k := .i64) (a := (m : Int)) (b := 10) (by decide)]
        refine ⟨m / 10, by omega, g.trans g2, ?_, _, rfl, ?_, ?_⟩
        · rw [show (m : Int).tdiv 10 = ((m / 10 : Nat) : Int) by rw [Int.tdiv_eq_ediv_of_nonneg (by omega)]; omega, wrap_nat (by omega)]
        · rw [← e5, e1]
        · rw [ByteArray.size_append, e4]
          omega
    · simp +contextual (maxSteps := 2000000) only [go_sem, Nat.reduceEqDiff, reduceCtorEq, Nat.reduceAdd, Nat.reduceLeDiff]
      exact ⟨Grow.refl h, _, rfl, rfl, by rw [strOfNums_size]; simp⟩
  obtain ⟨v, h', e1, rfl, rfl⟩ := key
  exact e1
section
variable {P : Program} {T : Tb} {L : Lb} {h : H} {Q : PostC} {K : Post}
/-! laws.toPair -/
def L169_0 : List AStep := [⟨.box 203 (.t 0), (some 1), none, []⟩, ⟨.alloc 133 [(.str (strOfNums [])), (.int .i64 0)], (some 2), none, []⟩]
theorem v169_0 : wpS P L169_0 T L (rdy h) K = wpS P ([⟨.box 203 (.t 0), (some 1), none, []⟩, ⟨.alloc 133 [(.str (strOfNums [])), (.int .i64 0)], (some 2), none, []⟩]) T L (rdy h) K := rfl
def L169_1 : List AStep := [⟨.alloc 133 [(.str (strOfNums [])), (.int .i64 0)], (some 3), none, []⟩]
theorem v169_1 : wpS P L169_1 T L (rdy h) K = wpS P ([⟨.alloc 133 [(.str (strOfNums [])), (.int .i64 0)], (some 3), none, []⟩]) T L (rdy h) K := rfl
def L169_2 : List AStep := [⟨.faddr 0 (.t 3), (some 6), none, []⟩, ⟨.store 1 (.t 6) (.t 5), none, none, []⟩]
theorem v169_2 : wpS P L169_2 T L (rdy h) K = wpS P ([⟨.faddr 0 (.t 3), (some 6), none, []⟩, ⟨.store 1 (.t 6) (.t 5), none, none, []⟩]) T L (rdy h) K := rfl
def L169_3 : List AStep := ⟨.faddr 0 (.t 1), (some 4), none, []⟩ :: ⟨.load 1 false (.t 4), (some 5), none, []⟩ :: L169_2
theorem v169_3 : wpS P L169_3 T L (rdy h) K = wpS P (⟨.faddr 0 (.t 1), (some 4), none, []⟩ :: ⟨.load 1 false (.t 4), (some 5), none, []⟩ :: L169_2) T L (rdy h) K := rfl
def L169_4 : List AStep := [⟨.faddr 1 (.t 3), (some 9), none, []⟩, ⟨.store 1 (.t 9) (.t 8), none, none, []⟩]
theorem v169_4 : wpS P L169_4 T L (rdy h) K = wpS P ([⟨.faddr 1 (.t 3), (some 9), none, []⟩, ⟨.store 1 (.t 9) (.t 8), none, none, []⟩]) T L (rdy h) K := rfl
def L169_5 : List AStep := ⟨.faddr 1 (.t 1), (some 7), none, []⟩ :: ⟨.load 1 false (.t 7), (some 8), none, []⟩ :: L169_4
theorem v169_5 : wpS P L169_5 T L (rdy h) K = wpS P (⟨.faddr 1 (.t 1), (some 7), none, []⟩ :: ⟨.load 1 false (.t 7), (some 8), none, []⟩ :: L169_4) T L (rdy h) K := rfl
def L169_6 : List AStep := [⟨.load 2 true (.t 3), (some 10), none, []⟩, ⟨.store 2 (.t 2) (.t 10), none, none, []⟩]
theorem v169_6 : wpS P L169_6 T L (rdy h) K = wpS P ([⟨.load 2 true (.t 3), (some 10), none, []⟩, ⟨.store 2 (.t 2) (.t 10), none, none, []⟩]) T L (rdy h) K := rfl
def C169_0 : ACode := .seq (.reg L169_6) .ret
theorem u169_0 : wpC P C169_0 T L (rdy h) Q = wpC P (.seq (.reg L169_6) .ret) T L (rdy h) Q := rfl
def C169_1 : ACode := .seq (.reg L169_5) C169_0
theorem u169_1 : wpC P C169_1 T L (rdy h) Q = wpC P (.seq (.reg L169_5) C169_0) T L (rdy h) Q := rfl
def C169_2 : ACode := .seq (.reg L169_3) C169_1
theorem u169_2 : wpC P C169_2 T L (rdy h) Q = wpC P (.seq (.reg L169_3) C169_1) T L (rdy h) Q := rfl
def C169_3 : ACode := .seq (.reg L169_1) C169_2
theorem u169_3 : wpC P C169_3 T L (rdy h) Q = wpC P (.seq (.reg L169_1) C169_2) T L (rdy h) Q := rfl
def C169_4 : ACode := .seq (.reg L169_0) C169_3
theorem u169_4 : wpC P C169_4 T L (rdy h) Q = wpC P (.seq (.reg L169_0) C169_3) T L (rdy h) Q := rfl
def F169 : AFunc := ⟨11, [.cell 2 2 true], C169_4⟩
theorem cF169 : compB Try.prog 169 = some F169 := by kernel_rfl
end
attribute [local go_sem ↓] u169_0 u169_1 u169_2 u169_3 u169_4 v169_0 v169_1 v169_2 v169_3 v169_4 v169_5 v169_6
theorem c_toPair (p : Pair) (h : H) : bm Try.prog 169 [.agg (encP p)] h = some (.agg (encP p), h) := by
  refine bm_eq cF169 ?_
  simp +contextual (maxSteps := 2000000) only [go_sem, Nat.reduceEqDiff, reduceCtorEq, Nat.reduceAdd, Nat.reduceLeDiff, F169, encP]
section
variable {P : Program} {T : Tb} {L : Lb} {h : H} {Q : PostC} {K : Post}
/-! laws.toTurn -/
def L80_0 : List AStep := [⟨.box 126 (.t 0), (some 1), none, []⟩, ⟨.alloc 134 [(.str (strOfNums [])), (.str (strOfNums []))], (some 2), none, []⟩]
theorem v80_0 : wpS P L80_0 T L (rdy h) K = wpS P ([⟨.box 126 (.t 0), (some 1), none, []⟩, ⟨.alloc 134 [(.str (strOfNums [])), (.str (strOfNums []))], (some 2), none, []⟩]) T L (rdy h) K := rfl
def L80_1 : List AStep := [⟨.alloc 134 [(.str (strOfNums [])), (.str (strOfNums []))], (some 3), none, []⟩]
theorem v80_1 : wpS P L80_1 T L (rdy h) K = wpS P ([⟨.alloc 134 [(.str (strOfNums [])), (.str (strOfNums []))], (some 3), none, []⟩]) T L (rdy h) K := rfl
def L80_2 : List AStep := [⟨.faddr 0 (.t 3), (some 6), none, []⟩, ⟨.store 1 (.t 6) (.t 5), none, none, []⟩]
theorem v80_2 : wpS P L80_2 T L (rdy h) K = wpS P ([⟨.faddr 0 (.t 3), (some 6), none, []⟩, ⟨.store 1 (.t 6) (.t 5), none, none, []⟩]) T L (rdy h) K := rfl
def L80_3 : List AStep := ⟨.faddr 0 (.t 1), (some 4), none, []⟩ :: ⟨.load 1 false (.t 4), (some 5), none, []⟩ :: L80_2
theorem v80_3 : wpS P L80_3 T L (rdy h) K = wpS P (⟨.faddr 0 (.t 1), (some 4), none, []⟩ :: ⟨.load 1 false (.t 4), (some 5), none, []⟩ :: L80_2) T L (rdy h) K := rfl
def L80_4 : List AStep := [⟨.faddr 1 (.t 3), (some 9), none, []⟩, ⟨.store 1 (.t 9) (.t 8), none, none, []⟩]
theorem v80_4 : wpS P L80_4 T L (rdy h) K = wpS P ([⟨.faddr 1 (.t 3), (some 9), none, []⟩, ⟨.store 1 (.t 9) (.t 8), none, none, []⟩]) T L (rdy h) K := rfl
def L80_5 : List AStep := ⟨.faddr 1 (.t 1), (some 7), none, []⟩ :: ⟨.load 1 false (.t 7), (some 8), none, []⟩ :: L80_4
theorem v80_5 : wpS P L80_5 T L (rdy h) K = wpS P (⟨.faddr 1 (.t 1), (some 7), none, []⟩ :: ⟨.load 1 false (.t 7), (some 8), none, []⟩ :: L80_4) T L (rdy h) K := rfl
def L80_6 : List AStep := [⟨.load 2 true (.t 3), (some 10), none, []⟩, ⟨.store 2 (.t 2) (.t 10), none, none, []⟩]
theorem v80_6 : wpS P L80_6 T L (rdy h) K = wpS P ([⟨.load 2 true (.t 3), (some 10), none, []⟩, ⟨.store 2 (.t 2) (.t 10), none, none, []⟩]) T L (rdy h) K := rfl
def C80_0 : ACode := .seq (.reg L80_6) .ret
theorem u80_0 : wpC P C80_0 T L (rdy h) Q = wpC P (.seq (.reg L80_6) .ret) T L (rdy h) Q := rfl
def C80_1 : ACode := .seq (.reg L80_5) C80_0
theorem u80_1 : wpC P C80_1 T L (rdy h) Q = wpC P (.seq (.reg L80_5) C80_0) T L (rdy h) Q := rfl
def C80_2 : ACode := .seq (.reg L80_3) C80_1
theorem u80_2 : wpC P C80_2 T L (rdy h) Q = wpC P (.seq (.reg L80_3) C80_1) T L (rdy h) Q := rfl
def C80_3 : ACode := .seq (.reg L80_1) C80_2
theorem u80_3 : wpC P C80_3 T L (rdy h) Q = wpC P (.seq (.reg L80_1) C80_2) T L (rdy h) Q := rfl
def C80_4 : ACode := .seq (.reg L80_0) C80_3
theorem u80_4 : wpC P C80_4 T L (rdy h) Q = wpC P (.seq (.reg L80_0) C80_3) T L (rdy h) Q := rfl
def F80 : AFunc := ⟨11, [.cell 2 2 true], C80_4⟩
theorem cF80 : compB Try.prog 80 = some F80 := by kernel_rfl
end
attribute [local go_sem ↓] u80_0 u80_1 u80_2 u80_3 u80_4 v80_0 v80_1 v80_2 v80_3 v80_4 v80_5 v80_6
theorem c_toTurn (p : Turn) (h : H) : bm Try.prog 80 [.agg (encT p)] h = some (.agg (encT p), h) := by
  refine bm_eq cF80 ?_
  simp +contextual (maxSteps := 2000000) only [go_sem, Nat.reduceEqDiff, reduceCtorEq, Nat.reduceAdd, Nat.reduceLeDiff, F80, encT]
section
variable {P : Program} {T : Tb} {L : Lb} {h : H} {Q : PostC} {K : Post}
/-! laws.toIntS -/
def L81_0 : List AStep := [⟨.mov (.c (.sl none 0 (some 0))), (some 2), none, []⟩]
theorem v81_0 : wpS P L81_0 T L (rdy h) K = wpS P ([⟨.mov (.c (.sl none 0 (some 0))), (some 2), none, []⟩]) T L (rdy h) K := rfl
def L81_1 : List AStep := [⟨.mkslice 3 8 [(.int .i64 0)] (.t 6) (.t 6), (some 7), none, []⟩, ⟨.mov (.t 7), (some 3), none, []⟩]
theorem v81_1 : wpS P L81_1 T L (rdy h) K = wpS P ([⟨.mkslice 3 8 [(.int .i64 0)] (.t 6) (.t 6), (some 7), none, []⟩, ⟨.mov (.t 7), (some 3), none, []⟩]) T L (rdy h) K := rfl
def L81_2 : List AStep := ⟨.mov (.t 0), (some 5), none, []⟩ :: ⟨.len (.t 5), (some 6), none, []⟩ :: L81_1
theorem v81_2 : wpS P L81_2 T L (rdy h) K = wpS P (⟨.mov (.t 0), (some 5), none, []⟩ :: ⟨.len (.t 5), (some 6), none, []⟩ :: L81_1) T L (rdy h) K := rfl
def L81_3 : List AStep := [⟨.mov (.c (.int .i64 0)), (some 4), none, []⟩]
theorem v81_3 : wpS P L81_3 T L (rdy h) K = wpS P ([⟨.mov (.c (.int .i64 0)), (some 4), none, []⟩]) T L (rdy h) K := rfl
def L81_4 : List AStep := [⟨.len (.t 9), (some 10), none, []⟩, ⟨.bin .lss (.t 8) (.t 10), (some 11), none, []⟩]
theorem v81_4 : wpS P L81_4 T L (rdy h) K = wpS P ([⟨.len (.t 9), (some 10), none, []⟩, ⟨.bin .lss (.t 8) (.t 10), (some 11), none, []⟩]) T L (rdy h) K := rfl
def L81_5 : List AStep := ⟨.mov (.t 4), (some 8), none, []⟩ :: ⟨.mov (.t 0), (some 9), none, []⟩ :: L81_4
theorem v81_5 : wpS P L81_5 T L (rdy h) K = wpS P (⟨.mov (.t 4), (some 8), none, []⟩ :: ⟨.mov (.t 0), (some 9), none, []⟩ :: L81_4) T L (rdy h) K := rfl
def L81_6 : List AStep := [⟨.iaddr 1 (.t 14) (.t 15), (some 20), none, []⟩, ⟨.store 1 (.t 20) (.t 19), none, none, []⟩]
theorem v81_6 : wpS P L81_6 T L (rdy h) K = wpS P ([⟨.iaddr 1 (.t 14) (.t 15), (some 20), none, []⟩, ⟨.store 1 (.t 20) (.t 19), none, none, []⟩]) T L (rdy h) K := rfl
def L81_7 : List AStep := ⟨.iaddr 1 (.t 16) (.t 17), (some 18), none, []⟩ :: ⟨.load 1 false (.t 18), (some 19), none, []⟩ :: L81_6
theorem v81_7 : wpS P L81_7 T L (rdy h) K = wpS P (⟨.iaddr 1 (.t 16) (.t 17), (some 18), none, []⟩ :: ⟨.load 1 false (.t 18), (some 19), none, []⟩ :: L81_6) T L (rdy h) K := rfl
def L81_8 : List AStep := ⟨.mov (.t 0), (some 16), none, []⟩ :: ⟨.mov (.t 4), (some 17), none, []⟩ :: L81_7
theorem v81_8 : wpS P L81_8 T L (rdy h) K = wpS P (⟨.mov (.t 0), (some 16), none, []⟩ :: ⟨.mov (.t 4), (some 17), none, []⟩ :: L81_7) T L (rdy h) K := rfl
def L81_9 : List AStep := ⟨.mov (.t 3), (some 14), none, []⟩ :: ⟨.mov (.t 4), (some 15), none, []⟩ :: L81_8
theorem v81_9 : wpS P L81_9 T L (rdy h) K = wpS P (⟨.mov (.t 3), (some 14), none, []⟩ :: ⟨.mov (.t 4), (some 15), none, []⟩ :: L81_8) T L (rdy h) K := rfl
def L81_10 : List AStep := [⟨.mov (.t 13), (some 4), none, []⟩]
theorem v81_10 : wpS P L81_10 T L (rdy h) K = wpS P ([⟨.mov (.t 13), (some 4), none, []⟩]) T L (rdy h) K := rfl
def L81_11 : List AStep := ⟨.mov (.t 4), (some 12), none, []⟩ :: ⟨.bin .add (.t 12) (.c (.int .i64 1)), (some 13), none, []⟩ :: L81_10
theorem v81_11 : wpS P L81_11 T L (rdy h) K = wpS P (⟨.mov (.t 4), (some 12), none, []⟩ :: ⟨.bin .add (.t 12) (.c (.int .i64 1)), (some 13), none, []⟩ :: L81_10) T L (rdy h) K := rfl
def L81_12 : List AStep := [⟨.mov (.t 3), (some 21), none, []⟩, ⟨.mov (.t 21), (some 2), none, []⟩]
theorem v81_12 : wpS P L81_12 T L (rdy h) K = wpS P ([⟨.mov (.t 3), (some 21), none, []⟩, ⟨.mov (.t 21), (some 2), none, []⟩]) T L (rdy h) K := rfl
def C81_0 : ACode := .cond (.t 11) .skip (.exit 0)
theorem u81_0 : wpC P C81_0 T L (rdy h) Q = wpC P (.cond (.t 11) .skip (.exit 0)) T L (rdy h) Q := rfl
def C81_1 : ACode := .seq (.reg L81_5) C81_0
theorem u81_1 : wpC P C81_1 T L (rdy h) Q = wpC P (.seq (.reg L81_5) C81_0) T L (rdy h) Q := rfl
def C81_2 : ACode := .block 1 (.reg L81_9)
theorem u81_2 : wpC P C81_2 T L (rdy h) Q = wpC P (.block 1 (.reg L81_9)) T L (rdy h) Q := rfl
def C81_3 : ACode := .seq C81_2 (.reg L81_11)
theorem u81_3 : wpC P C81_3 T L (rdy h) Q = wpC P (.seq C81_2 (.reg L81_11)) T L (rdy h) Q := rfl
def C81_4 : ACode := .seq C81_1 C81_3
theorem u81_4 : wpC P C81_4 T L (rdy h) Q = wpC P (.seq C81_1 C81_3) T L (rdy h) Q := rfl
def C81_5 : ACode := .block 0 (.loop C81_4)
theorem u81_5 : wpC P C81_5 T L (rdy h) Q = wpC P (.block 0 (.loop C81_4)) T L (rdy h) Q := rfl
def C81_6 : ACode := .seq (.reg L81_3) C81_5
theorem u81_6 : wpC P C81_6 T L (rdy h) Q = wpC P (.seq (.reg L81_3) C81_5) T L (rdy h) Q := rfl
def C81_7 : ACode := .seq (.reg L81_12) .ret
theorem u81_7 : wpC P C81_7 T L (rdy h) Q = wpC P (.seq (.reg L81_12) .ret) T L (rdy h) Q := rfl
def C81_8 : ACode := .seq C81_6 C81_7
theorem u81_8 : wpC P C81_8 T L (rdy h) Q = wpC P (.seq C81_6 C81_7) T L (rdy h) Q := rfl
def C81_9 : ACode := .seq (.reg L81_2) C81_8
theorem u81_9 : wpC P C81_9 T L (rdy h) Q = wpC P (.seq (.reg L81_2) C81_8) T L (rdy h) Q := rfl
def C81_10 : ACode := .seq (.reg L81_0) C81_9
theorem u81_10 : wpC P C81_10 T L (rdy h) Q = wpC P (.seq (.reg L81_0) C81_9) T L (rdy h) Q := rfl
def F81 : AFunc := ⟨22, [.tmp 2], C81_10⟩
theorem cF81 : compB Try.prog 81 = some F81 := by kernel_rfl
end
attribute [local go_sem ↓] u81_0 u81_1 u81_2 u81_3 u81_4 u81_5 u81_6 u81_7 u81_8 u81_9 u81_10 v81_0 v81_1 v81_2 v81_3 v81_4 v81_5 v81_6 v81_7 v81_8 v81_9 v81_10 v81_11 v81_12
theorem c_toIntS {t1 : Nat} (l : List Int) (v : AV) (h : H) (hl : Sl encI 1 t1 h v l) (hn : l.length ≤ 1048576) : callK (bm Try.prog 81 [v] h) fun r h' => Grow h h' ∧ NwI h h' r l := by
  refine bm_of cF81 ?_
  simp +contextual (maxSteps := 2000000) only [go_sem, Nat.reduceEqDiff, reduceCtorEq, Nat.reduceAdd, Nat.reduceLeDiff, F81, hl.len]
  refine wp_make (enc := encI) (k := 1) (0 : Int) rfl (by omega) (by omega) ?_
  intro h1 o g1 n1 _
  simp +contextual (maxSteps := 2000000) only [go_sem, Nat.reduceEqDiff, reduceCtorEq, Nat.reduceAdd, Nat.reduceLeDiff]
  refine wpC_loop (fun i T L h' => Grow h h' ∧ T 0 = .v v ∧ T 3 = .v o ∧ T 4 = .v (.one (.int .i64 i)) ∧ NwI h h' o (fillL l (0 : Int) i)) l.length ?_ ?_ (Nat.zero_le _) ?_
  · rintro i T L h' hi ⟨g, t0, t3, t4, no⟩
    have hl := (‹Sl encI 1 t1 h v l›).grow g
    have hio : i < (fillL l (0 : Int) i).length := by rw [fillL_len (by omega)]; exact hi
    simp +contextual (maxSteps := 2000000) only [go_sem, Nat.reduceEqDiff, reduceCtorEq, Nat.reduceAdd, Nat.reduceLeDiff, t0, t3, t4, hl.len, hl.iaddr hi, hl.oneO hi, no.iaddr hio, lt_true hi]
    refine wp_setE (x := l[i]) lenI no hio rfl rfl g ?_
    intro h2 g2 n2 _
    simp +contextual (maxSteps := 2000000) only [go_sem, Nat.reduceEqDiff, reduceCtorEq, Nat.reduceAdd, Nat.reduceLeDiff, t0, t3, t4]
    rw [fillL_set hi] at n2
    exact ⟨g2, by rw [wrap_next hi (by omega)], n2⟩
  · rintro T L h' ⟨g, t0, t3, t4, no⟩
    have hl := (‹Sl encI 1 t1 h v l›).grow g
    simp +contextual (maxSteps := 2000000) only [go_sem, Nat.reduceEqDiff, reduceCtorEq, Nat.reduceAdd, Nat.reduceLeDiff, t0, t3, t4, hl.len, lt_false]
    rw [fillL_all] at no
    exact gcK_of ⟨g, no⟩ (fun hs _ => ⟨Grow.refl h, no.scalar hs h⟩)
  · simp +contextual (maxSteps := 2000000) only [go_sem, Nat.reduceEqDiff, reduceCtorEq, Nat.reduceAdd, Nat.reduceLeDiff]
    exact ⟨g1, rfl, by rw [fillL_zero]; exact n1⟩
section
variable {P : Program} {T : Tb} {L : Lb} {h : H} {Q : PostC} {K : Post}
/-! laws.toPairS -/
def L82_0 : List AStep := [⟨.mov (.c (.sl none 0 (some 0))), (some 2), none, []⟩]
theorem v82_0 : wpS P L82_0 T L (rdy h) K = wpS P ([⟨.mov (.c (.sl none 0 (some 0))), (some 2), none, []⟩]) T L (rdy h) K := rfl
def L82_1 : List AStep := [⟨.mkslice 133 24 [(.str (strOfNums [])), (.int .i64 0)] (.t 6) (.t 6), (some 7), none, []⟩, ⟨.mov (.t 7), (some 3), none, []⟩]
theorem v82_1 : wpS P L82_1 T L (rdy h) K = wpS P ([⟨.mkslice 133 24 [(.str (strOfNums [])), (.int .i64 0)] (.t 6) (.t 6), (some 7), none, []⟩, ⟨.mov (.t 7), (some 3), none, []⟩]) T L (rdy h) K := rfl
def L82_2 : List AStep := ⟨.mov (.t 0), (some 5), none, []⟩ :: ⟨.len (.t 5), (some 6), none, []⟩ :: L82_1
theorem v82_2 : wpS P L82_2 T L (rdy h) K = wpS P (⟨.mov (.t 0), (some 5), none, []⟩ :: ⟨.len (.t 5), (some 6), none, []⟩ :: L82_1) T L (rdy h) K := rfl
def L82_3 : List AStep := [⟨.mov (.c (.int .i64 0)), (some 4), none, []⟩]
theorem v82_3 : wpS P L82_3 T L (rdy h) K = wpS P ([⟨.mov (.c (.int .i64 0)), (some 4), none, []⟩]) T L (rdy h) K := rfl
def L82_4 : List AStep := [⟨.len (.t 9), (some 10), none, []⟩, ⟨.bin .lss (.t 8) (.t 10), (some 11), none, []⟩]
theorem v82_4 : wpS P L82_4 T L (rdy h) K = wpS P ([⟨.len (.t 9), (some 10), none, []⟩, ⟨.bin .lss (.t 8) (.t 10), (some 11), none, []⟩]) T L (rdy h) K := rfl
def L82_5 : List AStep := ⟨.mov (.t 4), (some 8), none, []⟩ :: ⟨.mov (.t 0), (some 9), none, []⟩ :: L82_4
theorem v82_5 : wpS P L82_5 T L (rdy h) K = wpS P (⟨.mov (.t 4), (some 8), none, []⟩ :: ⟨.mov (.t 0), (some 9), none, []⟩ :: L82_4) T L (rdy h) K := rfl
def L82_6 : List AStep := [⟨.store 2 (.t 21) (.t 20), none, none, []⟩]
theorem v82_6 : wpS P L82_6 T L (rdy h) K = wpS P ([⟨.store 2 (.t 21) (.t 20), none, none, []⟩]) T L (rdy h) K := rfl
def L82_7 : List AStep := ⟨.call 169 [(.t 19)], (some 20), none, []⟩ :: ⟨.iaddr 2 (.t 14) (.t 15), (some 21), none, []⟩ :: L82_6
theorem v82_7 : wpS P L82_7 T L (rdy h) K = wpS P (⟨.call 169 [(.t 19)], (some 20), none, []⟩ :: ⟨.iaddr 2 (.t 14) (.t 15), (some 21), none, []⟩ :: L82_6) T L (rdy h) K := rfl
def L82_8 : List AStep := ⟨.iaddr 2 (.t 16) (.t 17), (some 18), none, []⟩ :: ⟨.load 2 true (.t 18), (some 19), none, []⟩ :: L82_7
theorem v82_8 : wpS P L82_8 T L (rdy h) K = wpS P (⟨.iaddr 2 (.t 16) (.t 17), (some 18), none, []⟩ :: ⟨.load 2 true (.t 18), (some 19), none, []⟩ :: L82_7) T L (rdy h) K := rfl
def L82_9 : List AStep := ⟨.mov (.t 0), (some 16), none, []⟩ :: ⟨.mov (.t 4), (some 17), none, []⟩ :: L82_8
theorem v82_9 : wpS P L82_9 T L (rdy h) K = wpS P (⟨.mov (.t 0), (some 16), none, []⟩ :: ⟨.mov (.t 4), (some 17), none, []⟩ :: L82_8) T L (rdy h) K := rfl
def L82_10 : List AStep := ⟨.mov (.t 3), (some 14), none, []⟩ :: ⟨.mov (.t 4), (some 15), none, []⟩ :: L82_9
theorem v82_10 : wpS P L82_10 T L (rdy h) K = wpS P (⟨.mov (.t 3), (some 14), none, []⟩ :: ⟨.mov (.t 4), (some 15), none, []⟩ :: L82_9) T L (rdy h) K := rfl
def L82_11 : List AStep := [⟨.mov (.t 13), (some 4), none, []⟩]
theorem v82_11 : wpS P L82_11 T L (rdy h) K = wpS P ([⟨.mov (.t 13), (some 4), none, []⟩]) T L (rdy h) K := rfl
def L82_12 : List AStep := ⟨.mov (.t 4), (some 12), none, []⟩ :: ⟨.bin .add (.t 12) (.c (.int .i64 1)), (some 13), none, []⟩ :: L82_11
theorem v82_12 : wpS P L82_12 T L (rdy h) K = wpS P (⟨.mov (.t 4), (some 12), none, []⟩ :: ⟨.bin .add (.t 12) (.c (.int .i64 1)), (some 13), none, []⟩ :: L82_11) T L (rdy h) K := rfl
def L82_13 : List AStep := [⟨.mov (.t 3), (some 22), none, []⟩, ⟨.mov (.t 22), (some 2), none, []⟩]
theorem v82_13 : wpS P L82_13 T L (rdy h) K = wpS P ([⟨.mov (.t 3), (some 22), none, []⟩, ⟨.mov (.t 22), (some 2), none, []⟩]) T L (rdy h) K := rfl
def C82_0 : ACode := .cond (.t 11) .skip (.exit 0)
theorem u82_0 : wpC P C82_0 T L (rdy h) Q = wpC P (.cond (.t 11) .skip (.exit 0)) T L (rdy h) Q := rfl
def C82_1 : ACode := .seq (.reg L82_5) C82_0
theorem u82_1 : wpC P C82_1 T L (rdy h) Q = wpC P (.seq (.reg L82_5) C82_0) T L (rdy h) Q := rfl
def C82_2 : ACode := .block 1 (.reg L82_10)
theorem u82_2 : wpC P C82_2 T L (rdy h) Q = wpC P (.block 1 (.reg L82_10)) T L (rdy h) Q := rfl
def C82_3 : ACode := .seq C82_2 (.reg L82_12)
theorem u82_3 : wpC P C82_3 T L (rdy h) Q = wpC P (.seq C82_2 (.reg L82_12)) T L (rdy h) Q := rfl
def C82_4 : ACode := .seq C82_1 C82_3
theorem u82_4 : wpC P C82_4 T L (rdy h) Q = wpC P (.seq C82_1 C82_3) T L (rdy h) Q := rfl
def C82_5 : ACode := .block 0 (.loop C82_4)
theorem u82_5 : wpC P C82_5 T L (rdy h) Q = wpC P (.block 0 (.loop C82_4)) T L (rdy h) Q := rfl
def C82_6 : ACode := .seq (.reg L82_3) C82_5
theorem u82_6 : wpC P C82_6 T L (rdy h) Q = wpC P (.seq (.reg L82_3) C82_5) T L (rdy h) Q := rfl
def C82_7 : ACode := .seq (.reg L82_13) .ret
theorem u82_7 : wpC P C82_7 T L (rdy h) Q = wpC P (.seq (.reg L82_13) .ret) T L (rdy h) Q := rfl
def C82_8 : ACode := .seq C82_6 C82_7
theorem u82_8 : wpC P C82_8 T L (rdy h) Q = wpC P (.seq C82_6 C82_7) T L (rdy h) Q := rfl
def C82_9 : ACode := .seq (.reg L82_2) C82_8
theorem u82_9 : wpC P C82_9 T L (rdy h) Q = wpC P (.seq (.reg L82_2) C82_8) T L (rdy h) Q := rfl
def C82_10 : ACode := .seq (.reg L82_0) C82_9
theorem u82_10 : wpC P C82_10 T L (rdy h) Q = wpC P (.seq (.reg L82_0) C82_9) T L (rdy h) Q := rfl
def F82 : AFunc := ⟨23, [.tmp 2], C82_10⟩
theorem cF82 : compB Try.prog 82 = some F82 := by kernel_rfl
end
attribute [local go_sem ↓] u82_0 u82_1 u82_2 u82_3 u82_4 u82_5 u82_6 u82_7 u82_8 u82_9 u82_10 v82_0 v82_1 v82_2 v82_3 v82_4 v82_5 v82_6 v82_7 v82_8 v82_9 v82_10 v82_11 v82_12 v82_13
theorem c_toPairS {t1 : Nat} (l : List Pair) (v : AV) (h : H) (hl : Sl encP 2 t1 h v l) (hn : l.length ≤ 1048576) : callK (bm Try.prog 82 [v] h) fun r h' => Grow h h' ∧ NwP h h' r l := by
  refine bm_of cF82 ?_
  simp +contextual (maxSteps := 2000000) only [go_sem, Nat.reduceEqDiff, reduceCtorEq, Nat.reduceAdd, Nat.reduceLeDiff, F82, hl.len]
  refine wp_make (enc := encP) (k := 2) (⟨(strOfNums []), 0⟩ : Pair) rfl (by omega) (by omega) ?_
  intro h1 o g1 n1 _
  simp +contextual (maxSteps := 2000000) only [go_sem, Nat.reduceEqDiff, reduceCtorEq, Nat.reduceAdd, Nat.reduceLeDiff]
  refine wpC_loop (fun i T L h' => Grow h h' ∧ T 0 = .v v ∧ T 3 = .v o ∧ T 4 = .v (.one (.int .i64 i)) ∧ NwP h h' o (fillL l (⟨(strOfNums []), 0⟩ : Pair) i)) l.length ?_ ?_ (Nat.zero_le _) ?_
  · rintro i T L h' hi ⟨g, t0, t3, t4, no⟩
    have hl := (‹Sl encP 2 t1 h v l›).grow g
    have hio : i < (fillL l (⟨(strOfNums []), 0⟩ : Pair) i).length := by rw [fillL_len (by omega)]; exact hi
    simp +contextual (maxSteps := 2000000) only [go_sem, Nat.reduceEqDiff, reduceCtorEq, Nat.reduceAdd, Nat.reduceLeDiff, t0, t3, t4, hl.len, hl.iaddr hi, hl.whole hi, no.iaddr hio, lt_true hi, c_toPair]
    refine wp_setE (x := l[i]) lenP no hio rfl rfl g ?_
    intro h2 g2 n2 _
    simp +contextual (maxSteps := 2000000) only [go_sem, Nat.reduceEqDiff, reduceCtorEq, Nat.reduceAdd, Nat.reduceLeDiff, t0, t3, t4]
    rw [fillL_set hi] at n2
    exact ⟨g2, by rw [wrap_next hi (by omega)], n2⟩
  · rintro T L h' ⟨g, t0, t3, t4, no⟩
    have hl := (‹Sl encP 2 t1 h v l›).grow g
    simp +contextual (maxSteps := 2000000) only [go_sem, Nat.reduceEqDiff, reduceCtorEq, Nat.reduceAdd, Nat.reduceLeDiff, t0, t3, t4, hl.len, lt_false]
    rw [fillL_all] at no
    exact gcK_of ⟨g, no⟩ (fun hs _ => ⟨Grow.refl h, no.scalar hs h⟩)
  · simp +contextual (maxSteps := 2000000) only [go_sem, Nat.reduceEqDiff, reduceCtorEq, Nat.reduceAdd, Nat.reduceLeDiff]
    exact ⟨g1, rfl, by rw [fillL_zero]; exact n1⟩
section
variable {P : Program} {T : Tb} {L : Lb} {h : H} {Q : PostC} {K : Post}
/-! laws.toTurnS -/
def L16_0 : List AStep := [⟨.mov (.c (.sl none 0 (some 0))), (some 2), none, []⟩]
theorem v16_0 : wpS P L16_0 T L (rdy h) K = wpS P ([⟨.mov (.c (.sl none 0 (some 0))), (some 2), none, []⟩]) T L (rdy h) K := rfl
def L16_1 : List AStep := [⟨.mkslice 134 32 [(.str (strOfNums [])), (.str (strOfNums []))] (.t 6) (.t 6), (some 7), none, []⟩, ⟨.mov (.t 7), (some 3), none, []⟩]
theorem v16_1 : wpS P L16_1 T L (rdy h) K = wpS P ([⟨.mkslice 134 32 [(.str (strOfNums [])), (.str (strOfNums []))] (.t 6) (.t 6), (some 7), none, []⟩, ⟨.mov (.t 7), (some 3), none, []⟩]) T L (rdy h) K := rfl
def L16_2 : List AStep := ⟨.mov (.t 0), (some 5), none, []⟩ :: ⟨.len (.t 5), (some 6), none, []⟩ :: L16_1
theorem v16_2 : wpS P L16_2 T L (rdy h) K = wpS P (⟨.mov (.t 0), (some 5), none, []⟩ :: ⟨.len (.t 5), (some 6), none, []⟩ :: L16_1) T L (rdy h) K := rfl
def L16_3 : List AStep := [⟨.mov (.c (.int .i64 0)), (some 4), none, []⟩]
theorem v16_3 : wpS P L16_3 T L (rdy h) K = wpS P ([⟨.mov (.c (.int .i64 0)), (some 4), none, []⟩]) T L (rdy h) K := rfl
def L16_4 : List AStep := [⟨.len (.t 9), (some 10), none, []⟩, ⟨.bin .lss (.t 8) (.t 10), (some 11), none, []⟩]
theorem v16_4 : wpS P L16_4 T L (rdy h) K = wpS P ([⟨.len (.t 9), (some 10), none, []⟩, ⟨.bin .lss (.t 8) (.t 10), (some 11), none, []⟩]) T L (rdy h) K := rfl
def L16_5 : List AStep := ⟨.mov (.t 4), (some 8), none, []⟩ :: ⟨.mov (.t 0), (some 9), none, []⟩ :: L16_4
theorem v16_5 : wpS P L16_5 T L (rdy h) K = wpS P (⟨.mov (.t 4), (some 8), none, []⟩ :: ⟨.mov (.t 0), (some 9), none, []⟩ :: L16_4) T L (rdy h) K := rfl
def L16_6 : List AStep := [⟨.store 2 (.t 21) (.t 20), none, none, []⟩]
theorem v16_6 : wpS P L16_6 T L (rdy h) K = wpS P ([⟨.store 2 (.t 21) (.t 20), none, none, []⟩]) T L (rdy h) K := rfl
def L16_7 : List AStep := ⟨.call 80 [(.t 19)], (some 20), none, []⟩ :: ⟨.iaddr 2 (.t 14) (.t 15), (some 21), none, []⟩ :: L16_6
theorem v16_7 : wpS P L16_7 T L (rdy h) K = wpS P (⟨.call 80 [(.t 19)], (some 20), none, []⟩ :: ⟨.iaddr 2 (.t 14) (.t 15), (some 21), none, []⟩ :: L16_6) T L (rdy h) K := rfl
def L16_8 : List AStep := ⟨.iaddr 2 (.t 16) (.t 17), (some 18), none, []⟩ :: ⟨.load 2 true (.t 18), (some 19), none, []⟩ :: L16_7
theorem v16_8 : wpS P L16_8 T L (rdy h) K = wpS P (⟨.iaddr 2 (.t 16) (.t 17), (some 18), none, []⟩ :: ⟨.load 2 true (.t 18), (some 19), none, []⟩ :: L16_7) T L (rdy h) K := rfl
def L16_9 : List AStep := ⟨.mov (.t 0), (some 16), none, []⟩ :: ⟨.mov (.t 4), (some 17), none, []⟩ :: L16_8
theorem v16_9 : wpS P L16_9 T L (rdy h) K = wpS P (⟨.mov (.t 0), (some 16), none, []⟩ :: ⟨.mov (.t 4), (some 17), none, []⟩ :: L16_8) T L (rdy h) K := rfl
def L16_10 : List AStep := ⟨.mov (.t 3), (some 14), none, []⟩ :: ⟨.mov (.t 4), (some 15), none, []⟩ :: L16_9
theorem v16_10 : wpS P L16_10 T L (rdy h) K = wpS P (⟨.mov (.t 3), (some 14), none, []⟩ :: ⟨.mov (.t 4), (some 15), none, []⟩ :: L16_9) T L (rdy h) K := rfl
def L16_11 : List AStep := [⟨.mov (.t 13), (some 4), none, []⟩]
theorem v16_11 : wpS P L16_11 T L (rdy h) K = wpS P ([⟨.mov (.t 13), (some 4), none, []⟩]) T L (rdy h) K := rfl
def L16_12 : List AStep := ⟨.mov (.t 4), (some 12), none, []⟩ :: ⟨.bin .add (.t 12) (.c (.int .i64 1)), (some 13), none, []⟩ :: L16_11
theorem v16_12 : wpS P L16_12 T L (rdy h) K = wpS P (⟨.mov (.t 4), (some 12), none, []⟩ :: ⟨.bin .add (.t 12) (.c (.int .i64 1)), (some 13), none, []⟩ :: L16_11) T L (rdy h) K := rfl
def L16_13 : List AStep := [⟨.mov (.t 3), (some 22), none, []⟩, ⟨.mov (.t 22), (some 2), none, []⟩]
theorem v16_13 : wpS P L16_13 T L (rdy h) K = wpS P ([⟨.mov (.t 3), (some 22), none, []⟩, ⟨.mov (.t 22), (some 2), none, []⟩]) T L (rdy h) K := rfl
def C16_0 : ACode := .cond (.t 11) .skip (.exit 0)
theorem u16_0 : wpC P C16_0 T L (rdy h) Q = wpC P (.cond (.t 11) .skip (.exit 0)) T L (rdy h) Q := rfl
def C16_1 : ACode := .seq (.reg L16_5) C16_0
theorem u16_1 : wpC P C16_1 T L (rdy h) Q = wpC P (.seq (.reg L16_5) C16_0) T L (rdy h) Q := rfl
def C16_2 : ACode := .block 1 (.reg L16_10)
theorem u16_2 : wpC P C16_2 T L (rdy h) Q = wpC P (.block 1 (.reg L16_10)) T L (rdy h) Q := rfl
def C16_3 : ACode := .seq C16_2 (.reg L16_12)
theorem u16_3 : wpC P C16_3 T L (rdy h) Q = wpC P (.seq C16_2 (.reg L16_12)) T L (rdy h) Q := rfl
def C16_4 : ACode := .seq C16_1 C16_3
theorem u16_4 : wpC P C16_4 T L (rdy h) Q = wpC P (.seq C16_1 C16_3) T L (rdy h) Q := rfl
def C16_5 : ACode := .block 0 (.loop C16_4)
theorem u16_5 : wpC P C16_5 T L (rdy h) Q = wpC P (.block 0 (.loop C16_4)) T L (rdy h) Q := rfl
def C16_6 : ACode := .seq (.reg L16_3) C16_5
theorem u16_6 : wpC P C16_6 T L (rdy h) Q = wpC P (.seq (.reg L16_3) C16_5) T L (rdy h) Q := rfl
def C16_7 : ACode := .seq (.reg L16_13) .ret
theorem u16_7 : wpC P C16_7 T L (rdy h) Q = wpC P (.seq (.reg L16_13) .ret) T L (rdy h) Q := rfl
def C16_8 : ACode := .seq C16_6 C16_7
theorem u16_8 : wpC P C16_8 T L (rdy h) Q = wpC P (.seq C16_6 C16_7) T L (rdy h) Q := rfl
def C16_9 : ACode := .seq (.reg L16_2) C16_8
theorem u16_9 : wpC P C16_9 T L (rdy h) Q = wpC P (.seq (.reg L16_2) C16_8) T L (rdy h) Q := rfl
def C16_10 : ACode := .seq (.reg L16_0) C16_9
theorem u16_10 : wpC P C16_10 T L (rdy h) Q = wpC P (.seq (.reg L16_0) C16_9) T L (rdy h) Q := rfl
def F16 : AFunc := ⟨23, [.tmp 2], C16_10⟩
theorem cF16 : compB Try.prog 16 = some F16 := by kernel_rfl
end
attribute [local go_sem ↓] u16_0 u16_1 u16_2 u16_3 u16_4 u16_5 u16_6 u16_7 u16_8 u16_9 u16_10 v16_0 v16_1 v16_2 v16_3 v16_4 v16_5 v16_6 v16_7 v16_8 v16_9 v16_10 v16_11 v16_12 v16_13
theorem c_toTurnS {t1 : Nat} (l : List Turn) (v : AV) (h : H) (hl : Sl encT 2 t1 h v l) (hn : l.length ≤ 1048576) : callK (bm Try.prog 16 [v] h) fun r h' => Grow h h' ∧ NwT h h' r l := by
  refine bm_of cF16 ?_
  simp +contextual (maxSteps := 2000000) only [go_sem, Nat.reduceEqDiff, reduceCtorEq, Nat.reduceAdd, Nat.reduceLeDiff, F16, hl.len]
  refine wp_make (enc := encT) (k := 2) (⟨(strOfNums []), (strOfNums [])⟩ : Turn) rfl (by omega) (by omega) ?_
  intro h1 o g1 n1 _
  simp +contextual (maxSteps := 2000000) only [go_sem, Nat.reduceEqDiff, reduceCtorEq, Nat.reduceAdd, Nat.reduceLeDiff]
  refine wpC_loop (fun i T L h' => Grow h h' ∧ T 0 = .v v ∧ T 3 = .v o ∧ T 4 = .v (.one (.int .i64 i)) ∧ NwT h h' o (fillL l (⟨(strOfNums []), (strOfNums [])⟩ : Turn) i)) l.length ?_ ?_ (Nat.zero_le _) ?_
  · rintro i T L h' hi ⟨g, t0, t3, t4, no⟩
    have hl := (‹Sl encT 2 t1 h v l›).grow g
    have hio : i < (fillL l (⟨(strOfNums []), (strOfNums [])⟩ : Turn) i).length := by rw [fillL_len (by omega)]; exact hi
    simp +contextual (maxSteps := 2000000) only [go_sem, Nat.reduceEqDiff, reduceCtorEq, Nat.reduceAdd, Nat.reduceLeDiff, t0, t3, t4, hl.len, hl.iaddr hi, hl.whole hi, no.iaddr hio, lt_true hi, c_toTurn]
    refine wp_setE (x := l[i]) lenT no hio rfl rfl g ?_
    intro h2 g2 n2 _
    simp +contextual (maxSteps := 2000000) only [go_sem, Nat.reduceEqDiff, reduceCtorEq, Nat.reduceAdd, Nat.reduceLeDiff, t0, t3, t4]
    rw [fillL_set hi] at n2
    exact ⟨g2, by rw [wrap_next hi (by omega)], n2⟩
  · rintro T L h' ⟨g, t0, t3, t4, no⟩
    have hl := (‹Sl encT 2 t1 h v l›).grow g
    simp +contextual (maxSteps := 2000000) only [go_sem, Nat.reduceEqDiff, reduceCtorEq, Nat.reduceAdd, Nat.reduceLeDiff, t0, t3, t4, hl.len, lt_false]
    rw [fillL_all] at no
    exact gcK_of ⟨g, no⟩ (fun hs _ => ⟨Grow.refl h, no.scalar hs h⟩)
  · simp +contextual (maxSteps := 2000000) only [go_sem, Nat.reduceEqDiff, reduceCtorEq, Nat.reduceAdd, Nat.reduceLeDiff]
    exact ⟨g1, rfl, by rw [fillL_zero]; exact n1⟩
section
variable {P : Program} {T : Tb} {L : Lb} {h : H} {Q : PostC} {K : Post}
/-! laws.markIntS -/
def L90_0 : List AStep := [⟨.mov (.c (.int .i64 0)), (some 4), none, []⟩]
theorem v90_0 : wpS P L90_0 T L (rdy h) K = wpS P ([⟨.mov (.c (.int .i64 0)), (some 4), none, []⟩]) T L (rdy h) K := rfl
def L90_1 : List AStep := [⟨.mov (.c (.int .i64 0)), (some 5), none, []⟩]
theorem v90_1 : wpS P L90_1 T L (rdy h) K = wpS P ([⟨.mov (.c (.int .i64 0)), (some 5), none, []⟩]) T L (rdy h) K := rfl
def L90_2 : List AStep := [⟨.len (.t 7), (some 8), none, []⟩, ⟨.bin .lss (.t 6) (.t 8), (some 9), none, []⟩]
theorem v90_2 : wpS P L90_2 T L (rdy h) K = wpS P ([⟨.len (.t 7), (some 8), none, []⟩, ⟨.bin .lss (.t 6) (.t 8), (some 9), none, []⟩]) T L (rdy h) K := rfl
def L90_3 : List AStep := ⟨.mov (.t 5), (some 6), none, []⟩ :: ⟨.mov (.t 0), (some 7), none, []⟩ :: L90_2
theorem v90_3 : wpS P L90_3 T L (rdy h) K = wpS P (⟨.mov (.t 5), (some 6), none, []⟩ :: ⟨.mov (.t 0), (some 7), none, []⟩ :: L90_2) T L (rdy h) K := rfl
def L90_4 : List AStep := [⟨.store 1 (.t 15) (.t 14), none, none, []⟩]
theorem v90_4 : wpS P L90_4 T L (rdy h) K = wpS P ([⟨.store 1 (.t 15) (.t 14), none, none, []⟩]) T L (rdy h) K := rfl
def L90_5 : List AStep := ⟨.mov (.t 1), (some 14), none, []⟩ :: ⟨.iaddr 1 (.t 12) (.t 13), (some 15), none, []⟩ :: L90_4
theorem v90_5 : wpS P L90_5 T L (rdy h) K = wpS P (⟨.mov (.t 1), (some 14), none, []⟩ :: ⟨.iaddr 1 (.t 12) (.t 13), (some 15), none, []⟩ :: L90_4) T L (rdy h) K := rfl
def L90_6 : List AStep := ⟨.mov (.t 0), (some 12), none, []⟩ :: ⟨.mov (.t 5), (some 13), none, []⟩ :: L90_5
theorem v90_6 : wpS P L90_6 T L (rdy h) K = wpS P (⟨.mov (.t 0), (some 12), none, []⟩ :: ⟨.mov (.t 5), (some 13), none, []⟩ :: L90_5) T L (rdy h) K := rfl
def L90_7 : List AStep := [⟨.mov (.t 17), (some 1), none, []⟩]
theorem v90_7 : wpS P L90_7 T L (rdy h) K = wpS P ([⟨.mov (.t 17), (some 1), none, []⟩]) T L (rdy h) K := rfl
def L90_8 : List AStep := ⟨.mov (.t 1), (some 16), none, []⟩ :: ⟨.bin .add (.t 16) (.c (.int .i64 1)), (some 17), none, []⟩ :: L90_7
theorem v90_8 : wpS P L90_8 T L (rdy h) K = wpS P (⟨.mov (.t 1), (some 16), none, []⟩ :: ⟨.bin .add (.t 16) (.c (.int .i64 1)), (some 17), none, []⟩ :: L90_7) T L (rdy h) K := rfl
def L90_9 : List AStep := [⟨.mov (.t 11), (some 5), none, []⟩]
theorem v90_9 : wpS P L90_9 T L (rdy h) K = wpS P ([⟨.mov (.t 11), (some 5), none, []⟩]) T L (rdy h) K := rfl
def L90_10 : List AStep := ⟨.mov (.t 5), (some 10), none, []⟩ :: ⟨.bin .add (.t 10) (.c (.int .i64 1)), (some 11), none, []⟩ :: L90_9
theorem v90_10 : wpS P L90_10 T L (rdy h) K = wpS P (⟨.mov (.t 5), (some 10), none, []⟩ :: ⟨.bin .add (.t 10) (.c (.int .i64 1)), (some 11), none, []⟩ :: L90_9) T L (rdy h) K := rfl
def L90_11 : List AStep := [⟨.mov (.t 1), (some 18), none, []⟩, ⟨.mov (.t 18), (some 4), none, []⟩]
theorem v90_11 : wpS P L90_11 T L (rdy h) K = wpS P ([⟨.mov (.t 1), (some 18), none, []⟩, ⟨.mov (.t 18), (some 4), none, []⟩]) T L (rdy h) K := rfl
def C90_0 : ACode := .cond (.t 9) .skip (.exit 0)
theorem u90_0 : wpC P C90_0 T L (rdy h) Q = wpC P (.cond (.t 9) .skip (.exit 0)) T L (rdy h) Q := rfl
def C90_1 : ACode := .seq (.reg L90_3) C90_0
theorem u90_1 : wpC P C90_1 T L (rdy h) Q = wpC P (.seq (.reg L90_3) C90_0) T L (rdy h) Q := rfl
def C90_2 : ACode := .seq (.reg L90_6) (.reg L90_8)
theorem u90_2 : wpC P C90_2 T L (rdy h) Q = wpC P (.seq (.reg L90_6) (.reg L90_8)) T L (rdy h) Q := rfl
def C90_3 : ACode := .block 1 C90_2
theorem u90_3 : wpC P C90_3 T L (rdy h) Q = wpC P (.block 1 C90_2) T L (rdy h) Q := rfl
def C90_4 : ACode := .seq C90_3 (.reg L90_10)
theorem u90_4 : wpC P C90_4 T L (rdy h) Q = wpC P (.seq C90_3 (.reg L90_10)) T L (rdy h) Q := rfl
def C90_5 : ACode := .seq C90_1 C90_4
theorem u90_5 : wpC P C90_5 T L (rdy h) Q = wpC P (.seq C90_1 C90_4) T L (rdy h) Q := rfl
def C90_6 : ACode := .block 0 (.loop C90_5)
theorem u90_6 : wpC P C90_6 T L (rdy h) Q = wpC P (.block 0 (.loop C90_5)) T L (rdy h) Q := rfl
def C90_7 : ACode := .seq (.reg L90_1) C90_6
theorem u90_7 : wpC P C90_7 T L (rdy h) Q = wpC P (.seq (.reg L90_1) C90_6) T L (rdy h) Q := rfl
def C90_8 : ACode := .seq (.reg L90_11) .ret
theorem u90_8 : wpC P C90_8 T L (rdy h) Q = wpC P (.seq (.reg L90_11) .ret) T L (rdy h) Q := rfl
def C90_9 : ACode := .seq C90_7 C90_8
theorem u90_9 : wpC P C90_9 T L (rdy h) Q = wpC P (.seq C90_7 C90_8) T L (rdy h) Q := rfl
def C90_10 : ACode := .seq (.reg L90_0) C90_9
theorem u90_10 : wpC P C90_10 T L (rdy h) Q = wpC P (.seq (.reg L90_0) C90_9) T L (rdy h) Q := rfl
def F90 : AFunc := ⟨19, [.tmp 4], C90_10⟩
theorem cF90 : compB Try.prog 90 = some F90 := by kernel_rfl
end
attribute [local go_sem ↓] u90_0 u90_1 u90_2 u90_3 u90_4 u90_5 u90_6 u90_7 u90_8 u90_9 u90_10 v90_0 v90_1 v90_2 v90_3 v90_4 v90_5 v90_6 v90_7 v90_8 v90_9 v90_10 v90_11
theorem c_markIntS (l : List Int) (v : AV) (k : Int) (h0 h : H) (hl : NwI h0 h v l) (g : Grow h0 h) (k1 : 0 ≤ k) (k2 : k ≤ 2 ^ 40) (hn : l.length ≤ 2 ^ 30) :
    callK (bm Try.prog 90 [v, .one (.int .i64 k)] h) fun r h' => r = ii (k + ((1 * l.length : Nat) : Int)) ∧ Grow h0 h' ∧ NwI h0 h' v (markL mkI 1 k l.length) ∧ Stay v h h' := by
  refine bm_of cF90 ?_
  simp +contextual (maxSteps := 2000000) only [go_sem, Nat.reduceEqDiff, reduceCtorEq, Nat.reduceAdd, Nat.reduceLeDiff, F90]
  refine wpC_loop (fun i T L h' => Grow h0 h' ∧ T 0 = .v v ∧ T 1 = .v (.one (.int .i64 (k + ((1 * i : Nat) : Int)))) ∧ T 5 = .v (.one (.int .i64 i)) ∧ NwI h0 h' v (markT mkI 1 k l i) ∧ Stay v h h') l.length ?_ ?_ (Nat.zero_le _) ?_
  · rintro i T L h' hi ⟨g, t0, t1, t5, no, st⟩
    have hlen : (markT mkI 1 k l i).length = l.length := markT_len (by omega)
    have hio : i < (markT mkI 1 k l i).length := by omega
    have hln := no.length
    rw [hlen] at hln
    have hia := no.iaddr hio (kd := .i64)
    have wr1 : IntKind.i64.wrap ((k + ((1 * i : Nat) : Int)) + 1) = (k + ((1 * i : Nat) : Int) + 1) := (i64_wrap (by omega) (by omega)).trans (by omega)
    simp +contextual (maxSteps := 2000000) only [go_sem, Nat.reduceEqDiff, reduceCtorEq, Nat.reduceAdd, Nat.reduceLeDiff, t0, t1, t5, hln, hia, lt_true hi, wr1]
    refine wp_setE (x := (k + ((1 * i : Nat) : Int))) lenI no hio rfl rfl g ?_
    intro h2 g2 n2 s2
    simp +contextual (maxSteps := 2000000) only [go_sem, Nat.reduceEqDiff, reduceCtorEq, Nat.reduceAdd, Nat.reduceLeDiff, t0, t1, t5, hln, hia, wr1]
    have e : (markT mkI 1 k l i).set i (mkI (k + ((1 * i : Nat) : Int))) = markT mkI 1 k l (i + 1) := markT_set hi
    have n3 : NwI h0 h2 v (markT mkI 1 k l (i + 1)) := by rw [← e]; exact n2
    refine ⟨g2, by rw [show k + ((1 * (i + 1) : Nat) : Int) = (k + ((1 * i : Nat) : Int) + 1) by omega], by rw [wrap_next hi (by omega)], n3, (st.trans s2)⟩
  · rintro T L h' ⟨g, t0, t1, t5, no, st⟩
    have hln := no.length
    rw [markT_len (Nat.le_refl _)] at hln
    simp +contextual (maxSteps := 2000000) only [go_sem, Nat.reduceEqDiff, reduceCtorEq, Nat.reduceAdd, Nat.reduceLeDiff, t0, t1, t5, hln, lt_false]
    rw [markT_all] at no
    exact gcK_of ⟨rfl, g, no, st⟩ (fun _ gg => ⟨rfl, ‹Grow h0 h›, no.back hl gg, (Grow.refl h).stay v⟩)
  · simp +contextual (maxSteps := 2000000) only [go_sem, Nat.reduceEqDiff, reduceCtorEq, Nat.reduceAdd, Nat.reduceLeDiff]
    exact ⟨g, by simp, rfl, by rw [markT_zero]; exact hl, (Grow.refl h).stay v⟩
section
variable {P : Program} {T : Tb} {L : Lb} {h : H} {Q : PostC} {K : Post}
/-! laws.heldIntS -/
def L92_0 : List AStep := [⟨.mov (.c (.int .i64 0)), (some 4), none, []⟩]
theorem v92_0 : wpS P L92_0 T L (rdy h) K = wpS P ([⟨.mov (.c (.int .i64 0)), (some 4), none, []⟩]) T L (rdy h) K := rfl
def L92_1 : List AStep := [⟨.mov (.c (.int .i64 0)), (some 5), none, []⟩]
theorem v92_1 : wpS P L92_1 T L (rdy h) K = wpS P ([⟨.mov (.c (.int .i64 0)), (some 5), none, []⟩]) T L (rdy h) K := rfl
def L92_2 : List AStep := [⟨.len (.t 7), (some 8), none, []⟩, ⟨.bin .lss (.t 6) (.t 8), (some 9), none, []⟩]
theorem v92_2 : wpS P L92_2 T L (rdy h) K = wpS P ([⟨.len (.t 7), (some 8), none, []⟩, ⟨.bin .lss (.t 6) (.t 8), (some 9), none, []⟩]) T L (rdy h) K := rfl
def L92_3 : List AStep := ⟨.mov (.t 5), (some 6), none, []⟩ :: ⟨.mov (.t 0), (some 7), none, []⟩ :: L92_2
theorem v92_3 : wpS P L92_3 T L (rdy h) K = wpS P (⟨.mov (.t 5), (some 6), none, []⟩ :: ⟨.mov (.t 0), (some 7), none, []⟩ :: L92_2) T L (rdy h) K := rfl
def L92_4 : List AStep := [⟨.mov (.t 1), (some 16), none, []⟩, ⟨.bin .neq (.t 15) (.t 16), (some 17), none, []⟩]
theorem v92_4 : wpS P L92_4 T L (rdy h) K = wpS P ([⟨.mov (.t 1), (some 16), none, []⟩, ⟨.bin .neq (.t 15) (.t 16), (some 17), none, []⟩]) T L (rdy h) K := rfl
def L92_5 : List AStep := ⟨.iaddr 1 (.t 12) (.t 13), (some 14), none, []⟩ :: ⟨.load 1 false (.t 14), (some 15), none, []⟩ :: L92_4
theorem v92_5 : wpS P L92_5 T L (rdy h) K = wpS P (⟨.iaddr 1 (.t 12) (.t 13), (some 14), none, []⟩ :: ⟨.load 1 false (.t 14), (some 15), none, []⟩ :: L92_4) T L (rdy h) K := rfl
def L92_6 : List AStep := ⟨.mov (.t 0), (some 12), none, []⟩ :: ⟨.mov (.t 5), (some 13), none, []⟩ :: L92_5
theorem v92_6 : wpS P L92_6 T L (rdy h) K = wpS P (⟨.mov (.t 0), (some 12), none, []⟩ :: ⟨.mov (.t 5), (some 13), none, []⟩ :: L92_5) T L (rdy h) K := rfl
def L92_7 : List AStep := [⟨.mov (.c (.int .i64 (-1))), (some 4), none, []⟩]
theorem v92_7 : wpS P L92_7 T L (rdy h) K = wpS P ([⟨.mov (.c (.int .i64 (-1))), (some 4), none, []⟩]) T L (rdy h) K := rfl
def L92_8 : List AStep := [⟨.mov (.t 19), (some 1), none, []⟩]
theorem v92_8 : wpS P L92_8 T L (rdy h) K = wpS P ([⟨.mov (.t 19), (some 1), none, []⟩]) T L (rdy h) K := rfl
def L92_9 : List AStep := ⟨.mov (.t 1), (some 18), none, []⟩ :: ⟨.bin .add (.t 18) (.c (.int .i64 1)), (some 19), none, []⟩ :: L92_8
theorem v92_9 : wpS P L92_9 T L (rdy h) K = wpS P (⟨.mov (.t 1), (some 18), none, []⟩ :: ⟨.bin .add (.t 18) (.c (.int .i64 1)), (some 19), none, []⟩ :: L92_8) T L (rdy h) K := rfl
def L92_10 : List AStep := [⟨.mov (.t 11), (some 5), none, []⟩]
theorem v92_10 : wpS P L92_10 T L (rdy h) K = wpS P ([⟨.mov (.t 11), (some 5), none, []⟩]) T L (rdy h) K := rfl
def L92_11 : List AStep := ⟨.mov (.t 5), (some 10), none, []⟩ :: ⟨.bin .add (.t 10) (.c (.int .i64 1)), (some 11), none, []⟩ :: L92_10
theorem v92_11 : wpS P L92_11 T L (rdy h) K = wpS P (⟨.mov (.t 5), (some 10), none, []⟩ :: ⟨.bin .add (.t 10) (.c (.int .i64 1)), (some 11), none, []⟩ :: L92_10) T L (rdy h) K := rfl
def L92_12 : List AStep := [⟨.mov (.t 1), (some 20), none, []⟩, ⟨.mov (.t 20), (some 4), none, []⟩]
theorem v92_12 : wpS P L92_12 T L (rdy h) K = wpS P ([⟨.mov (.t 1), (some 20), none, []⟩, ⟨.mov (.t 20), (some 4), none, []⟩]) T L (rdy h) K := rfl
def C92_0 : ACode := .cond (.t 9) .skip (.exit 0)
theorem u92_0 : wpC P C92_0 T L (rdy h) Q = wpC P (.cond (.t 9) .skip (.exit 0)) T L (rdy h) Q := rfl
def C92_1 : ACode := .seq (.reg L92_3) C92_0
theorem u92_1 : wpC P C92_1 T L (rdy h) Q = wpC P (.seq (.reg L92_3) C92_0) T L (rdy h) Q := rfl
def C92_2 : ACode := .seq (.reg L92_7) .ret
theorem u92_2 : wpC P C92_2 T L (rdy h) Q = wpC P (.seq (.reg L92_7) .ret) T L (rdy h) Q := rfl
def C92_3 : ACode := .cond (.t 17) C92_2 .skip
theorem u92_3 : wpC P C92_3 T L (rdy h) Q = wpC P (.cond (.t 17) C92_2 .skip) T L (rdy h) Q := rfl
def C92_4 : ACode := .seq (.reg L92_6) C92_3
theorem u92_4 : wpC P C92_4 T L (rdy h) Q = wpC P (.seq (.reg L92_6) C92_3) T L (rdy h) Q := rfl
def C92_5 : ACode := .seq C92_4 (.reg L92_9)
theorem u92_5 : wpC P C92_5 T L (rdy h) Q = wpC P (.seq C92_4 (.reg L92_9)) T L (rdy h) Q := rfl
def C92_6 : ACode := .block 1 C92_5
theorem u92_6 : wpC P C92_6 T L (rdy h) Q = wpC P (.block 1 C92_5) T L (rdy h) Q := rfl
def C92_7 : ACode := .seq C92_6 (.reg L92_11)
theorem u92_7 : wpC P C92_7 T L (rdy h) Q = wpC P (.seq C92_6 (.reg L92_11)) T L (rdy h) Q := rfl
def C92_8 : ACode := .seq C92_1 C92_7
theorem u92_8 : wpC P C92_8 T L (rdy h) Q = wpC P (.seq C92_1 C92_7) T L (rdy h) Q := rfl
def C92_9 : ACode := .block 0 (.loop C92_8)
theorem u92_9 : wpC P C92_9 T L (rdy h) Q = wpC P (.block 0 (.loop C92_8)) T L (rdy h) Q := rfl
def C92_10 : ACode := .seq (.reg L92_1) C92_9
theorem u92_10 : wpC P C92_10 T L (rdy h) Q = wpC P (.seq (.reg L92_1) C92_9) T L (rdy h) Q := rfl
def C92_11 : ACode := .seq (.reg L92_12) .ret
theorem u92_11 : wpC P C92_11 T L (rdy h) Q = wpC P (.seq (.reg L92_12) .ret) T L (rdy h) Q := rfl
def C92_12 : ACode := .seq C92_10 C92_11
theorem u92_12 : wpC P C92_12 T L (rdy h) Q = wpC P (.seq C92_10 C92_11) T L (rdy h) Q := rfl
def C92_13 : ACode := .seq (.reg L92_0) C92_12
theorem u92_13 : wpC P C92_13 T L (rdy h) Q = wpC P (.seq (.reg L92_0) C92_12) T L (rdy h) Q := rfl
def F92 : AFunc := ⟨21, [.tmp 4], C92_13⟩
theorem cF92 : compB Try.prog 92 = some F92 := by kernel_rfl
end
attribute [local go_sem ↓] u92_0 u92_1 u92_2 u92_3 u92_4 u92_5 u92_6 u92_7 u92_8 u92_9 u92_10 u92_11 u92_12 u92_13 v92_0 v92_1 v92_2 v92_3 v92_4 v92_5 v92_6 v92_7 v92_8 v92_9 v92_10 v92_11 v92_12
theorem c_heldIntS (n : Nat) (v : AV) (k : Int) (h : H) (hl : SlI h v (markL mkI 1 k n)) (k1 : 0 ≤ k) (k2 : k ≤ 2 ^ 40) (hn : n ≤ 2 ^ 30) :
    bm Try.prog 92 [v, .one (.int .i64 k)] h = some (ii (k + ((1 * n : Nat) : Int)), h) := by
  refine bm_eq cF92 ?_
  have hlen := hl.len
  rw [markL_len] at hlen
  simp +contextual (maxSteps := 2000000) only [go_sem, Nat.reduceEqDiff, reduceCtorEq, Nat.reduceAdd, Nat.reduceLeDiff, F92]
  refine wpC_loop (fun i T L h' => h' = h ∧ T 0 = .v v ∧ T 1 = .v (.one (.int .i64 (k + ((1 * i : Nat) : Int)))) ∧ T 5 = .v (.one (.int .i64 i))) n ?_ ?_ (Nat.zero_le _) ?_
  · rintro i T L h' hi ⟨rfl, t0, t1, t5⟩
    have hio : i < (markL mkI 1 k n).length := by rw [markL_len]; exact hi
    have hat := markL_at hio
    have hia := hl.iaddr hio (kd := .i64)
    have hf : ∀ off : Nat, off + 1 ≤ 1 → _ := fun off ho => hl.fieldO (off := off) hio ho
    rw [hat] at hf
    have h0 := hl.field0 (c := .int .i64 (k + ((1 * i : Nat) : Int))) hio (by rw [hat]; rfl)
    have wr1 : IntKind.i64.wrap ((k + ((1 * i : Nat) : Int)) + 1) = (k + ((1 * i : Nat) : Int) + 1) := (i64_wrap (by omega) (by omega)).trans (by omega)
    simp +contextual (maxSteps := 2000000) only [go_sem, Nat.reduceEqDiff, reduceCtorEq, Nat.reduceAdd, Nat.reduceLeDiff, t0, t1, t5, hlen, hia, hf, h0, lt_true hi, decide_true, mkI, mBool, wr1]
    rw [show k + ((1 * (i + 1) : Nat) : Int) = (k + ((1 * i : Nat) : Int) + 1) by omega, wrap_next hi (by omega)]
    try exact ⟨rfl, rfl⟩
  · rintro T L h' ⟨rfl, t0, t1, t5⟩
    simp +contextual (maxSteps := 2000000) only [go_sem, Nat.reduceEqDiff, reduceCtorEq, Nat.reduceAdd, Nat.reduceLeDiff, t0, t1, t5, hlen, lt_false]
  · simp +contextual (maxSteps := 2000000) only [go_sem, Nat.reduceEqDiff, reduceCtorEq, Nat.reduceAdd, Nat.reduceLeDiff]
    simp
section
variable {P : Program} {T : Tb} {L : Lb} {h : H} {Q : PostC} {K : Post}
/-! laws.markPairS -/
def L91_0 : List AStep := [⟨.mov (.c (.int .i64 0)), (some 4), none, []⟩]
theorem v91_0 : wpS P L91_0 T L (rdy h) K = wpS P ([⟨.mov (.c (.int .i64 0)), (some 4), none, []⟩]) T L (rdy h) K := rfl
def L91_1 : List AStep := [⟨.mov (.c (.int .i64 0)), (some 5), none, []⟩]
theorem v91_1 : wpS P L91_1 T L (rdy h) K = wpS P ([⟨.mov (.c (.int .i64 0)), (some 5), none, []⟩]) T L (rdy h) K := rfl
def L91_2 : List AStep := [⟨.len (.t 7), (some 8), none, []⟩, ⟨.bin .lss (.t 6) (.t 8), (some 9), none, []⟩]
theorem v91_2 : wpS P L91_2 T L (rdy h) K = wpS P ([⟨.len (.t 7), (some 8), none, []⟩, ⟨.bin .lss (.t 6) (.t 8), (some 9), none, []⟩]) T L (rdy h) K := rfl
def L91_3 : List AStep := ⟨.mov (.t 5), (some 6), none, []⟩ :: ⟨.mov (.t 0), (some 7), none, []⟩ :: L91_2
theorem v91_3 : wpS P L91_3 T L (rdy h) K = wpS P (⟨.mov (.t 5), (some 6), none, []⟩ :: ⟨.mov (.t 0), (some 7), none, []⟩ :: L91_2) T L (rdy h) K := rfl
def L91_4 : List AStep := [⟨.store 1 (.t 17) (.t 15), none, none, []⟩]
theorem v91_4 : wpS P L91_4 T L (rdy h) K = wpS P ([⟨.store 1 (.t 17) (.t 15), none, none, []⟩]) T L (rdy h) K := rfl
def L91_5 : List AStep := ⟨.iaddr 2 (.t 12) (.t 13), (some 16), none, []⟩ :: ⟨.faddr 0 (.t 16), (some 17), none, []⟩ :: L91_4
theorem v91_5 : wpS P L91_5 T L (rdy h) K = wpS P (⟨.iaddr 2 (.t 12) (.t 13), (some 16), none, []⟩ :: ⟨.faddr 0 (.t 16), (some 17), none, []⟩ :: L91_4) T L (rdy h) K := rfl
def L91_6 : List AStep := ⟨.mov (.t 1), (some 14), none, []⟩ :: ⟨.call 89 [(.t 14)], (some 15), none, []⟩ :: L91_5
theorem v91_6 : wpS P L91_6 T L (rdy h) K = wpS P (⟨.mov (.t 1), (some 14), none, []⟩ :: ⟨.call 89 [(.t 14)], (some 15), none, []⟩ :: L91_5) T L (rdy h) K := rfl
def L91_7 : List AStep := ⟨.mov (.t 0), (some 12), none, []⟩ :: ⟨.mov (.t 5), (some 13), none, []⟩ :: L91_6
theorem v91_7 : wpS P L91_7 T L (rdy h) K = wpS P (⟨.mov (.t 0), (some 12), none, []⟩ :: ⟨.mov (.t 5), (some 13), none, []⟩ :: L91_6) T L (rdy h) K := rfl
def L91_8 : List AStep := [⟨.mov (.t 19), (some 1), none, []⟩]
theorem v91_8 : wpS P L91_8 T L (rdy h) K = wpS P ([⟨.mov (.t 19), (some 1), none, []⟩]) T L (rdy h) K := rfl
def L91_9 : List AStep := ⟨.mov (.t 1), (some 18), none, []⟩ :: ⟨.bin .add (.t 18) (.c (.int .i64 1)), (some 19), none, []⟩ :: L91_8
theorem v91_9 : wpS P L91_9 T L (rdy h) K = wpS P (⟨.mov (.t 1), (some 18), none, []⟩ :: ⟨.bin .add (.t 18) (.c (.int .i64 1)), (some 19), none, []⟩ :: L91_8) T L (rdy h) K := rfl
def L91_10 : List AStep := [⟨.faddr 1 (.t 23), (some 24), none, []⟩, ⟨.store 1 (.t 24) (.t 22), none, none, []⟩]
theorem v91_10 : wpS P L91_10 T L (rdy h) K = wpS P ([⟨.faddr 1 (.t 23), (some 24), none, []⟩, ⟨.store 1 (.t 24) (.t 22), none, none, []⟩]) T L (rdy h) K := rfl
def L91_11 : List AStep := ⟨.mov (.t 1), (some 22), none, []⟩ :: ⟨.iaddr 2 (.t 20) (.t 21), (some 23), none, []⟩ :: L91_10
theorem v91_11 : wpS P L91_11 T L (rdy h) K = wpS P (⟨.mov (.t 1), (some 22), none, []⟩ :: ⟨.iaddr 2 (.t 20) (.t 21), (some 23), none, []⟩ :: L91_10) T L (rdy h) K := rfl
def L91_12 : List AStep := ⟨.mov (.t 0), (some 20), none, []⟩ :: ⟨.mov (.t 5), (some 21), none, []⟩ :: L91_11
theorem v91_12 : wpS P L91_12 T L (rdy h) K = wpS P (⟨.mov (.t 0), (some 20), none, []⟩ :: ⟨.mov (.t 5), (some 21), none, []⟩ :: L91_11) T L (rdy h) K := rfl
def L91_13 : List AStep := [⟨.mov (.t 26), (some 1), none, []⟩]
theorem v91_13 : wpS P L91_13 T L (rdy h) K = wpS P ([⟨.mov (.t 26), (some 1), none, []⟩]) T L (rdy h) K := rfl
def L91_14 : List AStep := ⟨.mov (.t 1), (some 25), none, []⟩ :: ⟨.bin .add (.t 25) (.c (.int .i64 1)), (some 26), none, []⟩ :: L91_13
theorem v91_14 : wpS P L91_14 T L (rdy h) K = wpS P (⟨.mov (.t 1), (some 25), none, []⟩ :: ⟨.bin .add (.t 25) (.c (.int .i64 1)), (some 26), none, []⟩ :: L91_13) T L (rdy h) K := rfl
def L91_15 : List AStep := [⟨.mov (.t 11), (some 5), none, []⟩]
theorem v91_15 : wpS P L91_15 T L (rdy h) K = wpS P ([⟨.mov (.t 11), (some 5), none, []⟩]) T L (rdy h) K := rfl
def L91_16 : List AStep := ⟨.mov (.t 5), (some 10), none, []⟩ :: ⟨.bin .add (.t 10) (.c (.int .i64 1)), (some 11), none, []⟩ :: L91_15
theorem v91_16 : wpS P L91_16 T L (rdy h) K = wpS P (⟨.mov (.t 5), (some 10), none, []⟩ :: ⟨.bin .add (.t 10) (.c (.int .i64 1)), (some 11), none, []⟩ :: L91_15) T L (rdy h) K := rfl
def L91_17 : List AStep := [⟨.mov (.t 1), (some 27), none, []⟩, ⟨.mov (.t 27), (some 4), none, []⟩]
theorem v91_17 : wpS P L91_17 T L (rdy h) K = wpS P ([⟨.mov (.t 1), (some 27), none, []⟩, ⟨.mov (.t 27), (some 4), none, []⟩]) T L (rdy h) K := rfl
def C91_0 : ACode := .cond (.t 9) .skip (.exit 0)
theorem u91_0 : wpC P C91_0 T L (rdy h) Q = wpC P (.cond (.t 9) .skip (.exit 0)) T L (rdy h) Q := rfl
def C91_1 : ACode := .seq (.reg L91_3) C91_0
theorem u91_1 : wpC P C91_1 T L (rdy h) Q = wpC P (.seq (.reg L91_3) C91_0) T L (rdy h) Q := rfl
def C91_2 : ACode := .seq (.reg L91_12) (.reg L91_14)
theorem u91_2 : wpC P C91_2 T L (rdy h) Q = wpC P (.seq (.reg L91_12) (.reg L91_14)) T L (rdy h) Q := rfl
def C91_3 : ACode := .seq (.reg L91_9) C91_2
theorem u91_3 : wpC P C91_3 T L (rdy h) Q = wpC P (.seq (.reg L91_9) C91_2) T L (rdy h) Q := rfl
def C91_4 : ACode := .seq (.reg L91_7) C91_3
theorem u91_4 : wpC P C91_4 T L (rdy h) Q = wpC P (.seq (.reg L91_7) C91_3) T L (rdy h) Q := rfl
def C91_5 : ACode := .block 1 C91_4
theorem u91_5 : wpC P C91_5 T L (rdy h) Q = wpC P (.block 1 C91_4) T L (rdy h) Q := rfl
def C91_6 : ACode := .seq C91_5 (.reg L91_16)
theorem u91_6 : wpC P C91_6 T L (rdy h) Q = wpC P (.seq C91_5 (.reg L91_16)) T L (rdy h) Q := rfl
def C91_7 : ACode := .seq C91_1 C91_6
theorem u91_7 : wpC P C91_7 T L (rdy h) Q = wpC P (.seq C91_1 C91_6) T L (rdy h) Q := rfl
def C91_8 : ACode := .block 0 (.loop C91_7)
theorem u91_8 : wpC P C91_8 T L (rdy h) Q = wpC P (.block 0 (.loop C91_7)) T L (rdy h) Q := rfl
def C91_9 : ACode := .seq (.reg L91_1) C91_8
theorem u91_9 : wpC P C91_9 T L (rdy h) Q = wpC P (.seq (.reg L91_1) C91_8) T L (rdy h) Q := rfl
def C91_10 : ACode := .seq (.reg L91_17) .ret
theorem u91_10 : wpC P C91_10 T L (rdy h) Q = wpC P (.seq (.reg L91_17) .ret) T L (rdy h) Q := rfl
def C91_11 : ACode := .seq C91_9 C91_10
theorem u91_11 : wpC P C91_11 T L (rdy h) Q = wpC P (.seq C91_9 C91_10) T L (rdy h) Q := rfl
def C91_12 : ACode := .seq (.reg L91_0) C91_11
theorem u91_12 : wpC P C91_12 T L (rdy h) Q = wpC P (.seq (.reg L91_0) C91_11) T L (rdy h) Q := rfl
def F91 : AFunc := ⟨28, [.tmp 4], C91_12⟩
theorem cF91 : compB Try.prog 91 = some F91 := by kernel_rfl
end
attribute [local go_sem ↓] u91_0 u91_1 u91_2 u91_3 u91_4 u91_5 u91_6 u91_7 u91_8 u91_9 u91_10 u91_11 u91_12 v91_0 v91_1 v91_2 v91_3 v91_4 v91_5 v91_6 v91_7 v91_8 v91_9 v91_10 v91_11 v91_12 v91_13 v91_14 v91_15 v91_16 v91_17
theorem c_markPairS (l : List Pair) (v : AV) (k : Int) (h0 h : H) (hl : NwP h0 h v l) (g : Grow h0 h) (k1 : 0 ≤ k) (k2 : k ≤ 2 ^ 40) (hn : l.length ≤ 2 ^ 30) :
    callK (bm Try.prog 91 [v, .one (.int .i64 k)] h) fun r h' => r = ii (k + ((2 * l.length : Nat) : Int)) ∧ Grow h0 h' ∧ NwP h0 h' v (markL mkP 2 k l.length) ∧ Stay v h h' := by
  refine bm_of cF91 ?_
  simp +contextual (maxSteps := 2000000) only [go_sem, Nat.reduceEqDiff, reduceCtorEq, Nat.reduceAdd, Nat.reduceLeDiff, F91]
  refine wpC_loop (fun i T L h' => Grow h0 h' ∧ T 0 = .v v ∧ T 1 = .v (.one (.int .i64 (k + ((2 * i : Nat) : Int)))) ∧ T 5 = .v (.one (.int .i64 i)) ∧ NwP h0 h' v (markT mkP 2 k l i) ∧ Stay v h h') l.length ?_ ?_ (Nat.zero_le _) ?_
  · rintro i T L h' hi ⟨g, t0, t1, t5, no, st⟩
    have hlen : (markT mkP 2 k l i).length = l.length := markT_len (by omega)
    have hio : i < (markT mkP 2 k l i).length := by omega
    have hln := no.length
    rw [hlen] at hln
    have hia := no.iaddr hio (kd := .i64)
    have wr1 : IntKind.i64.wrap ((k + ((2 * i : Nat) : Int)) + 1) = (k + ((2 * i : Nat) : Int) + 1) := (i64_wrap (by omega) (by omega)).trans (by omega)
    have wr2 : IntKind.i64.wrap ((k + ((2 * i : Nat) : Int) + 1) + 1) = (k + ((2 * i : Nat) : Int) + 2) := (i64_wrap (by omega) (by omega)).trans (by omega)
    simp +contextual (maxSteps := 2000000) only [go_sem, Nat.reduceEqDiff, reduceCtorEq, Nat.reduceAdd, Nat.reduceLeDiff, t0, t1, t5, hln, hia, lt_true hi, wr1, wr2, c_markText (k + ((2 * i : Nat) : Int)) _ (by omega)]
    refine wp_set (x := (⟨mtxt (k + ((2 * i : Nat) : Int)), (markT mkP 2 k l i)[i].value⟩ : Pair)) (off := 0) (vs := [.str (mtxt (k + ((2 * i : Nat) : Int)))]) lenP no (by first | exact hio | (simp only [List.length_set]; exact hio)) rfl (by simp [encP, List.getElem_set_self]) (Nat.le_of_ble_eq_true rfl) g ?_
    intro h2 g2 n2 s2
    try rw [List.set_set] at n2
    simp +contextual (maxSteps := 2000000) only [go_sem, Nat.reduceEqDiff, reduceCtorEq, Nat.reduceAdd, Nat.reduceLeDiff, t0, t1, t5, hln, hia, wr1, wr2, c_markText (k + ((2 * i : Nat) : Int)) _ (by omega)]
    refine wp_set (x := (⟨mtxt (k + ((2 * i : Nat) : Int)), (k + ((2 * i : Nat) : Int) + 1)⟩ : Pair)) (off := 1) (vs := [.int .i64 (k + ((2 * i : Nat) : Int) + 1)]) lenP n2 (by first | exact hio | (simp only [List.length_set]; exact hio)) rfl (by simp [encP, List.getElem_set_self]) (Nat.le_of_ble_eq_true rfl) g2 ?_
    intro h3 g3 n3 s3
    try rw [List.set_set] at n3
    simp +contextual (maxSteps := 2000000) only [go_sem, Nat.reduceEqDiff, reduceCtorEq, Nat.reduceAdd, Nat.reduceLeDiff, t0, t1, t5, hln, hia, wr1, wr2, c_markText (k + ((2 * i : Nat) : Int)) _ (by omega)]
    have e : (markT mkP 2 k l i).set i (mkP (k + ((2 * i : Nat) : Int))) = markT mkP 2 k l (i + 1) := markT_set hi
    have n4 : NwP h0 h3 v (markT mkP 2 k l (i + 1)) := by rw [← e]; exact n3
    refine ⟨g3, by rw [show k + ((2 * (i + 1) : Nat) : Int) = (k + ((2 * i : Nat) : Int) + 2) by omega], by rw [wrap_next hi (by omega)], n4, ((st.trans s2).trans s3)⟩
  · rintro T L h' ⟨g, t0, t1, t5, no, st⟩
    have hln := no.length
    rw [markT_len (Nat.le_refl _)] at hln
    simp +contextual (maxSteps := 2000000) only [go_sem, Nat.reduceEqDiff, reduceCtorEq, Nat.reduceAdd, Nat.reduceLeDiff, t0, t1, t5, hln, lt_false]
    rw [markT_all] at no
    exact gcK_of ⟨rfl, g, no, st⟩ (fun _ gg => ⟨rfl, ‹Grow h0 h›, no.back hl gg, (Grow.refl h).stay v⟩)
  · simp +contextual (maxSteps := 2000000) only [go_sem, Nat.reduceEqDiff, reduceCtorEq, Nat.reduceAdd, Nat.reduceLeDiff]
    exact ⟨g, by simp, rfl, by rw [markT_zero]; exact hl, (Grow.refl h).stay v⟩
section
variable {P : Program} {T : Tb} {L : Lb} {h : H} {Q : PostC} {K : Post}
/-! laws.heldPairS -/
def L93_0 : List AStep := [⟨.mov (.c (.int .i64 0)), (some 4), none, []⟩]
theorem v93_0 : wpS P L93_0 T L (rdy h) K = wpS P ([⟨.mov (.c (.int .i64 0)), (some 4), none, []⟩]) T L (rdy h) K := rfl
def L93_1 : List AStep := [⟨.mov (.c (.int .i64 0)), (some 5), none, []⟩]
theorem v93_1 : wpS P L93_1 T L (rdy h) K = wpS P ([⟨.mov (.c (.int .i64 0)), (some 5), none, []⟩]) T L (rdy h) K := rfl
def L93_2 : List AStep := [⟨.len (.t 7), (some 8), none, []⟩, ⟨.bin .lss (.t 6) (.t 8), (some 9), none, []⟩]
theorem v93_2 : wpS P L93_2 T L (rdy h) K = wpS P ([⟨.len (.t 7), (some 8), none, []⟩, ⟨.bin .lss (.t 6) (.t 8), (some 9), none, []⟩]) T L (rdy h) K := rfl
def L93_3 : List AStep := ⟨.mov (.t 5), (some 6), none, []⟩ :: ⟨.mov (.t 0), (some 7), none, []⟩ :: L93_2
theorem v93_3 : wpS P L93_3 T L (rdy h) K = wpS P (⟨.mov (.t 5), (some 6), none, []⟩ :: ⟨.mov (.t 0), (some 7), none, []⟩ :: L93_2) T L (rdy h) K := rfl
def L93_4 : List AStep := [⟨.call 89 [(.t 17)], (some 18), none, [(.load 1 false (.t 15), (some 16), none)]⟩, ⟨.bin .neq (.t 16) (.t 18), (some 19), none, []⟩]
theorem v93_4 : wpS P L93_4 T L (rdy h) K = wpS P ([⟨.call 89 [(.t 17)], (some 18), none, [(.load 1 false (.t 15), (some 16), none)]⟩, ⟨.bin .neq (.t 16) (.t 18), (some 19), none, []⟩]) T L (rdy h) K := rfl
def L93_5 : List AStep := ⟨.load 1 false (.t 15), (some 16), none, []⟩ :: ⟨.mov (.t 1), (some 17), none, []⟩ :: L93_4
theorem v93_5 : wpS P L93_5 T L (rdy h) K = wpS P (⟨.load 1 false (.t 15), (some 16), none, []⟩ :: ⟨.mov (.t 1), (some 17), none, []⟩ :: L93_4) T L (rdy h) K := rfl
def L93_6 : List AStep := ⟨.iaddr 2 (.t 12) (.t 13), (some 14), none, []⟩ :: ⟨.faddr 0 (.t 14), (some 15), none, []⟩ :: L93_5
theorem v93_6 : wpS P L93_6 T L (rdy h) K = wpS P (⟨.iaddr 2 (.t 12) (.t 13), (some 14), none, []⟩ :: ⟨.faddr 0 (.t 14), (some 15), none, []⟩ :: L93_5) T L (rdy h) K := rfl
def L93_7 : List AStep := ⟨.mov (.t 0), (some 12), none, []⟩ :: ⟨.mov (.t 5), (some 13), none, []⟩ :: L93_6
theorem v93_7 : wpS P L93_7 T L (rdy h) K = wpS P (⟨.mov (.t 0), (some 12), none, []⟩ :: ⟨.mov (.t 5), (some 13), none, []⟩ :: L93_6) T L (rdy h) K := rfl
def L93_8 : List AStep := [⟨.mov (.c (.int .i64 (-1))), (some 4), none, []⟩]
theorem v93_8 : wpS P L93_8 T L (rdy h) K = wpS P ([⟨.mov (.c (.int .i64 (-1))), (some 4), none, []⟩]) T L (rdy h) K := rfl
def L93_9 : List AStep := [⟨.mov (.t 21), (some 1), none, []⟩]
theorem v93_9 : wpS P L93_9 T L (rdy h) K = wpS P ([⟨.mov (.t 21), (some 1), none, []⟩]) T L (rdy h) K := rfl
def L93_10 : List AStep := ⟨.mov (.t 1), (some 20), none, []⟩ :: ⟨.bin .add (.t 20) (.c (.int .i64 1)), (some 21), none, []⟩ :: L93_9
theorem v93_10 : wpS P L93_10 T L (rdy h) K = wpS P (⟨.mov (.t 1), (some 20), none, []⟩ :: ⟨.bin .add (.t 20) (.c (.int .i64 1)), (some 21), none, []⟩ :: L93_9) T L (rdy h) K := rfl
def L93_11 : List AStep := [⟨.bin .neq (.t 26) (.t 27), (some 28), none, []⟩]
theorem v93_11 : wpS P L93_11 T L (rdy h) K = wpS P ([⟨.bin .neq (.t 26) (.t 27), (some 28), none, []⟩]) T L (rdy h) K := rfl
def L93_12 : List AStep := ⟨.load 1 false (.t 25), (some 26), none, []⟩ :: ⟨.mov (.t 1), (some 27), none, []⟩ :: L93_11
theorem v93_12 : wpS P L93_12 T L (rdy h) K = wpS P (⟨.load 1 false (.t 25), (some 26), none, []⟩ :: ⟨.mov (.t 1), (some 27), none, []⟩ :: L93_11) T L (rdy h) K := rfl
def L93_13 : List AStep := ⟨.iaddr 2 (.t 22) (.t 23), (some 24), none, []⟩ :: ⟨.faddr 1 (.t 24), (some 25), none, []⟩ :: L93_12
theorem v93_13 : wpS P L93_13 T L (rdy h) K = wpS P (⟨.iaddr 2 (.t 22) (.t 23), (some 24), none, []⟩ :: ⟨.faddr 1 (.t 24), (some 25), none, []⟩ :: L93_12) T L (rdy h) K := rfl
def L93_14 : List AStep := ⟨.mov (.t 0), (some 22), none, []⟩ :: ⟨.mov (.t 5), (some 23), none, []⟩ :: L93_13
theorem v93_14 : wpS P L93_14 T L (rdy h) K = wpS P (⟨.mov (.t 0), (some 22), none, []⟩ :: ⟨.mov (.t 5), (some 23), none, []⟩ :: L93_13) T L (rdy h) K := rfl
def L93_15 : List AStep := [⟨.mov (.c (.int .i64 (-1))), (some 4), none, []⟩]
theorem v93_15 : wpS P L93_15 T L (rdy h) K = wpS P ([⟨.mov (.c (.int .i64 (-1))), (some 4), none, []⟩]) T L (rdy h) K := rfl
def L93_16 : List AStep := [⟨.mov (.t 30), (some 1), none, []⟩]
theorem v93_16 : wpS P L93_16 T L (rdy h) K = wpS P ([⟨.mov (.t 30), (some 1), none, []⟩]) T L (rdy h) K := rfl
def L93_17 : List AStep := ⟨.mov (.t 1), (some 29), none, []⟩ :: ⟨.bin .add (.t 29) (.c (.int .i64 1)), (some 30), none, []⟩ :: L93_16
theorem v93_17 : wpS P L93_17 T L (rdy h) K = wpS P (⟨.mov (.t 1), (some 29), none, []⟩ :: ⟨.bin .add (.t 29) (.c (.int .i64 1)), (some 30), none, []⟩ :: L93_16) T L (rdy h) K := rfl
def L93_18 : List AStep := [⟨.mov (.t 11), (some 5), none, []⟩]
theorem v93_18 : wpS P L93_18 T L (rdy h) K = wpS P ([⟨.mov (.t 11), (some 5), none, []⟩]) T L (rdy h) K := rfl
def L93_19 : List AStep := ⟨.mov (.t 5), (some 10), none, []⟩ :: ⟨.bin .add (.t 10) (.c (.int .i64 1)), (some 11), none, []⟩ :: L93_18
theorem v93_19 : wpS P L93_19 T L (rdy h) K = wpS P (⟨.mov (.t 5), (some 10), none, []⟩ :: ⟨.bin .add (.t 10) (.c (.int .i64 1)), (some 11), none, []⟩ :: L93_18) T L (rdy h) K := rfl
def L93_20 : List AStep := [⟨.mov (.t 1), (some 31), none, []⟩, ⟨.mov (.t 31), (some 4), none, []⟩]
theorem v93_20 : wpS P L93_20 T L (rdy h) K = wpS P ([⟨.mov (.t 1), (some 31), none, []⟩, ⟨.mov (.t 31), (some 4), none, []⟩]) T L (rdy h) K := rfl
def C93_0 : ACode := .cond (.t 9) .skip (.exit 0)
theorem u93_0 : wpC P C93_0 T L (rdy h) Q = wpC P (.cond (.t 9) .skip (.exit 0)) T L (rdy h) Q := rfl
def C93_1 : ACode := .seq (.reg L93_3) C93_0
theorem u93_1 : wpC P C93_1 T L (rdy h) Q = wpC P (.seq (.reg L93_3) C93_0) T L (rdy h) Q := rfl
def C93_2 : ACode := .seq (.reg L93_8) .ret
theorem u93_2 : wpC P C93_2 T L (rdy h) Q = wpC P (.seq (.reg L93_8) .ret) T L (rdy h) Q := rfl
def C93_3 : ACode := .cond (.t 19) C93_2 .skip
theorem u93_3 : wpC P C93_3 T L (rdy h) Q = wpC P (.cond (.t 19) C93_2 .skip) T L (rdy h) Q := rfl
def C93_4 : ACode := .seq (.reg L93_7) C93_3
theorem u93_4 : wpC P C93_4 T L (rdy h) Q = wpC P (.seq (.reg L93_7) C93_3) T L (rdy h) Q := rfl
def C93_5 : ACode := .seq (.reg L93_15) .ret
theorem u93_5 : wpC P C93_5 T L (rdy h) Q = wpC P (.seq (.reg L93_15) .ret) T L (rdy h) Q := rfl
def C93_6 : ACode := .cond (.t 28) C93_5 .skip
theorem u93_6 : wpC P C93_6 T L (rdy h) Q = wpC P (.cond (.t 28) C93_5 .skip) T L (rdy h) Q := rfl
def C93_7 : ACode := .seq (.reg L93_14) C93_6
theorem u93_7 : wpC P C93_7 T L (rdy h) Q = wpC P (.seq (.reg L93_14) C93_6) T L (rdy h) Q := rfl
def C93_8 : ACode := .seq C93_7 (.reg L93_17)
theorem u93_8 : wpC P C93_8 T L (rdy h) Q = wpC P (.seq C93_7 (.reg L93_17)) T L (rdy h) Q := rfl
def C93_9 : ACode := .seq (.reg L93_10) C93_8
theorem u93_9 : wpC P C93_9 T L (rdy h) Q = wpC P (.seq (.reg L93_10) C93_8) T L (rdy h) Q := rfl
def C93_10 : ACode := .seq C93_4 C93_9
theorem u93_10 : wpC P C93_10 T L (rdy h) Q = wpC P (.seq C93_4 C93_9) T L (rdy h) Q := rfl
def C93_11 : ACode := .block 1 C93_10
theorem u93_11 : wpC P C93_11 T L (rdy h) Q = wpC P (.block 1 C93_10) T L (rdy h) Q := rfl
def C93_12 : ACode := .seq C93_11 (.reg L93_19)
theorem u93_12 : wpC P C93_12 T L (rdy h) Q = wpC P (.seq C93_11 (.reg L93_19)) T L (rdy h) Q := rfl
def C93_13 : ACode := .seq C93_1 C93_12
theorem u93_13 : wpC P C93_13 T L (rdy h) Q = wpC P (.seq C93_1 C93_12) T L (rdy h) Q := rfl
def C93_14 : ACode := .block 0 (.loop C93_13)
theorem u93_14 : wpC P C93_14 T L (rdy h) Q = wpC P (.block 0 (.loop C93_13)) T L (rdy h) Q := rfl
def C93_15 : ACode := .seq (.reg L93_1) C93_14
theorem u93_15 : wpC P C93_15 T L (rdy h) Q = wpC P (.seq (.reg L93_1) C93_14) T L (rdy h) Q := rfl
def C93_16 : ACode := .seq (.reg L93_20) .ret
theorem u93_16 : wpC P C93_16 T L (rdy h) Q = wpC P (.seq (.reg L93_20) .ret) T L (rdy h) Q := rfl
def C93_17 : ACode := .seq C93_15 C93_16
theorem u93_17 : wpC P C93_17 T L (rdy h) Q = wpC P (.seq C93_15 C93_16) T L (rdy h) Q := rfl
def C93_18 : ACode := .seq (.reg L93_0) C93_17
theorem u93_18 : wpC P C93_18 T L (rdy h) Q = wpC P (.seq (.reg L93_0) C93_17) T L (rdy h) Q := rfl
def F93 : AFunc := ⟨32, [.tmp 4], C93_18⟩
theorem cF93 : compB Try.prog 93 = some F93 := by kernel_rfl
end
attribute [local go_sem ↓] u93_0 u93_1 u93_2 u93_3 u93_4 u93_5 u93_6 u93_7 u93_8 u93_9 u93_10 u93_11 u93_12 u93_13 u93_14 u93_15 u93_16 u93_17 u93_18 v93_0 v93_1 v93_2 v93_3 v93_4 v93_5 v93_6 v93_7 v93_8 v93_9 v93_10 v93_11 v93_12 v93_13 v93_14 v93_15 v93_16 v93_17 v93_18 v93_19 v93_20
theorem c_heldPairS (n : Nat) (v : AV) (k : Int) (h : H) (hl : SlP h v (markL mkP 2 k n)) (k1 : 0 ≤ k) (k2 : k ≤ 2 ^ 40) (hn : n ≤ 2 ^ 30) :
    bm Try.prog 93 [v, .one (.int .i64 k)] h = some (ii (k + ((2 * n : Nat) : Int)), h) := by
  refine bm_eq cF93 ?_
  have hlen := hl.len
  rw [markL_len] at hlen
  simp +contextual (maxSteps := 2000000) only [go_sem, Nat.reduceEqDiff, reduceCtorEq, Nat.reduceAdd, Nat.reduceLeDiff, F93]
  refine wpC_loop (fun i T L h' => h' = h ∧ T 0 = .v v ∧ T 1 = .v (.one (.int .i64 (k + ((2 * i : Nat) : Int)))) ∧ T 5 = .v (.one (.int .i64 i))) n ?_ ?_ (Nat.zero_le _) ?_
  · rintro i T L h' hi ⟨rfl, t0, t1, t5⟩
    have hio : i < (markL mkP 2 k n).length := by rw [markL_len]; exact hi
    have hat := markL_at hio
    have hia := hl.iaddr hio (kd := .i64)
    have hf : ∀ off : Nat, off + 1 ≤ 2 → _ := fun off ho => hl.fieldO (off := off) hio ho
    rw [hat] at hf
    have h0 := hl.field0 (c := .str (mtxt (k + ((2 * i : Nat) : Int)))) hio (by rw [hat]; rfl)
    have wr1 : IntKind.i64.wrap ((k + ((2 * i : Nat) : Int)) + 1) = (k + ((2 * i : Nat) : Int) + 1) := (i64_wrap (by omega) (by omega)).trans (by omega)
    have wr2 : IntKind.i64.wrap ((k + ((2 * i : Nat) : Int) + 1) + 1) = (k + ((2 * i : Nat) : Int) + 2) := (i64_wrap (by omega) (by omega)).trans (by omega)
    simp +contextual (maxSteps := 2000000) only [go_sem, Nat.reduceEqDiff, reduceCtorEq, Nat.reduceAdd, Nat.reduceLeDiff, t0, t1, t5, hlen, hia, hf, h0, lt_true hi, decide_true, mkP, mBool, wr1, wr2, c_markText (k + ((2 * i : Nat) : Int)) _ (by omega)]
    rw [show k + ((2 * (i + 1) : Nat) : Int) = (k + ((2 * i : Nat) : Int) + 2) by omega, wrap_next hi (by omega)]
    try exact ⟨rfl, rfl⟩
  · rintro T L h' ⟨rfl, t0, t1, t5⟩
    simp +contextual (maxSteps := 2000000) only [go_sem, Nat.reduceEqDiff, reduceCtorEq, Nat.reduceAdd, Nat.reduceLeDiff, t0, t1, t5, hlen, lt_false]
  · simp +contextual (maxSteps := 2000000) only [go_sem, Nat.reduceEqDiff, reduceCtorEq, Nat.reduceAdd, Nat.reduceLeDiff]
    simp
section
variable {P : Program} {T : Tb} {L : Lb} {h : H} {Q : PostC} {K : Post}
/-! laws.markTurnS -/
def L21_0 : List AStep := [⟨.mov (.c (.int .i64 0)), (some 4), none, []⟩]
theorem v21_0 : wpS P L21_0 T L (rdy h) K = wpS P ([⟨.mov (.c (.int .i64 0)), (some 4), none, []⟩]) T L (rdy h) K := rfl
def L21_1 : List AStep := [⟨.mov (.c (.int .i64 0)), (some 5), none, []⟩]
theorem v21_1 : wpS P L21_1 T L (rdy h) K = wpS P ([⟨.mov (.c (.int .i64 0)), (some 5), none, []⟩]) T L (rdy h) K := rfl
def L21_2 : List AStep := [⟨.len (.t 7), (some 8), none, []⟩, ⟨.bin .lss (.t 6) (.t 8), (some 9), none, []⟩]
theorem v21_2 : wpS P L21_2 T L (rdy h) K = wpS P ([⟨.len (.t 7), (some 8), none, []⟩, ⟨.bin .lss (.t 6) (.t 8), (some 9), none, []⟩]) T L (rdy h) K := rfl
def L21_3 : List AStep := ⟨.mov (.t 5), (some 6), none, []⟩ :: ⟨.mov (.t 0), (some 7), none, []⟩ :: L21_2
theorem v21_3 : wpS P L21_3 T L (rdy h) K = wpS P (⟨.mov (.t 5), (some 6), none, []⟩ :: ⟨.mov (.t 0), (some 7), none, []⟩ :: L21_2) T L (rdy h) K := rfl
def L21_4 : List AStep := [⟨.store 1 (.t 17) (.t 15), none, none, []⟩]
theorem v21_4 : wpS P L21_4 T L (rdy h) K = wpS P ([⟨.store 1 (.t 17) (.t 15), none, none, []⟩]) T L (rdy h) K := rfl
def L21_5 : List AStep := ⟨.iaddr 2 (.t 12) (.t 13), (some 16), none, []⟩ :: ⟨.faddr 0 (.t 16), (some 17), none, []⟩ :: L21_4
theorem v21_5 : wpS P L21_5 T L (rdy h) K = wpS P (⟨.iaddr 2 (.t 12) (.t 13), (some 16), none, []⟩ :: ⟨.faddr 0 (.t 16), (some 17), none, []⟩ :: L21_4) T L (rdy h) K := rfl
def L21_6 : List AStep := ⟨.mov (.t 1), (some 14), none, []⟩ :: ⟨.call 89 [(.t 14)], (some 15), none, []⟩ :: L21_5
theorem v21_6 : wpS P L21_6 T L (rdy h) K = wpS P (⟨.mov (.t 1), (some 14), none, []⟩ :: ⟨.call 89 [(.t 14)], (some 15), none, []⟩ :: L21_5) T L (rdy h) K := rfl
def L21_7 : List AStep := ⟨.mov (.t 0), (some 12), none, []⟩ :: ⟨.mov (.t 5), (some 13), none, []⟩ :: L21_6
theorem v21_7 : wpS P L21_7 T L (rdy h) K = wpS P (⟨.mov (.t 0), (some 12), none, []⟩ :: ⟨.mov (.t 5), (some 13), none, []⟩ :: L21_6) T L (rdy h) K := rfl
def L21_8 : List AStep := [⟨.mov (.t 19), (some 1), none, []⟩]
theorem v21_8 : wpS P L21_8 T L (rdy h) K = wpS P ([⟨.mov (.t 19), (some 1), none, []⟩]) T L (rdy h) K := rfl
def L21_9 : List AStep := ⟨.mov (.t 1), (some 18), none, []⟩ :: ⟨.bin .add (.t 18) (.c (.int .i64 1)), (some 19), none, []⟩ :: L21_8
theorem v21_9 : wpS P L21_9 T L (rdy h) K = wpS P (⟨.mov (.t 1), (some 18), none, []⟩ :: ⟨.bin .add (.t 18) (.c (.int .i64 1)), (some 19), none, []⟩ :: L21_8) T L (rdy h) K := rfl
def L21_10 : List AStep := [⟨.store 1 (.t 25) (.t 23), none, none, []⟩]
theorem v21_10 : wpS P L21_10 T L (rdy h) K = wpS P ([⟨.store 1 (.t 25) (.t 23), none, none, []⟩]) T L (rdy h) K := rfl
def L21_11 : List AStep := ⟨.iaddr 2 (.t 20) (.t 21), (some 24), none, []⟩ :: ⟨.faddr 1 (.t 24), (some 25), none, []⟩ :: L21_10
theorem v21_11 : wpS P L21_11 T L (rdy h) K = wpS P (⟨.iaddr 2 (.t 20) (.t 21), (some 24), none, []⟩ :: ⟨.faddr 1 (.t 24), (some 25), none, []⟩ :: L21_10) T L (rdy h) K := rfl
def L21_12 : List AStep := ⟨.mov (.t 1), (some 22), none, []⟩ :: ⟨.call 89 [(.t 22)], (some 23), none, []⟩ :: L21_11
theorem v21_12 : wpS P L21_12 T L (rdy h) K = wpS P (⟨.mov (.t 1), (some 22), none, []⟩ :: ⟨.call 89 [(.t 22)], (some 23), none, []⟩ :: L21_11) T L (rdy h) K := rfl
def L21_13 : List AStep := ⟨.mov (.t 0), (some 20), none, []⟩ :: ⟨.mov (.t 5), (some 21), none, []⟩ :: L21_12
theorem v21_13 : wpS P L21_13 T L (rdy h) K = wpS P (⟨.mov (.t 0), (some 20), none, []⟩ :: ⟨.mov (.t 5), (some 21), none, []⟩ :: L21_12) T L (rdy h) K := rfl
def L21_14 : List AStep := [⟨.mov (.t 27), (some 1), none, []⟩]
theorem v21_14 : wpS P L21_14 T L (rdy h) K = wpS P ([⟨.mov (.t 27), (some 1), none, []⟩]) T L (rdy h) K := rfl
def L21_15 : List AStep := ⟨.mov (.t 1), (some 26), none, []⟩ :: ⟨.bin .add (.t 26) (.c (.int .i64 1)), (some 27), none, []⟩ :: L21_14
theorem v21_15 : wpS P L21_15 T L (rdy h) K = wpS P (⟨.mov (.t 1), (some 26), none, []⟩ :: ⟨.bin .add (.t 26) (.c (.int .i64 1)), (some 27), none, []⟩ :: L21_14) T L (rdy h) K := rfl
def L21_16 : List AStep := [⟨.mov (.t 11), (some 5), none, []⟩]
theorem v21_16 : wpS P L21_16 T L (rdy h) K = wpS P ([⟨.mov (.t 11), (some 5), none, []⟩]) T L (rdy h) K := rfl
def L21_17 : List AStep := ⟨.mov (.t 5), (some 10), none, []⟩ :: ⟨.bin .add (.t 10) (.c (.int .i64 1)), (some 11), none, []⟩ :: L21_16
theorem v21_17 : wpS P L21_17 T L (rdy h) K = wpS P (⟨.mov (.t 5), (some 10), none, []⟩ :: ⟨.bin .add (.t 10) (.c (.int .i64 1)), (some 11), none, []⟩ :: L21_16) T L (rdy h) K := rfl
def L21_18 : List AStep := [⟨.mov (.t 1), (some 28), none, []⟩, ⟨.mov (.t 28), (some 4), none, []⟩]
theorem v21_18 : wpS P L21_18 T L (rdy h) K = wpS P ([⟨.mov (.t 1), (some 28), none, []⟩, ⟨.mov (.t 28), (some 4), none, []⟩]) T L (rdy h) K := rfl
def C21_0 : ACode := .cond (.t 9) .skip (.exit 0)
theorem u21_0 : wpC P C21_0 T L (rdy h) Q = wpC P (.cond (.t 9) .skip (.exit 0)) T L (rdy h) Q := rfl
def C21_1 : ACode := .seq (.reg L21_3) C21_0
theorem u21_1 : wpC P C21_1 T L (rdy h) Q = wpC P (.seq (.reg L21_3) C21_0) T L (rdy h) Q := rfl
def C21_2 : ACode := .seq (.reg L21_13) (.reg L21_15)
theorem u21_2 : wpC P C21_2 T L (rdy h) Q = wpC P (.seq (.reg L21_13) (.reg L21_15)) T L (rdy h) Q := rfl
def C21_3 : ACode := .seq (.reg L21_9) C21_2
theorem u21_3 : wpC P C21_3 T L (rdy h) Q = wpC P (.seq (.reg L21_9) C21_2) T L (rdy h) Q := rfl
def C21_4 : ACode := .seq (.reg L21_7) C21_3
theorem u21_4 : wpC P C21_4 T L (rdy h) Q = wpC P (.seq (.reg L21_7) C21_3) T L (rdy h) Q := rfl
def C21_5 : ACode := .block 1 C21_4
theorem u21_5 : wpC P C21_5 T L (rdy h) Q = wpC P (.block 1 C21_4) T L (rdy h) Q := rfl
def C21_6 : ACode := .seq C21_5 (.reg L21_17)
theorem u21_6 : wpC P C21_6 T L (rdy h) Q = wpC P (.seq C21_5 (.reg L21_17)) T L (rdy h) Q := rfl
def C21_7 : ACode := .seq C21_1 C21_6
theorem u21_7 : wpC P C21_7 T L (rdy h) Q = wpC P (.seq C21_1 C21_6) T L (rdy h) Q := rfl
def C21_8 : ACode := .block 0 (.loop C21_7)
theorem u21_8 : wpC P C21_8 T L (rdy h) Q = wpC P (.block 0 (.loop C21_7)) T L (rdy h) Q := rfl
def C21_9 : ACode := .seq (.reg L21_1) C21_8
theorem u21_9 : wpC P C21_9 T L (rdy h) Q = wpC P (.seq (.reg L21_1) C21_8) T L (rdy h) Q := rfl
def C21_10 : ACode := .seq (.reg L21_18) .ret
theorem u21_10 : wpC P C21_10 T L (rdy h) Q = wpC P (.seq (.reg L21_18) .ret) T L (rdy h) Q := rfl
def C21_11 : ACode := .seq C21_9 C21_10
theorem u21_11 : wpC P C21_11 T L (rdy h) Q = wpC P (.seq C21_9 C21_10) T L (rdy h) Q := rfl
def C21_12 : ACode := .seq (.reg L21_0) C21_11
theorem u21_12 : wpC P C21_12 T L (rdy h) Q = wpC P (.seq (.reg L21_0) C21_11) T L (rdy h) Q := rfl
def F21 : AFunc := ⟨29, [.tmp 4], C21_12⟩
theorem cF21 : compB Try.prog 21 = some F21 := by kernel_rfl
end
attribute [local go_sem ↓] u21_0 u21_1 u21_2 u21_3 u21_4 u21_5 u21_6 u21_7 u21_8 u21_9 u21_10 u21_11 u21_12 v21_0 v21_1 v21_2 v21_3 v21_4 v21_5 v21_6 v21_7 v21_8 v21_9 v21_10 v21_11 v21_12 v21_13 v21_14 v21_15 v21_16 v21_17 v21_18
theorem c_markTurnS (l : List Turn) (v : AV) (k : Int) (h0 h : H) (hl : NwT h0 h v l) (g : Grow h0 h) (k1 : 0 ≤ k) (k2 : k ≤ 2 ^ 40) (hn : l.length ≤ 2 ^ 30) :
    callK (bm Try.prog 21 [v, .one (.int .i64 k)] h) fun r h' => r = ii (k + ((2 * l.length : Nat) : Int)) ∧ Grow h0 h' ∧ NwT h0 h' v (markL mkT 2 k l.length) ∧ Stay v h h' := by
  refine bm_of cF21 ?_
  simp +contextual (maxSteps := 2000000) only [go_sem, Nat.reduceEqDiff, reduceCtorEq, Nat.reduceAdd, Nat.reduceLeDiff, F21]
  refine wpC_loop (fun i T L h' => Grow h0 h' ∧ T 0 = .v v ∧ T 1 = .v (.one (.int .i64 (k + ((2 * i : Nat) : Int)))) ∧ T 5 = .v (.one (.int .i64 i)) ∧ NwT h0 h' v (markT mkT 2 k l i) ∧ Stay v h h') l.length ?_ ?_ (Nat.zero_le _) ?_
  · rintro i T L h' hi ⟨g, t0, t1, t5, no, st⟩
    have hlen : (markT mkT 2 k l i).length = l.length := markT_len (by omega)
    have hio : i < (markT mkT 2 k l i).length := by omega
    have hln := no.length
    rw [hlen] at hln
    have hia := no.iaddr hio (kd := .i64)
    have wr1 : IntKind.i64.wrap ((k + ((2 * i : Nat) : Int)) + 1) = (k + ((2 * i : Nat) : Int) + 1) := (i64_wrap (by omega) (by omega)).trans (by omega)
    have wr2 : IntKind.i64.wrap ((k + ((2 * i : Nat) : Int) + 1) + 1) = (k + ((2 * i : Nat) : Int) + 2) := (i64_wrap (by omega) (by omega)).trans (by omega)
    simp +contextual (maxSteps := 2000000) only [go_sem, Nat.reduceEqDiff, reduceCtorEq, Nat.reduceAdd, Nat.reduceLeDiff, t0, t1, t5, hln, hia, lt_true hi, wr1, wr2, c_markText (k + ((2 * i : Nat) : Int)) _ (by omega), c_markText (k + ((2 * i : Nat) : Int) + 1) _ (by omega)]
    refine wp_set (x := (⟨mtxt (k + ((2 * i : Nat) : Int)), (markT mkT 2 k l i)[i].to⟩ : Turn)) (off := 0) (vs := [.str (mtxt (k + ((2 * i : Nat) : Int)))]) lenT no (by first | exact hio | (simp only [List.length_set]; exact hio)) rfl (by simp [encT, List.getElem_set_self]) (Nat.le_of_ble_eq_true rfl) g ?_
    intro h2 g2 n2 s2
    try rw [List.set_set] at n2
    simp +contextual (maxSteps := 2000000) only [go_sem, Nat.reduceEqDiff, reduceCtorEq, Nat.reduceAdd, Nat.reduceLeDiff, t0, t1, t5, hln, hia, wr1, wr2, c_markText (k + ((2 * i : Nat) : Int)) _ (by omega), c_markText (k + ((2 * i : Nat) : Int) + 1) _ (by omega)]
    refine wp_set (x := (⟨mtxt (k + ((2 * i : Nat) : Int)), mtxt (k + ((2 * i : Nat) : Int) + 1)⟩ : Turn)) (off := 1) (vs := [.str (mtxt (k + ((2 * i : Nat) : Int) + 1))]) lenT n2 (by first | exact hio | (simp only [List.length_set]; exact hio)) rfl (by simp [encT, List.getElem_set_self]) (Nat.le_of_ble_eq_true rfl) g2 ?_
    intro h3 g3 n3 s3
    try rw [List.set_set] at n3
    simp +contextual (maxSteps := 2000000) only [go_sem, Nat.reduceEqDiff, reduceCtorEq, Nat.reduceAdd, Nat.reduceLeDiff, t0, t1, t5, hln, hia, wr1, wr2, c_markText (k + ((2 * i : Nat) : Int)) _ (by omega), c_markText (k + ((2 * i : Nat) : Int) + 1) _ (by omega)]
    have e : (markT mkT 2 k l i).set i (mkT (k + ((2 * i : Nat) : Int))) = markT mkT 2 k l (i + 1) := markT_set hi
    have n4 : NwT h0 h3 v (markT mkT 2 k l (i + 1)) := by rw [← e]; exact n3
    refine ⟨g3, by rw [show k + ((2 * (i + 1) : Nat) : Int) = (k + ((2 * i : Nat) : Int) + 2) by omega], by rw [wrap_next hi (by omega)], n4, ((st.trans s2).trans s3)⟩
  · rintro T L h' ⟨g, t0, t1, t5, no, st⟩
    have hln := no.length
    rw [markT_len (Nat.le_refl _)] at hln
    simp +contextual (maxSteps := 2000000) only [go_sem, Nat.reduceEqDiff, reduceCtorEq, Nat.reduceAdd, Nat.reduceLeDiff, t0, t1, t5, hln, lt_false]
    rw [markT_all] at no
    exact gcK_of ⟨rfl, g, no, st⟩ (fun _ gg => ⟨rfl, ‹Grow h0 h›, no.back hl gg, (Grow.refl h).stay v⟩)
  · simp +contextual (maxSteps := 2000000) only [go_sem, Nat.reduceEqDiff, reduceCtorEq, Nat.reduceAdd, Nat.reduceLeDiff]
    exact ⟨g, by simp, rfl, by rw [markT_zero]; exact hl, (Grow.refl h).stay v⟩
end Go.Proofs.Ytcbnihbilmlokaa.Am
