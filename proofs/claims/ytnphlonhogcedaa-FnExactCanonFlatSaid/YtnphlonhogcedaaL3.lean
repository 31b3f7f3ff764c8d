/- Contracts of the laws: copies, marks, and what is held of them. -/
import Derived.Test.YtnphlonhogcedaaDat
namespace Go.Proofs.Ytnphlonhogcedaa.Am
open Go
set_option maxRecDepth 100000
set_option maxHeartbeats 4000000
set_option linter.unusedSimpArgs false
set_option linter.unusedVariables false
attribute [local go_sem ↓] bv_t bv_c ev_t ev_c put_same put_ne put_none kill_at pro_at lb_same lb_ne start_zero start_succ wpC_seq wpC_reg wpC_cond wpC_block wpC_skip wpC_exit wpC_ret thenQ_normal thenQ_exit thenQ_ret inBlk_normal inBlk_exit inBlk_ret wpS_nil wpS_step wpS_again wpS_guard wpO_mov wpO_load wpO_faddr wpO_nilCheck wpO_pick wpO_build wpO_bin wpO_eqb wpO_eqst wpO_eqnil wpO_not wpO_conv wpO_bytesStr wpO_iaddr wpO_idxStr wpO_field wpO_extract wpO_len wpO_lenStr wpO_cap wpO_min wpO_slice wpO_sliceStr wpO_alloc wpO_box wpO_store wpO_call wpO_callv wpO_mkfn wpO_buildSlice wpO_mkslice wpO_append wpO_appz proA_nil proA_cons tmpX_nil tmpX_tmp tmpX_cell doneB_normal doneB_ret agK_cons agK_nil pureB_load results_one results_two results_nil resBs_cons resBs_nil resB_tmp resB_cell
attribute [local go_sem] kill_v kill_lp_ne kill_lp_same pro_v pro_lp_same pro_lp_ne av_v av_lp optB_some optX_some valX_eq ldX_lp ldX_v faX_lp faX_v ncX_lp ncX_ptr ncX_fn boxK_one boxK_agg stL_some stK_lp_one stK_lp_agg stK_v_one stK_v_agg proM_v proM_lp callG_mk callVG_mk callvK_fn fnG_mk ptrsA_nil ptrsA_cons callH_some whenA_true whenA_false guardH_tt guardH_ff guardH_tf guardH_ft guardH_undef agV_one agV_agg lenO_sl lenStrO_str notO_bool pickO_bool convO_int eqbO_bool eqnilO_sl extractO_tup capO_sl minO_int loadL_one loadL_all storeL_eq fillA_nil fillA_one fillA_agg nat_ge neg_ge nat_lt neg_lt buildO bin_add bin_sub bin_mul bin_eql bin_neq bin_lss bin_leq bin_gtr bin_geq str_eql str_neq str_lss str_leq str_gtr str_geq retK_some endK_mk gcK_same gcK_int gcK_bool tupO_one tupO_agg rdy_self ib ii Option.map_none Option.map_some Option.some.injEq exists_eq_left' exists_eq_left ne_eq not_false_eq_true if_true if_false List.map_cons List.map_nil List.getElem?_cons_zero List.getElem?_cons_succ List.length_cons List.length_nil List.take_succ_cons List.take_zero List.take_nil List.drop_succ_cons List.drop_zero List.drop_nil List.cons_append List.nil_append List.append_nil List.set_cons_zero List.set_cons_succ Nat.zero_add forall_const true_and and_true and_self Bool.false_eq_true false_implies true_implies implies_true Bool.not_true Bool.not_false Bool.not_eq_true' Bool.not_eq_false' beq_self_eq_true Bool.bne_true Bool.bne_false
attribute [local go_sem] lenI lenS lenP lenQ lenB lenL lenT encI_0 encS_0 encP_0 encP_1 encQ_0 encQ_1 encQ_2 encQ_3 encB_0 encB_1 encL_0 encL_1 encT_0 encT_1
attribute [local go_sem low] whenA_bool guardH_bool
def encU (n : Int) : List CV := [.int .u8 n]
section
variable {P : Program} {T : Tb} {L : Lb} {h : H} {Q : PostC} {K : Post}
/-! laws.markText -/
def L143_0 : List AStep := [⟨.mov (.c (.str (strOfNums []))), (some 2), none, []⟩]
theorem v143_0 : wpS P L143_0 T L (rdy h) K = wpS P ([⟨.mov (.c (.str (strOfNums []))), (some 2), none, []⟩]) T L (rdy h) K := rfl
def L143_1 : List AStep := [⟨.mov (.t 0), (some 4), none, []⟩, ⟨.bin .leq (.t 4) (.c (.int .i64 0)), (some 5), none, []⟩]
theorem v143_1 : wpS P L143_1 T L (rdy h) K = wpS P ([⟨.mov (.t 0), (some 4), none, []⟩, ⟨.bin .leq (.t 4) (.c (.int .i64 0)), (some 5), none, []⟩]) T L (rdy h) K := rfl
def L143_2 : List AStep := [⟨.mov (.c (.str (strOfNums [109, 48]))), (some 2), none, []⟩]
theorem v143_2 : wpS P L143_2 T L (rdy h) K = wpS P ([⟨.mov (.c (.str (strOfNums [109, 48]))), (some 2), none, []⟩]) T L (rdy h) K := rfl
def L143_3 : List AStep := [⟨.mov (.c (.str (strOfNums []))), (some 3), none, []⟩]
theorem v143_3 : wpS P L143_3 T L (rdy h) K = wpS P ([⟨.mov (.c (.str (strOfNums []))), (some 3), none, []⟩]) T L (rdy h) K := rfl
def L143_4 : List AStep := [⟨.mov (.t 0), (some 6), none, []⟩, ⟨.bin .gtr (.t 6) (.c (.int .i64 0)), (some 7), none, []⟩]
theorem v143_4 : wpS P L143_4 T L (rdy h) K = wpS P ([⟨.mov (.t 0), (some 6), none, []⟩, ⟨.bin .gtr (.t 6) (.c (.int .i64 0)), (some 7), none, []⟩]) T L (rdy h) K := rfl
def L143_5 : List AStep := [⟨.mov (.t 15), (some 3), none, []⟩]
theorem v143_5 : wpS P L143_5 T L (rdy h) K = wpS P ([⟨.mov (.t 15), (some 3), none, []⟩]) T L (rdy h) K := rfl
def L143_6 : List AStep := ⟨.mov (.t 3), (some 14), none, []⟩ :: ⟨.bin .add (.t 13) (.t 14), (some 15), none, []⟩ :: L143_5
theorem v143_6 : wpS P L143_6 T L (rdy h) K = wpS P (⟨.mov (.t 3), (some 14), none, []⟩ :: ⟨.bin .add (.t 13) (.t 14), (some 15), none, []⟩ :: L143_5) T L (rdy h) K := rfl
def L143_7 : List AStep := ⟨.buildSlice 5 1 [(.int .u8 0)] [(0, 1, (.t 11))], (some 12), none, []⟩ :: ⟨.bytesStr (.t 12), (some 13), none, []⟩ :: L143_6
theorem v143_7 : wpS P L143_7 T L (rdy h) K = wpS P (⟨.buildSlice 5 1 [(.int .u8 0)] [(0, 1, (.t 11))], (some 12), none, []⟩ :: ⟨.bytesStr (.t 12), (some 13), none, []⟩ :: L143_6) T L (rdy h) K := rfl
def L143_8 : List AStep := ⟨.bin .add (.c (.int .i64 48)) (.t 9), (some 10), none, []⟩ :: ⟨.conv .u8 (.t 10), (some 11), none, []⟩ :: L143_7
theorem v143_8 : wpS P L143_8 T L (rdy h) K = wpS P (⟨.bin .add (.c (.int .i64 48)) (.t 9), (some 10), none, []⟩ :: ⟨.conv .u8 (.t 10), (some 11), none, []⟩ :: L143_7) T L (rdy h) K := rfl
def L143_9 : List AStep := ⟨.mov (.t 0), (some 8), none, []⟩ :: ⟨.bin .rem (.t 8) (.c (.int .i64 10)), (some 9), none, []⟩ :: L143_8
theorem v143_9 : wpS P L143_9 T L (rdy h) K = wpS P (⟨.mov (.t 0), (some 8), none, []⟩ :: ⟨.bin .rem (.t 8) (.c (.int .i64 10)), (some 9), none, []⟩ :: L143_8) T L (rdy h) K := rfl
def L143_10 : List AStep := [⟨.mov (.t 17), (some 0), none, []⟩]
theorem v143_10 : wpS P L143_10 T L (rdy h) K = wpS P ([⟨.mov (.t 17), (some 0), none, []⟩]) T L (rdy h) K := rfl
def L143_11 : List AStep := ⟨.mov (.t 0), (some 16), none, []⟩ :: ⟨.bin .quo (.t 16) (.c (.int .i64 10)), (some 17), none, []⟩ :: L143_10
theorem v143_11 : wpS P L143_11 T L (rdy h) K = wpS P (⟨.mov (.t 0), (some 16), none, []⟩ :: ⟨.bin .quo (.t 16) (.c (.int .i64 10)), (some 17), none, []⟩ :: L143_10) T L (rdy h) K := rfl
def L143_12 : List AStep := [⟨.mov (.t 19), (some 2), none, []⟩]
theorem v143_12 : wpS P L143_12 T L (rdy h) K = wpS P ([⟨.mov (.t 19), (some 2), none, []⟩]) T L (rdy h) K := rfl
def L143_13 : List AStep := ⟨.mov (.t 3), (some 18), none, []⟩ :: ⟨.bin .add (.c (.str (strOfNums [109]))) (.t 18), (some 19), none, []⟩ :: L143_12
theorem v143_13 : wpS P L143_13 T L (rdy h) K = wpS P (⟨.mov (.t 3), (some 18), none, []⟩ :: ⟨.bin .add (.c (.str (strOfNums [109]))) (.t 18), (some 19), none, []⟩ :: L143_12) T L (rdy h) K := rfl
def C143_0 : ACode := .seq (.reg L143_2) .ret
theorem u143_0 : wpC P C143_0 T L (rdy h) Q = wpC P (.seq (.reg L143_2) .ret) T L (rdy h) Q := rfl
def C143_1 : ACode := .cond (.t 5) C143_0 .skip
theorem u143_1 : wpC P C143_1 T L (rdy h) Q = wpC P (.cond (.t 5) C143_0 .skip) T L (rdy h) Q := rfl
def C143_2 : ACode := .seq (.reg L143_1) C143_1
theorem u143_2 : wpC P C143_2 T L (rdy h) Q = wpC P (.seq (.reg L143_1) C143_1) T L (rdy h) Q := rfl
def C143_3 : ACode := .cond (.t 7) .skip (.exit 0)
theorem u143_3 : wpC P C143_3 T L (rdy h) Q = wpC P (.cond (.t 7) .skip (.exit 0)) T L (rdy h) Q := rfl
def C143_4 : ACode := .seq (.reg L143_4) C143_3
theorem u143_4 : wpC P C143_4 T L (rdy h) Q = wpC P (.seq (.reg L143_4) C143_3) T L (rdy h) Q := rfl
def C143_5 : ACode := .seq (.reg L143_9) (.reg L143_11)
theorem u143_5 : wpC P C143_5 T L (rdy h) Q = wpC P (.seq (.reg L143_9) (.reg L143_11)) T L (rdy h) Q := rfl
def C143_6 : ACode := .block 1 C143_5
theorem u143_6 : wpC P C143_6 T L (rdy h) Q = wpC P (.block 1 C143_5) T L (rdy h) Q := rfl
def C143_7 : ACode := .seq C143_4 C143_6
theorem u143_7 : wpC P C143_7 T L (rdy h) Q = wpC P (.seq C143_4 C143_6) T L (rdy h) Q := rfl
def C143_8 : ACode := .block 0 (.loop C143_7)
theorem u143_8 : wpC P C143_8 T L (rdy h) Q = wpC P (.block 0 (.loop C143_7)) T L (rdy h) Q := rfl
def C143_9 : ACode := .seq (.reg L143_13) .ret
theorem u143_9 : wpC P C143_9 T L (rdy h) Q = wpC P (.seq (.reg L143_13) .ret) T L (rdy h) Q := rfl
def C143_10 : ACode := .seq C143_8 C143_9
theorem u143_10 : wpC P C143_10 T L (rdy h) Q = wpC P (.seq C143_8 C143_9) T L (rdy h) Q := rfl
def C143_11 : ACode := .seq (.reg L143_3) C143_10
theorem u143_11 : wpC P C143_11 T L (rdy h) Q = wpC P (.seq (.reg L143_3) C143_10) T L (rdy h) Q := rfl
def C143_12 : ACode := .seq C143_2 C143_11
theorem u143_12 : wpC P C143_12 T L (rdy h) Q = wpC P (.seq C143_2 C143_11) T L (rdy h) Q := rfl
def C143_13 : ACode := .seq (.reg L143_0) C143_12
theorem u143_13 : wpC P C143_13 T L (rdy h) Q = wpC P (.seq (.reg L143_0) C143_12) T L (rdy h) Q := rfl
def F143 : AFunc := ⟨20, [.tmp 2], C143_13⟩
theorem cF143 : compB Try.prog 143 = some F143 := by kernel_rfl
end
attribute [local go_sem ↓] u143_0 u143_1 u143_2 u143_3 u143_4 u143_5 u143_6 u143_7 u143_8 u143_9 u143_10 u143_11 u143_12 u143_13 v143_0 v143_1 v143_2 v143_3 v143_4 v143_5 v143_6 v143_7 v143_8 v143_9 v143_10 v143_11 v143_12 v143_13
theorem c_markText (k : Int) (h : H) (h1 : k < 2 ^ 60) : bm Try.prog 143 [.one (.int .i64 k)] h = some (.one (.str (mtxt k)), h) := by
  by_cases hk : k ≤ 0
  · refine bm_eq cF143 ?_
    simp +contextual (maxSteps := 2000000) only [go_sem, Nat.reduceEqDiff, reduceCtorEq, Nat.reduceAdd, Nat.reduceLeDiff, F143, decide_eq_true hk]
    unfold mtxt
    rw [if_pos hk]
  obtain ⟨n, rfl⟩ : ∃ n : Nat, k = n := ⟨k.toNat, by omega⟩
  have key : callK (bm Try.prog 143 [.one (.int .i64 n)] h) fun v h' => v = .one (.str (mtxt n)) ∧ h' = h := by
    refine bm_of cF143 ?_
    simp +contextual (maxSteps := 2000000) only [go_sem, Nat.reduceEqDiff, reduceCtorEq, Nat.reduceAdd, Nat.reduceLeDiff, F143, decide_eq_false hk]
    refine wpC_while (fun m T L h' => Grow h h' ∧ T 0 = .v (.one (.int .i64 m)) ∧ ∃ s, T 3 = .v (.one (.str s)) ∧ mDig m s = mDig n (strOfNums []) ∧ s.size + m ≤ n) ?_ ?_ (m := n)
    · rintro m T L h' ⟨g, t0, s, t3, e1, e2⟩
      by_cases hm : m = 0
      · subst hm
        have e3 : mDig 0 s = s := by unfold mDig; simp
        rw [e3] at e1
        simp +contextual (maxSteps := 2000000) only [go_sem, Nat.reduceEqDiff, reduceCtorEq, Nat.reduceAdd, Nat.reduceLeDiff, t0, t3, show decide (((0 : Nat) : Int) > 0) = false from rfl]
        have e4 : (strOfNums [109]).size = 1 := strOfNums_size _
        simp +contextual (maxSteps := 2000000) only [go_sem, Nat.reduceEqDiff, reduceCtorEq, Nat.reduceAdd, Nat.reduceLeDiff, str_add (s := strOfNums [109]) (t := s) (by rw [e4]; omega)]
        refine gcR_of g rfl ⟨?_, rfl⟩
        unfold mtxt
        rw [if_neg hk, e1]
        rfl
      · have e5 : mDig m s = mDig (m / 10) (strOfNums [digit m] ++ s) := by rw [mDig, dif_neg hm]
        simp +contextual (maxSteps := 2000000) only [go_sem, Nat.reduceEqDiff, reduceCtorEq, Nat.reduceAdd, Nat.reduceLeDiff, t0, t3, decide_eq_true (show ((m : Nat) : Int) > 0 by omega), bin_rem (k := .i64) (a := (m : Int)) (b := 10) (by decide), bin_quo (k := .i64) (a := (m : Int)) (b := 10) (by decide)]
        refine wp_lit (enc := encU) (k := 1) [digit m] rfl rfl ?_
        intro h2 v g2 n2 _
        have hb := bytes_at (n2.sl (fun _ => rfl)) (by simp)
        have e4 : (strOfNums [digit m]).size = 1 := strOfNums_size _
        simp +contextual (maxSteps := 2000000) only [go_sem, Nat.reduceEqDiff, reduceCtorEq, Nat.reduceAdd, Nat.reduceLeDiff, hb, t0, t3, str_add (s := strOfNums [digit m]) (t := s) (by rw [e4]; omega), bin_quo (k := .i64) (a := (m : Int)) (b := 10) (by decide)]
        refine ⟨m / 10, by omega, g.trans g2, ?_, _, rfl, ?_, ?_⟩
        · rw [show (m : Int).tdiv 10 = ((m / 10 : Nat) : Int) by rw [Int.tdiv_eq_ediv_of_nonneg (by omega)]; omega, wrap_nat (by omega)]
        · rw [← e5, e1]
        · rw [ByteArray.size_append, e4]
          omega
    · simp +contextual (maxSteps := 2000000) only [go_sem, Nat.reduceEqDiff, reduceCtorEq, Nat.reduceAdd, Nat.reduceLeDiff]
      exact ⟨Grow.refl h, _, rfl, rfl, by rw [strOfNums_size]; simp⟩
  obtain ⟨v, h', e1, rfl, rfl⟩ := key
  exact e1
section
variable {P : Program} {T : Tb} {L : Lb} {h : H} {Q : PostC} {K : Post}
/-! laws.toParam -/
def L194_0 : List AStep := [⟨.box 202 (.t 0), (some 1), none, []⟩, ⟨.alloc 108 [(.str (strOfNums [])), (.int .i64 0), (.bool false), (.int .i64 0)], (some 2), none, []⟩]
theorem v194_0 : wpS P L194_0 T L (rdy h) K = wpS P ([⟨.box 202 (.t 0), (some 1), none, []⟩, ⟨.alloc 108 [(.str (strOfNums [])), (.int .i64 0), (.bool false), (.int .i64 0)], (some 2), none, []⟩]) T L (rdy h) K := rfl
def L194_1 : List AStep := [⟨.alloc 108 [(.str (strOfNums [])), (.int .i64 0), (.bool false), (.int .i64 0)], (some 3), none, []⟩]
theorem v194_1 : wpS P L194_1 T L (rdy h) K = wpS P ([⟨.alloc 108 [(.str (strOfNums [])), (.int .i64 0), (.bool false), (.int .i64 0)], (some 3), none, []⟩]) T L (rdy h) K := rfl
def L194_2 : List AStep := [⟨.faddr 0 (.t 3), (some 6), none, []⟩, ⟨.store 1 (.t 6) (.t 5), none, none, []⟩]
theorem v194_2 : wpS P L194_2 T L (rdy h) K = wpS P ([⟨.faddr 0 (.t 3), (some 6), none, []⟩, ⟨.store 1 (.t 6) (.t 5), none, none, []⟩]) T L (rdy h) K := rfl
def L194_3 : List AStep := ⟨.faddr 0 (.t 1), (some 4), none, []⟩ :: ⟨.load 1 false (.t 4), (some 5), none, []⟩ :: L194_2
theorem v194_3 : wpS P L194_3 T L (rdy h) K = wpS P (⟨.faddr 0 (.t 1), (some 4), none, []⟩ :: ⟨.load 1 false (.t 4), (some 5), none, []⟩ :: L194_2) T L (rdy h) K := rfl
def L194_4 : List AStep := [⟨.faddr 1 (.t 3), (some 9), none, []⟩, ⟨.store 1 (.t 9) (.t 8), none, none, []⟩]
theorem v194_4 : wpS P L194_4 T L (rdy h) K = wpS P ([⟨.faddr 1 (.t 3), (some 9), none, []⟩, ⟨.store 1 (.t 9) (.t 8), none, none, []⟩]) T L (rdy h) K := rfl
def L194_5 : List AStep := ⟨.faddr 1 (.t 1), (some 7), none, []⟩ :: ⟨.load 1 false (.t 7), (some 8), none, []⟩ :: L194_4
theorem v194_5 : wpS P L194_5 T L (rdy h) K = wpS P (⟨.faddr 1 (.t 1), (some 7), none, []⟩ :: ⟨.load 1 false (.t 7), (some 8), none, []⟩ :: L194_4) T L (rdy h) K := rfl
def L194_6 : List AStep := [⟨.faddr 2 (.t 3), (some 12), none, []⟩, ⟨.store 1 (.t 12) (.t 11), none, none, []⟩]
theorem v194_6 : wpS P L194_6 T L (rdy h) K = wpS P ([⟨.faddr 2 (.t 3), (some 12), none, []⟩, ⟨.store 1 (.t 12) (.t 11), none, none, []⟩]) T L (rdy h) K := rfl
def L194_7 : List AStep := ⟨.faddr 2 (.t 1), (some 10), none, []⟩ :: ⟨.load 1 false (.t 10), (some 11), none, []⟩ :: L194_6
theorem v194_7 : wpS P L194_7 T L (rdy h) K = wpS P (⟨.faddr 2 (.t 1), (some 10), none, []⟩ :: ⟨.load 1 false (.t 10), (some 11), none, []⟩ :: L194_6) T L (rdy h) K := rfl
def L194_8 : List AStep := [⟨.faddr 3 (.t 3), (some 15), none, []⟩, ⟨.store 1 (.t 15) (.t 14), none, none, []⟩]
theorem v194_8 : wpS P L194_8 T L (rdy h) K = wpS P ([⟨.faddr 3 (.t 3), (some 15), none, []⟩, ⟨.store 1 (.t 15) (.t 14), none, none, []⟩]) T L (rdy h) K := rfl
def L194_9 : List AStep := ⟨.faddr 3 (.t 1), (some 13), none, []⟩ :: ⟨.load 1 false (.t 13), (some 14), none, []⟩ :: L194_8
theorem v194_9 : wpS P L194_9 T L (rdy h) K = wpS P (⟨.faddr 3 (.t 1), (some 13), none, []⟩ :: ⟨.load 1 false (.t 13), (some 14), none, []⟩ :: L194_8) T L (rdy h) K := rfl
def L194_10 : List AStep := [⟨.load 4 true (.t 3), (some 16), none, []⟩, ⟨.store 4 (.t 2) (.t 16), none, none, []⟩]
theorem v194_10 : wpS P L194_10 T L (rdy h) K = wpS P ([⟨.load 4 true (.t 3), (some 16), none, []⟩, ⟨.store 4 (.t 2) (.t 16), none, none, []⟩]) T L (rdy h) K := rfl
def C194_0 : ACode := .seq (.reg L194_10) .ret
theorem u194_0 : wpC P C194_0 T L (rdy h) Q = wpC P (.seq (.reg L194_10) .ret) T L (rdy h) Q := rfl
def C194_1 : ACode := .seq (.reg L194_9) C194_0
theorem u194_1 : wpC P C194_1 T L (rdy h) Q = wpC P (.seq (.reg L194_9) C194_0) T L (rdy h) Q := rfl
def C194_2 : ACode := .seq (.reg L194_7) C194_1
theorem u194_2 : wpC P C194_2 T L (rdy h) Q = wpC P (.seq (.reg L194_7) C194_1) T L (rdy h) Q := rfl
def C194_3 : ACode := .seq (.reg L194_5) C194_2
theorem u194_3 : wpC P C194_3 T L (rdy h) Q = wpC P (.seq (.reg L194_5) C194_2) T L (rdy h) Q := rfl
def C194_4 : ACode := .seq (.reg L194_3) C194_3
theorem u194_4 : wpC P C194_4 T L (rdy h) Q = wpC P (.seq (.reg L194_3) C194_3) T L (rdy h) Q := rfl
def C194_5 : ACode := .seq (.reg L194_1) C194_4
theorem u194_5 : wpC P C194_5 T L (rdy h) Q = wpC P (.seq (.reg L194_1) C194_4) T L (rdy h) Q := rfl
def C194_6 : ACode := .seq (.reg L194_0) C194_5
theorem u194_6 : wpC P C194_6 T L (rdy h) Q = wpC P (.seq (.reg L194_0) C194_5) T L (rdy h) Q := rfl
def F194 : AFunc := ⟨17, [.cell 2 4 true], C194_6⟩
theorem cF194 : compB Try.prog 194 = some F194 := by kernel_rfl
end
attribute [local go_sem ↓] u194_0 u194_1 u194_2 u194_3 u194_4 u194_5 u194_6 v194_0 v194_1 v194_2 v194_3 v194_4 v194_5 v194_6 v194_7 v194_8 v194_9 v194_10
theorem c_toParam (p : Param) (h : H) : bm Try.prog 194 [.agg (encQ p)] h = some (.agg (encQ p), h) := by
  refine bm_eq cF194 ?_
  simp +contextual (maxSteps := 2000000) only [go_sem, Nat.reduceEqDiff, reduceCtorEq, Nat.reduceAdd, Nat.reduceLeDiff, F194, encQ]
section
variable {P : Program} {T : Tb} {L : Lb} {h : H} {Q : PostC} {K : Post}
/-! laws.toPair -/
def L184_0 : List AStep := [⟨.box 194 (.t 0), (some 1), none, []⟩, ⟨.alloc 86 [(.str (strOfNums [])), (.int .i64 0)], (some 2), none, []⟩]
theorem v184_0 : wpS P L184_0 T L (rdy h) K = wpS P ([⟨.box 194 (.t 0), (some 1), none, []⟩, ⟨.alloc 86 [(.str (strOfNums [])), (.int .i64 0)], (some 2), none, []⟩]) T L (rdy h) K := rfl
def L184_1 : List AStep := [⟨.alloc 86 [(.str (strOfNums [])), (.int .i64 0)], (some 3), none, []⟩]
theorem v184_1 : wpS P L184_1 T L (rdy h) K = wpS P ([⟨.alloc 86 [(.str (strOfNums [])), (.int .i64 0)], (some 3), none, []⟩]) T L (rdy h) K := rfl
def L184_2 : List AStep := [⟨.faddr 0 (.t 3), (some 6), none, []⟩, ⟨.store 1 (.t 6) (.t 5), none, none, []⟩]
theorem v184_2 : wpS P L184_2 T L (rdy h) K = wpS P ([⟨.faddr 0 (.t 3), (some 6), none, []⟩, ⟨.store 1 (.t 6) (.t 5), none, none, []⟩]) T L (rdy h) K := rfl
def L184_3 : List AStep := ⟨.faddr 0 (.t 1), (some 4), none, []⟩ :: ⟨.load 1 false (.t 4), (some 5), none, []⟩ :: L184_2
theorem v184_3 : wpS P L184_3 T L (rdy h) K = wpS P (⟨.faddr 0 (.t 1), (some 4), none, []⟩ :: ⟨.load 1 false (.t 4), (some 5), none, []⟩ :: L184_2) T L (rdy h) K := rfl
def L184_4 : List AStep := [⟨.faddr 1 (.t 3), (some 9), none, []⟩, ⟨.store 1 (.t 9) (.t 8), none, none, []⟩]
theorem v184_4 : wpS P L184_4 T L (rdy h) K = wpS P ([⟨.faddr 1 (.t 3), (some 9), none, []⟩, ⟨.store 1 (.t 9) (.t 8), none, none, []⟩]) T L (rdy h) K := rfl
def L184_5 : List AStep := ⟨.faddr 1 (.t 1), (some 7), none, []⟩ :: ⟨.load 1 false (.t 7), (some 8), none, []⟩ :: L184_4
theorem v184_5 : wpS P L184_5 T L (rdy h) K = wpS P (⟨.faddr 1 (.t 1), (some 7), none, []⟩ :: ⟨.load 1 false (.t 7), (some 8), none, []⟩ :: L184_4) T L (rdy h) K := rfl
def L184_6 : List AStep := [⟨.load 2 true (.t 3), (some 10), none, []⟩, ⟨.store 2 (.t 2) (.t 10), none, none, []⟩]
theorem v184_6 : wpS P L184_6 T L (rdy h) K = wpS P ([⟨.load 2 true (.t 3), (some 10), none, []⟩, ⟨.store 2 (.t 2) (.t 10), none, none, []⟩]) T L (rdy h) K := rfl
def C184_0 : ACode := .seq (.reg L184_6) .ret
theorem u184_0 : wpC P C184_0 T L (rdy h) Q = wpC P (.seq (.reg L184_6) .ret) T L (rdy h) Q := rfl
def C184_1 : ACode := .seq (.reg L184_5) C184_0
theorem u184_1 : wpC P C184_1 T L (rdy h) Q = wpC P (.seq (.reg L184_5) C184_0) T L (rdy h) Q := rfl
def C184_2 : ACode := .seq (.reg L184_3) C184_1
theorem u184_2 : wpC P C184_2 T L (rdy h) Q = wpC P (.seq (.reg L184_3) C184_1) T L (rdy h) Q := rfl
def C184_3 : ACode := .seq (.reg L184_1) C184_2
theorem u184_3 : wpC P C184_3 T L (rdy h) Q = wpC P (.seq (.reg L184_1) C184_2) T L (rdy h) Q := rfl
def C184_4 : ACode := .seq (.reg L184_0) C184_3
theorem u184_4 : wpC P C184_4 T L (rdy h) Q = wpC P (.seq (.reg L184_0) C184_3) T L (rdy h) Q := rfl
def F184 : AFunc := ⟨11, [.cell 2 2 true], C184_4⟩
theorem cF184 : compB Try.prog 184 = some F184 := by kernel_rfl
end
attribute [local go_sem ↓] u184_0 u184_1 u184_2 u184_3 u184_4 v184_0 v184_1 v184_2 v184_3 v184_4 v184_5 v184_6
theorem c_toPair (p : Pair) (h : H) : bm Try.prog 184 [.agg (encP p)] h = some (.agg (encP p), h) := by
  refine bm_eq cF184 ?_
  simp +contextual (maxSteps := 2000000) only [go_sem, Nat.reduceEqDiff, reduceCtorEq, Nat.reduceAdd, Nat.reduceLeDiff, F184, encP]
section
variable {P : Program} {T : Tb} {L : Lb} {h : H} {Q : PostC} {K : Post}
/-! laws.toIntS -/
def L107_0 : List AStep := [⟨.mov (.c (.sl none 0 (some 0))), (some 2), none, []⟩]
theorem v107_0 : wpS P L107_0 T L (rdy h) K = wpS P ([⟨.mov (.c (.sl none 0 (some 0))), (some 2), none, []⟩]) T L (rdy h) K := rfl
def L107_1 : List AStep := [⟨.mkslice 3 8 [(.int .i64 0)] (.t 6) (.t 6), (some 7), none, []⟩, ⟨.mov (.t 7), (some 3), none, []⟩]
theorem v107_1 : wpS P L107_1 T L (rdy h) K = wpS P ([⟨.mkslice 3 8 [(.int .i64 0)] (.t 6) (.t 6), (some 7), none, []⟩, ⟨.mov (.t 7), (some 3), none, []⟩]) T L (rdy h) K := rfl
def L107_2 : List AStep := ⟨.mov (.t 0), (some 5), none, []⟩ :: ⟨.len (.t 5), (some 6), none, []⟩ :: L107_1
theorem v107_2 : wpS P L107_2 T L (rdy h) K = wpS P (⟨.mov (.t 0), (some 5), none, []⟩ :: ⟨.len (.t 5), (some 6), none, []⟩ :: L107_1) T L (rdy h) K := rfl
def L107_3 : List AStep := [⟨.mov (.c (.int .i64 0)), (some 4), none, []⟩]
theorem v107_3 : wpS P L107_3 T L (rdy h) K = wpS P ([⟨.mov (.c (.int .i64 0)), (some 4), none, []⟩]) T L (rdy h) K := rfl
def L107_4 : List AStep := [⟨.len (.t 9), (some 10), none, []⟩, ⟨.bin .lss (.t 8) (.t 10), (some 11), none, []⟩]
theorem v107_4 : wpS P L107_4 T L (rdy h) K = wpS P ([⟨.len (.t 9), (some 10), none, []⟩, ⟨.bin .lss (.t 8) (.t 10), (some 11), none, []⟩]) T L (rdy h) K := rfl
def L107_5 : List AStep := ⟨.mov (.t 4), (some 8), none, []⟩ :: ⟨.mov (.t 0), (some 9), none, []⟩ :: L107_4
theorem v107_5 : wpS P L107_5 T L (rdy h) K = wpS P (⟨.mov (.t 4), (some 8), none, []⟩ :: ⟨.mov (.t 0), (some 9), none, []⟩ :: L107_4) T L (rdy h) K := rfl
def L107_6 : List AStep := [⟨.iaddr 1 (.t 14) (.t 15), (some 20), none, []⟩, ⟨.store 1 (.t 20) (.t 19), none, none, []⟩]
theorem v107_6 : wpS P L107_6 T L (rdy h) K = wpS P ([⟨.iaddr 1 (.t 14) (.t 15), (some 20), none, []⟩, ⟨.store 1 (.t 20) (.t 19), none, none, []⟩]) T L (rdy h) K := rfl
def L107_7 : List AStep := ⟨.iaddr 1 (.t 16) (.t 17), (some 18), none, []⟩ :: ⟨.load 1 false (.t 18), (some 19), none, []⟩ :: L107_6
theorem v107_7 : wpS P L107_7 T L (rdy h) K = wpS P (⟨.iaddr 1 (.t 16) (.t 17), (some 18), none, []⟩ :: ⟨.load 1 false (.t 18), (some 19), none, []⟩ :: L107_6) T L (rdy h) K := rfl
def L107_8 : List AStep := ⟨.mov (.t 0), (some 16), none, []⟩ :: ⟨.mov (.t 4), (some 17), none, []⟩ :: L107_7
theorem v107_8 : wpS P L107_8 T L (rdy h) K = wpS P (⟨.mov (.t 0), (some 16), none, []⟩ :: ⟨.mov (.t 4), (some 17), none, []⟩ :: L107_7) T L (rdy h) K := rfl
def L107_9 : List AStep := ⟨.mov (.t 3), (some 14), none, []⟩ :: ⟨.mov (.t 4), (some 15), none, []⟩ :: L107_8
theorem v107_9 : wpS P L107_9 T L (rdy h) K = wpS P (⟨.mov (.t 3), (some 14), none, []⟩ :: ⟨.mov (.t 4), (some 15), none, []⟩ :: L107_8) T L (rdy h) K := rfl
def L107_10 : List AStep := [⟨.mov (.t 13), (some 4), none, []⟩]
theorem v107_10 : wpS P L107_10 T L (rdy h) K = wpS P ([⟨.mov (.t 13), (some 4), none, []⟩]) T L (rdy h) K := rfl
def L107_11 : List AStep := ⟨.mov (.t 4), (some 12), none, []⟩ :: ⟨.bin .add (.t 12) (.c (.int .i64 1)), (some 13), none, []⟩ :: L107_10
theorem v107_11 : wpS P L107_11 T L (rdy h) K = wpS P (⟨.mov (.t 4), (some 12), none, []⟩ :: ⟨.bin .add (.t 12) (.c (.int .i64 1)), (some 13), none, []⟩ :: L107_10) T L (rdy h) K := rfl
def L107_12 : List AStep := [⟨.mov (.t 3), (some 21), none, []⟩, ⟨.mov (.t 21), (some 2), none, []⟩]
theorem v107_12 : wpS P L107_12 T L (rdy h) K = wpS P ([⟨.mov (.t 3), (some 21), none, []⟩, ⟨.mov (.t 21), (some 2), none, []⟩]) T L (rdy h) K := rfl
def C107_0 : ACode := .cond (.t 11) .skip (.exit 0)
theorem u107_0 : wpC P C107_0 T L (rdy h) Q = wpC P (.cond (.t 11) .skip (.exit 0)) T L (rdy h) Q := rfl
def C107_1 : ACode := .seq (.reg L107_5) C107_0
theorem u107_1 : wpC P C107_1 T L (rdy h) Q = wpC P (.seq (.reg L107_5) C107_0) T L (rdy h) Q := rfl
def C107_2 : ACode := .block 1 (.reg L107_9)
theorem u107_2 : wpC P C107_2 T L (rdy h) Q = wpC P (.block 1 (.reg L107_9)) T L (rdy h) Q := rfl
def C107_3 : ACode := .seq C107_2 (.reg L107_11)
theorem u107_3 : wpC P C107_3 T L (rdy h) Q = wpC P (.seq C107_2 (.reg L107_11)) T L (rdy h) Q := rfl
def C107_4 : ACode := .seq C107_1 C107_3
theorem u107_4 : wpC P C107_4 T L (rdy h) Q = wpC P (.seq C107_1 C107_3) T L (rdy h) Q := rfl
def C107_5 : ACode := .block 0 (.loop C107_4)
theorem u107_5 : wpC P C107_5 T L (rdy h) Q = wpC P (.block 0 (.loop C107_4)) T L (rdy h) Q := rfl
def C107_6 : ACode := .seq (.reg L107_3) C107_5
theorem u107_6 : wpC P C107_6 T L (rdy h) Q = wpC P (.seq (.reg L107_3) C107_5) T L (rdy h) Q := rfl
def C107_7 : ACode := .seq (.reg L107_12) .ret
theorem u107_7 : wpC P C107_7 T L (rdy h) Q = wpC P (.seq (.reg L107_12) .ret) T L (rdy h) Q := rfl
def C107_8 : ACode := .seq C107_6 C107_7
theorem u107_8 : wpC P C107_8 T L (rdy h) Q = wpC P (.seq C107_6 C107_7) T L (rdy h) Q := rfl
def C107_9 : ACode := .seq (.reg L107_2) C107_8
theorem u107_9 : wpC P C107_9 T L (rdy h) Q = wpC P (.seq (.reg L107_2) C107_8) T L (rdy h) Q := rfl
def C107_10 : ACode := .seq (.reg L107_0) C107_9
theorem u107_10 : wpC P C107_10 T L (rdy h) Q = wpC P (.seq (.reg L107_0) C107_9) T L (rdy h) Q := rfl
def F107 : AFunc := ⟨22, [.tmp 2], C107_10⟩
theorem cF107 : compB Try.prog 107 = some F107 := by kernel_rfl
end
attribute [local go_sem ↓] u107_0 u107_1 u107_2 u107_3 u107_4 u107_5 u107_6 u107_7 u107_8 u107_9 u107_10 v107_0 v107_1 v107_2 v107_3 v107_4 v107_5 v107_6 v107_7 v107_8 v107_9 v107_10 v107_11 v107_12
theorem c_toIntS {t1 : Nat} (l : List Int) (v : AV) (h : H) (hl : Sl encI 1 t1 h v l) (hn : l.length ≤ 1048576) : callK (bm Try.prog 107 [v] h) fun r h' => Grow h h' ∧ NwI h h' r l := by
  refine bm_of cF107 ?_
  simp +contextual (maxSteps := 2000000) only [go_sem, Nat.reduceEqDiff, reduceCtorEq, Nat.reduceAdd, Nat.reduceLeDiff, F107, hl.len]
  refine wp_make (enc := encI) (k := 1) (0 : Int) rfl (by omega) (by omega) ?_
  intro h1 o g1 n1 _
  simp +contextual (maxSteps := 2000000) only [go_sem, Nat.reduceEqDiff, reduceCtorEq, Nat.reduceAdd, Nat.reduceLeDiff]
  refine wpC_loop (fun i T L h' => Grow h h' ∧ T 0 = .v v ∧ T 3 = .v o ∧ T 4 = .v (.one (.int .i64 i)) ∧ NwI h h' o (fillL l (0 : Int) i)) l.length ?_ ?_ (Nat.zero_le _) ?_
  · rintro i T L h' hi ⟨g, t0, t3, t4, no⟩
    have hl := (‹Sl encI 1 t1 h v l›).grow g
    have hio : i < (fillL l (0 : Int) i).length := by rw [fillL_len (by omega)]; exact hi
    simp +contextual (maxSteps := 2000000) only [go_sem, Nat.reduceEqDiff, reduceCtorEq, Nat.reduceAdd, Nat.reduceLeDiff, t0, t3, t4, hl.len, hl.iaddr hi, hl.oneO hi, no.iaddr hio, lt_true hi]
    refine wp_setE (x := l[i]) lenI no hio rfl rfl g ?_
    intro h2 g2 n2 _
    simp +contextual (maxSteps := 2000000) only [go_sem, Nat.reduceEqDiff, reduceCtorEq, Nat.reduceAdd, Nat.reduceLeDiff, t0, t3, t4]
    rw [fillL_set hi] at n2
    exact ⟨g2, by rw [wrap_next hi (by omega)], n2⟩
  · rintro T L h' ⟨g, t0, t3, t4, no⟩
    have hl := (‹Sl encI 1 t1 h v l›).grow g
    simp +contextual (maxSteps := 2000000) only [go_sem, Nat.reduceEqDiff, reduceCtorEq, Nat.reduceAdd, Nat.reduceLeDiff, t0, t3, t4, hl.len, lt_false]
    rw [fillL_all] at no
    exact gcK_of ⟨g, no⟩ (fun hs _ => ⟨Grow.refl h, no.scalar hs h⟩)
  · simp +contextual (maxSteps := 2000000) only [go_sem, Nat.reduceEqDiff, reduceCtorEq, Nat.reduceAdd, Nat.reduceLeDiff]
    exact ⟨g1, rfl, by rw [fillL_zero]; exact n1⟩
section
variable {P : Program} {T : Tb} {L : Lb} {h : H} {Q : PostC} {K : Post}
/-! laws.toParamS -/
def L125_0 : List AStep := [⟨.mov (.c (.sl none 0 (some 0))), (some 2), none, []⟩]
theorem v125_0 : wpS P L125_0 T L (rdy h) K = wpS P ([⟨.mov (.c (.sl none 0 (some 0))), (some 2), none, []⟩]) T L (rdy h) K := rfl
def L125_1 : List AStep := [⟨.mkslice 108 40 [(.str (strOfNums [])), (.int .i64 0), (.bool false), (.int .i64 0)] (.t 6) (.t 6), (some 7), none, []⟩, ⟨.mov (.t 7), (some 3), none, []⟩]
theorem v125_1 : wpS P L125_1 T L (rdy h) K = wpS P ([⟨.mkslice 108 40 [(.str (strOfNums [])), (.int .i64 0), (.bool false), (.int .i64 0)] (.t 6) (.t 6), (some 7), none, []⟩, ⟨.mov (.t 7), (some 3), none, []⟩]) T L (rdy h) K := rfl
def L125_2 : List AStep := ⟨.mov (.t 0), (some 5), none, []⟩ :: ⟨.len (.t 5), (some 6), none, []⟩ :: L125_1
theorem v125_2 : wpS P L125_2 T L (rdy h) K = wpS P (⟨.mov (.t 0), (some 5), none, []⟩ :: ⟨.len (.t 5), (some 6), none, []⟩ :: L125_1) T L (rdy h) K := rfl
def L125_3 : List AStep := [⟨.mov (.c (.int .i64 0)), (some 4), none, []⟩]
theorem v125_3 : wpS P L125_3 T L (rdy h) K = wpS P ([⟨.mov (.c (.int .i64 0)), (some 4), none, []⟩]) T L (rdy h) K := rfl
def L125_4 : List AStep := [⟨.len (.t 9), (some 10), none, []⟩, ⟨.bin .lss (.t 8) (.t 10), (some 11), none, []⟩]
theorem v125_4 : wpS P L125_4 T L (rdy h) K = wpS P ([⟨.len (.t 9), (some 10), none, []⟩, ⟨.bin .lss (.t 8) (.t 10), (some 11), none, []⟩]) T L (rdy h) K := rfl
def L125_5 : List AStep := ⟨.mov (.t 4), (some 8), none, []⟩ :: ⟨.mov (.t 0), (some 9), none, []⟩ :: L125_4
theorem v125_5 : wpS P L125_5 T L (rdy h) K = wpS P (⟨.mov (.t 4), (some 8), none, []⟩ :: ⟨.mov (.t 0), (some 9), none, []⟩ :: L125_4) T L (rdy h) K := rfl
def L125_6 : List AStep := [⟨.store 4 (.t 21) (.t 20), none, none, []⟩]
theorem v125_6 : wpS P L125_6 T L (rdy h) K = wpS P ([⟨.store 4 (.t 21) (.t 20), none, none, []⟩]) T L (rdy h) K := rfl
def L125_7 : List AStep := ⟨.call 194 [(.t 19)], (some 20), none, []⟩ :: ⟨.iaddr 4 (.t 14) (.t 15), (some 21), none, []⟩ :: L125_6
theorem v125_7 : wpS P L125_7 T L (rdy h) K = wpS P (⟨.call 194 [(.t 19)], (some 20), none, []⟩ :: ⟨.iaddr 4 (.t 14) (.t 15), (some 21), none, []⟩ :: L125_6) T L (rdy h) K := rfl
def L125_8 : List AStep := ⟨.iaddr 4 (.t 16) (.t 17), (some 18), none, []⟩ :: ⟨.load 4 true (.t 18), (some 19), none, []⟩ :: L125_7
theorem v125_8 : wpS P L125_8 T L (rdy h) K = wpS P (⟨.iaddr 4 (.t 16) (.t 17), (some 18), none, []⟩ :: ⟨.load 4 true (.t 18), (some 19), none, []⟩ :: L125_7) T L (rdy h) K := rfl
def L125_9 : List AStep := ⟨.mov (.t 0), (some 16), none, []⟩ :: ⟨.mov (.t 4), (some 17), none, []⟩ :: L125_8
theorem v125_9 : wpS P L125_9 T L (rdy h) K = wpS P (⟨.mov (.t 0), (some 16), none, []⟩ :: ⟨.mov (.t 4), (some 17), none, []⟩ :: L125_8) T L (rdy h) K := rfl
def L125_10 : List AStep := ⟨.mov (.t 3), (some 14), none, []⟩ :: ⟨.mov (.t 4), (some 15), none, []⟩ :: L125_9
theorem v125_10 : wpS P L125_10 T L (rdy h) K = wpS P (⟨.mov (.t 3), (some 14), none, []⟩ :: ⟨.mov (.t 4), (some 15), none, []⟩ :: L125_9) T L (rdy h) K := rfl
def L125_11 : List AStep := [⟨.mov (.t 13), (some 4), none, []⟩]
theorem v125_11 : wpS P L125_11 T L (rdy h) K = wpS P ([⟨.mov (.t 13), (some 4), none, []⟩]) T L (rdy h) K := rfl
def L125_12 : List AStep := ⟨.mov (.t 4), (some 12), none, []⟩ :: ⟨.bin .add (.t 12) (.c (.int .i64 1)), (some 13), none, []⟩ :: L125_11
theorem v125_12 : wpS P L125_12 T L (rdy h) K = wpS P (⟨.mov (.t 4), (some 12), none, []⟩ :: ⟨.bin .add (.t 12) (.c (.int .i64 1)), (some 13), none, []⟩ :: L125_11) T L (rdy h) K := rfl
def L125_13 : List AStep := [⟨.mov (.t 3), (some 22), none, []⟩, ⟨.mov (.t 22), (some 2), none, []⟩]
theorem v125_13 : wpS P L125_13 T L (rdy h) K = wpS P ([⟨.mov (.t 3), (some 22), none, []⟩, ⟨.mov (.t 22), (some 2), none, []⟩]) T L (rdy h) K := rfl
def C125_0 : ACode := .cond (.t 11) .skip (.exit 0)
theorem u125_0 : wpC P C125_0 T L (rdy h) Q = wpC P (.cond (.t 11) .skip (.exit 0)) T L (rdy h) Q := rfl
def C125_1 : ACode := .seq (.reg L125_5) C125_0
theorem u125_1 : wpC P C125_1 T L (rdy h) Q = wpC P (.seq (.reg L125_5) C125_0) T L (rdy h) Q := rfl
def C125_2 : ACode := .block 1 (.reg L125_10)
theorem u125_2 : wpC P C125_2 T L (rdy h) Q = wpC P (.block 1 (.reg L125_10)) T L (rdy h) Q := rfl
def C125_3 : ACode := .seq C125_2 (.reg L125_12)
theorem u125_3 : wpC P C125_3 T L (rdy h) Q = wpC P (.seq C125_2 (.reg L125_12)) T L (rdy h) Q := rfl
def C125_4 : ACode := .seq C125_1 C125_3
theorem u125_4 : wpC P C125_4 T L (rdy h) Q = wpC P (.seq C125_1 C125_3) T L (rdy h) Q := rfl
def C125_5 : ACode := .block 0 (.loop C125_4)
theorem u125_5 : wpC P C125_5 T L (rdy h) Q = wpC P (.block 0 (.loop C125_4)) T L (rdy h) Q := rfl
def C125_6 : ACode := .seq (.reg L125_3) C125_5
theorem u125_6 : wpC P C125_6 T L (rdy h) Q = wpC P (.seq (.reg L125_3) C125_5) T L (rdy h) Q := rfl
def C125_7 : ACode := .seq (.reg L125_13) .ret
theorem u125_7 : wpC P C125_7 T L (rdy h) Q = wpC P (.seq (.reg L125_13) .ret) T L (rdy h) Q := rfl
def C125_8 : ACode := .seq C125_6 C125_7
theorem u125_8 : wpC P C125_8 T L (rdy h) Q = wpC P (.seq C125_6 C125_7) T L (rdy h) Q := rfl
def C125_9 : ACode := .seq (.reg L125_2) C125_8
theorem u125_9 : wpC P C125_9 T L (rdy h) Q = wpC P (.seq (.reg L125_2) C125_8) T L (rdy h) Q := rfl
def C125_10 : ACode := .seq (.reg L125_0) C125_9
theorem u125_10 : wpC P C125_10 T L (rdy h) Q = wpC P (.seq (.reg L125_0) C125_9) T L (rdy h) Q := rfl
def F125 : AFunc := ⟨23, [.tmp 2], C125_10⟩
theorem cF125 : compB Try.prog 125 = some F125 := by kernel_rfl
end
attribute [local go_sem ↓] u125_0 u125_1 u125_2 u125_3 u125_4 u125_5 u125_6 u125_7 u125_8 u125_9 u125_10 v125_0 v125_1 v125_2 v125_3 v125_4 v125_5 v125_6 v125_7 v125_8 v125_9 v125_10 v125_11 v125_12 v125_13
theorem c_toParamS {t1 : Nat} (l : List Param) (v : AV) (h : H) (hl : Sl encQ 4 t1 h v l) (hn : l.length ≤ 1048576) : callK (bm Try.prog 125 [v] h) fun r h' => Grow h h' ∧ NwQ h h' r l := by
  refine bm_of cF125 ?_
  simp +contextual (maxSteps := 2000000) only [go_sem, Nat.reduceEqDiff, reduceCtorEq, Nat.reduceAdd, Nat.reduceLeDiff, F125, hl.len]
  refine wp_make (enc := encQ) (k := 4) (⟨(strOfNums []), 0, false, 0⟩ : Param) rfl (by omega) (by omega) ?_
  intro h1 o g1 n1 _
  simp +contextual (maxSteps := 2000000) only [go_sem, Nat.reduceEqDiff, reduceCtorEq, Nat.reduceAdd, Nat.reduceLeDiff]
  refine wpC_loop (fun i T L h' => Grow h h' ∧ T 0 = .v v ∧ T 3 = .v o ∧ T 4 = .v (.one (.int .i64 i)) ∧ NwQ h h' o (fillL l (⟨(strOfNums []), 0, false, 0⟩ : Param) i)) l.length ?_ ?_ (Nat.zero_le _) ?_
  · rintro i T L h' hi ⟨g, t0, t3, t4, no⟩
    have hl := (‹Sl encQ 4 t1 h v l›).grow g
    have hio : i < (fillL l (⟨(strOfNums []), 0, false, 0⟩ : Param) i).length := by rw [fillL_len (by omega)]; exact hi
    simp +contextual (maxSteps := 2000000) only [go_sem, Nat.reduceEqDiff, reduceCtorEq, Nat.reduceAdd, Nat.reduceLeDiff, t0, t3, t4, hl.len, hl.iaddr hi, hl.whole hi, no.iaddr hio, lt_true hi, c_toParam]
    refine wp_setE (x := l[i]) lenQ no hio rfl rfl g ?_
    intro h2 g2 n2 _
    simp +contextual (maxSteps := 2000000) only [go_sem, Nat.reduceEqDiff, reduceCtorEq, Nat.reduceAdd, Nat.reduceLeDiff, t0, t3, t4]
    rw [fillL_set hi] at n2
    exact ⟨g2, by rw [wrap_next hi (by omega)], n2⟩
  · rintro T L h' ⟨g, t0, t3, t4, no⟩
    have hl := (‹Sl encQ 4 t1 h v l›).grow g
    simp +contextual (maxSteps := 2000000) only [go_sem, Nat.reduceEqDiff, reduceCtorEq, Nat.reduceAdd, Nat.reduceLeDiff, t0, t3, t4, hl.len, lt_false]
    rw [fillL_all] at no
    exact gcK_of ⟨g, no⟩ (fun hs _ => ⟨Grow.refl h, no.scalar hs h⟩)
  · simp +contextual (maxSteps := 2000000) only [go_sem, Nat.reduceEqDiff, reduceCtorEq, Nat.reduceAdd, Nat.reduceLeDiff]
    exact ⟨g1, rfl, by rw [fillL_zero]; exact n1⟩
section
variable {P : Program} {T : Tb} {L : Lb} {h : H} {Q : PostC} {K : Post}
/-! laws.toPairS -/
def L108_0 : List AStep := [⟨.mov (.c (.sl none 0 (some 0))), (some 2), none, []⟩]
theorem v108_0 : wpS P L108_0 T L (rdy h) K = wpS P ([⟨.mov (.c (.sl none 0 (some 0))), (some 2), none, []⟩]) T L (rdy h) K := rfl
def L108_1 : List AStep := [⟨.mkslice 86 24 [(.str (strOfNums [])), (.int .i64 0)] (.t 6) (.t 6), (some 7), none, []⟩, ⟨.mov (.t 7), (some 3), none, []⟩]
theorem v108_1 : wpS P L108_1 T L (rdy h) K = wpS P ([⟨.mkslice 86 24 [(.str (strOfNums [])), (.int .i64 0)] (.t 6) (.t 6), (some 7), none, []⟩, ⟨.mov (.t 7), (some 3), none, []⟩]) T L (rdy h) K := rfl
def L108_2 : List AStep := ⟨.mov (.t 0), (some 5), none, []⟩ :: ⟨.len (.t 5), (some 6), none, []⟩ :: L108_1
theorem v108_2 : wpS P L108_2 T L (rdy h) K = wpS P (⟨.mov (.t 0), (some 5), none, []⟩ :: ⟨.len (.t 5), (some 6), none, []⟩ :: L108_1) T L (rdy h) K := rfl
def L108_3 : List AStep := [⟨.mov (.c (.int .i64 0)), (some 4), none, []⟩]
theorem v108_3 : wpS P L108_3 T L (rdy h) K = wpS P ([⟨.mov (.c (.int .i64 0)), (some 4), none, []⟩]) T L (rdy h) K := rfl
def L108_4 : List AStep := [⟨.len (.t 9), (some 10), none, []⟩, ⟨.bin .lss (.t 8) (.t 10), (some 11), none, []⟩]
theorem v108_4 : wpS P L108_4 T L (rdy h) K = wpS P ([⟨.len (.t 9), (some 10), none, []⟩, ⟨.bin .lss (.t 8) (.t 10), (some 11), none, []⟩]) T L (rdy h) K := rfl
def L108_5 : List AStep := ⟨.mov (.t 4), (some 8), none, []⟩ :: ⟨.mov (.t 0), (some 9), none, []⟩ :: L108_4
theorem v108_5 : wpS P L108_5 T L (rdy h) K = wpS P (⟨.mov (.t 4), (some 8), none, []⟩ :: ⟨.mov (.t 0), (some 9), none, []⟩ :: L108_4) T L (rdy h) K := rfl
def L108_6 : List AStep := [⟨.store 2 (.t 21) (.t 20), none, none, []⟩]
theorem v108_6 : wpS P L108_6 T L (rdy h) K = wpS P ([⟨.store 2 (.t 21) (.t 20), none, none, []⟩]) T L (rdy h) K := rfl
def L108_7 : List AStep := ⟨.call 184 [(.t 19)], (some 20), none, []⟩ :: ⟨.iaddr 2 (.t 14) (.t 15), (some 21), none, []⟩ :: L108_6
theorem v108_7 : wpS P L108_7 T L (rdy h) K = wpS P (⟨.call 184 [(.t 19)], (some 20), none, []⟩ :: ⟨.iaddr 2 (.t 14) (.t 15), (some 21), none, []⟩ :: L108_6) T L (rdy h) K := rfl
def L108_8 : List AStep := ⟨.iaddr 2 (.t 16) (.t 17), (some 18), none, []⟩ :: ⟨.load 2 true (.t 18), (some 19), none, []⟩ :: L108_7
theorem v108_8 : wpS P L108_8 T L (rdy h) K = wpS P (⟨.iaddr 2 (.t 16) (.t 17), (some 18), none, []⟩ :: ⟨.load 2 true (.t 18), (some 19), none, []⟩ :: L108_7) T L (rdy h) K := rfl
def L108_9 : List AStep := ⟨.mov (.t 0), (some 16), none, []⟩ :: ⟨.mov (.t 4), (some 17), none, []⟩ :: L108_8
theorem v108_9 : wpS P L108_9 T L (rdy h) K = wpS P (⟨.mov (.t 0), (some 16), none, []⟩ :: ⟨.mov (.t 4), (some 17), none, []⟩ :: L108_8) T L (rdy h) K := rfl
def L108_10 : List AStep := ⟨.mov (.t 3), (some 14), none, []⟩ :: ⟨.mov (.t 4), (some 15), none, []⟩ :: L108_9
theorem v108_10 : wpS P L108_10 T L (rdy h) K = wpS P (⟨.mov (.t 3), (some 14), none, []⟩ :: ⟨.mov (.t 4), (some 15), none, []⟩ :: L108_9) T L (rdy h) K := rfl
def L108_11 : List AStep := [⟨.mov (.t 13), (some 4), none, []⟩]
theorem v108_11 : wpS P L108_11 T L (rdy h) K = wpS P ([⟨.mov (.t 13), (some 4), none, []⟩]) T L (rdy h) K := rfl
def L108_12 : List AStep := ⟨.mov (.t 4), (some 12), none, []⟩ :: ⟨.bin .add (.t 12) (.c (.int .i64 1)), (some 13), none, []⟩ :: L108_11
theorem v108_12 : wpS P L108_12 T L (rdy h) K = wpS P (⟨.mov (.t 4), (some 12), none, []⟩ :: ⟨.bin .add (.t 12) (.c (.int .i64 1)), (some 13), none, []⟩ :: L108_11) T L (rdy h) K := rfl
def L108_13 : List AStep := [⟨.mov (.t 3), (some 22), none, []⟩, ⟨.mov (.t 22), (some 2), none, []⟩]
theorem v108_13 : wpS P L108_13 T L (rdy h) K = wpS P ([⟨.mov (.t 3), (some 22), none, []⟩, ⟨.mov (.t 22), (some 2), none, []⟩]) T L (rdy h) K := rfl
def C108_0 : ACode := .cond (.t 11) .skip (.exit 0)
theorem u108_0 : wpC P C108_0 T L (rdy h) Q = wpC P (.cond (.t 11) .skip (.exit 0)) T L (rdy h) Q := rfl
def C108_1 : ACode := .seq (.reg L108_5) C108_0
theorem u108_1 : wpC P C108_1 T L (rdy h) Q = wpC P (.seq (.reg L108_5) C108_0) T L (rdy h) Q := rfl
def C108_2 : ACode := .block 1 (.reg L108_10)
theorem u108_2 : wpC P C108_2 T L (rdy h) Q = wpC P (.block 1 (.reg L108_10)) T L (rdy h) Q := rfl
def C108_3 : ACode := .seq C108_2 (.reg L108_12)
theorem u108_3 : wpC P C108_3 T L (rdy h) Q = wpC P (.seq C108_2 (.reg L108_12)) T L (rdy h) Q := rfl
def C108_4 : ACode := .seq C108_1 C108_3
theorem u108_4 : wpC P C108_4 T L (rdy h) Q = wpC P (.seq C108_1 C108_3) T L (rdy h) Q := rfl
def C108_5 : ACode := .block 0 (.loop C108_4)
theorem u108_5 : wpC P C108_5 T L (rdy h) Q = wpC P (.block 0 (.loop C108_4)) T L (rdy h) Q := rfl
def C108_6 : ACode := .seq (.reg L108_3) C108_5
theorem u108_6 : wpC P C108_6 T L (rdy h) Q = wpC P (.seq (.reg L108_3) C108_5) T L (rdy h) Q := rfl
def C108_7 : ACode := .seq (.reg L108_13) .ret
theorem u108_7 : wpC P C108_7 T L (rdy h) Q = wpC P (.seq (.reg L108_13) .ret) T L (rdy h) Q := rfl
def C108_8 : ACode := .seq C108_6 C108_7
theorem u108_8 : wpC P C108_8 T L (rdy h) Q = wpC P (.seq C108_6 C108_7) T L (rdy h) Q := rfl
def C108_9 : ACode := .seq (.reg L108_2) C108_8
theorem u108_9 : wpC P C108_9 T L (rdy h) Q = wpC P (.seq (.reg L108_2) C108_8) T L (rdy h) Q := rfl
def C108_10 : ACode := .seq (.reg L108_0) C108_9
theorem u108_10 : wpC P C108_10 T L (rdy h) Q = wpC P (.seq (.reg L108_0) C108_9) T L (rdy h) Q := rfl
def F108 : AFunc := ⟨23, [.tmp 2], C108_10⟩
theorem cF108 : compB Try.prog 108 = some F108 := by kernel_rfl
end
attribute [local go_sem ↓] u108_0 u108_1 u108_2 u108_3 u108_4 u108_5 u108_6 u108_7 u108_8 u108_9 u108_10 v108_0 v108_1 v108_2 v108_3 v108_4 v108_5 v108_6 v108_7 v108_8 v108_9 v108_10 v108_11 v108_12 v108_13
theorem c_toPairS {t1 : Nat} (l : List Pair) (v : AV) (h : H) (hl : Sl encP 2 t1 h v l) (hn : l.length ≤ 1048576) : callK (bm Try.prog 108 [v] h) fun r h' => Grow h h' ∧ NwP h h' r l := by
  refine bm_of cF108 ?_
  simp +contextual (maxSteps := 2000000) only [go_sem, Nat.reduceEqDiff, reduceCtorEq, Nat.reduceAdd, Nat.reduceLeDiff, F108, hl.len]
  refine wp_make (enc := encP) (k := 2) (⟨(strOfNums []), 0⟩ : Pair) rfl (by omega) (by omega) ?_
  intro h1 o g1 n1 _
  simp +contextual (maxSteps := 2000000) only [go_sem, Nat.reduceEqDiff, reduceCtorEq, Nat.reduceAdd, Nat.reduceLeDiff]
  refine wpC_loop (fun i T L h' => Grow h h' ∧ T 0 = .v v ∧ T 3 = .v o ∧ T 4 = .v (.one (.int .i64 i)) ∧ NwP h h' o (fillL l (⟨(strOfNums []), 0⟩ : Pair) i)) l.length ?_ ?_ (Nat.zero_le _) ?_
  · rintro i T L h' hi ⟨g, t0, t3, t4, no⟩
    have hl := (‹Sl encP 2 t1 h v l›).grow g
    have hio : i < (fillL l (⟨(strOfNums []), 0⟩ : Pair) i).length := by rw [fillL_len (by omega)]; exact hi
    simp +contextual (maxSteps := 2000000) only [go_sem, Nat.reduceEqDiff, reduceCtorEq, Nat.reduceAdd, Nat.reduceLeDiff, t0, t3, t4, hl.len, hl.iaddr hi, hl.whole hi, no.iaddr hio, lt_true hi, c_toPair]
    refine wp_setE (x := l[i]) lenP no hio rfl rfl g ?_
    intro h2 g2 n2 _
    simp +contextual (maxSteps := 2000000) only [go_sem, Nat.reduceEqDiff, reduceCtorEq, Nat.reduceAdd, Nat.reduceLeDiff, t0, t3, t4]
    rw [fillL_set hi] at n2
    exact ⟨g2, by rw [wrap_next hi (by omega)], n2⟩
  · rintro T L h' ⟨g, t0, t3, t4, no⟩
    have hl := (‹Sl encP 2 t1 h v l›).grow g
    simp +contextual (maxSteps := 2000000) only [go_sem, Nat.reduceEqDiff, reduceCtorEq, Nat.reduceAdd, Nat.reduceLeDiff, t0, t3, t4, hl.len, lt_false]
    rw [fillL_all] at no
    exact gcK_of ⟨g, no⟩ (fun hs _ => ⟨Grow.refl h, no.scalar hs h⟩)
  · simp +contextual (maxSteps := 2000000) only [go_sem, Nat.reduceEqDiff, reduceCtorEq, Nat.reduceAdd, Nat.reduceLeDiff]
    exact ⟨g1, rfl, by rw [fillL_zero]; exact n1⟩
section
variable {P : Program} {T : Tb} {L : Lb} {h : H} {Q : PostC} {K : Post}
/-! laws.markIntS -/
def L112_0 : List AStep := [⟨.mov (.c (.int .i64 0)), (some 4), none, []⟩]
theorem v112_0 : wpS P L112_0 T L (rdy h) K = wpS P ([⟨.mov (.c (.int .i64 0)), (some 4), none, []⟩]) T L (rdy h) K := rfl
def L112_1 : List AStep := [⟨.mov (.c (.int .i64 0)), (some 5), none, []⟩]
theorem v112_1 : wpS P L112_1 T L (rdy h) K = wpS P ([⟨.mov (.c (.int .i64 0)), (some 5), none, []⟩]) T L (rdy h) K := rfl
def L112_2 : List AStep := [⟨.len (.t 7), (some 8), none, []⟩, ⟨.bin .lss (.t 6) (.t 8), (some 9), none, []⟩]
theorem v112_2 : wpS P L112_2 T L (rdy h) K = wpS P ([⟨.len (.t 7), (some 8), none, []⟩, ⟨.bin .lss (.t 6) (.t 8), (some 9), none, []⟩]) T L (rdy h) K := rfl
def L112_3 : List AStep := ⟨.mov (.t 5), (some 6), none, []⟩ :: ⟨.mov (.t 0), (some 7), none, []⟩ :: L112_2
theorem v112_3 : wpS P L112_3 T L (rdy h) K = wpS P (⟨.mov (.t 5), (some 6), none, []⟩ :: ⟨.mov (.t 0), (some 7), none, []⟩ :: L112_2) T L (rdy h) K := rfl
def L112_4 : List AStep := [⟨.store 1 (.t 15) (.t 14), none, none, []⟩]
theorem v112_4 : wpS P L112_4 T L (rdy h) K = wpS P ([⟨.store 1 (.t 15) (.t 14), none, none, []⟩]) T L (rdy h) K := rfl
def L112_5 : List AStep := ⟨.mov (.t 1), (some 14), none, []⟩ :: ⟨.iaddr 1 (.t 12) (.t 13), (some 15), none, []⟩ :: L112_4
theorem v112_5 : wpS P L112_5 T L (rdy h) K = wpS P (⟨.mov (.t 1), (some 14), none, []⟩ :: ⟨.iaddr 1 (.t 12) (.t 13), (some 15), none, []⟩ :: L112_4) T L (rdy h) K := rfl
def L112_6 : List AStep := ⟨.mov (.t 0), (some 12), none, []⟩ :: ⟨.mov (.t 5), (some 13), none, []⟩ :: L112_5
theorem v112_6 : wpS P L112_6 T L (rdy h) K = wpS P (⟨.mov (.t 0), (some 12), none, []⟩ :: ⟨.mov (.t 5), (some 13), none, []⟩ :: L112_5) T L (rdy h) K := rfl
def L112_7 : List AStep := [⟨.mov (.t 17), (some 1), none, []⟩]
theorem v112_7 : wpS P L112_7 T L (rdy h) K = wpS P ([⟨.mov (.t 17), (some 1), none, []⟩]) T L (rdy h) K := rfl
def L112_8 : List AStep := ⟨.mov (.t 1), (some 16), none, []⟩ :: ⟨.bin .add (.t 16) (.c (.int .i64 1)), (some 17), none, []⟩ :: L112_7
theorem v112_8 : wpS P L112_8 T L (rdy h) K = wpS P (⟨.mov (.t 1), (some 16), none, []⟩ :: ⟨.bin .add (.t 16) (.c (.int .i64 1)), (some 17), none, []⟩ :: L112_7) T L (rdy h) K := rfl
def L112_9 : List AStep := [⟨.mov (.t 11), (some 5), none, []⟩]
theorem v112_9 : wpS P L112_9 T L (rdy h) K = wpS P ([⟨.mov (.t 11), (some 5), none, []⟩]) T L (rdy h) K := rfl
def L112_10 : List AStep := ⟨.mov (.t 5), (some 10), none, []⟩ :: ⟨.bin .add (.t 10) (.c (.int .i64 1)), (some 11), none, []⟩ :: L112_9
theorem v112_10 : wpS P L112_10 T L (rdy h) K = wpS P (⟨.mov (.t 5), (some 10), none, []⟩ :: ⟨.bin .add (.t 10) (.c (.int .i64 1)), (some 11), none, []⟩ :: L112_9) T L (rdy h) K := rfl
def L112_11 : List AStep := [⟨.mov (.t 1), (some 18), none, []⟩, ⟨.mov (.t 18), (some 4), none, []⟩]
theorem v112_11 : wpS P L112_11 T L (rdy h) K = wpS P ([⟨.mov (.t 1), (some 18), none, []⟩, ⟨.mov (.t 18), (some 4), none, []⟩]) T L (rdy h) K := rfl
def C112_0 : ACode := .cond (.t 9) .skip (.exit 0)
theorem u112_0 : wpC P C112_0 T L (rdy h) Q = wpC P (.cond (.t 9) .skip (.exit 0)) T L (rdy h) Q := rfl
def C112_1 : ACode := .seq (.reg L112_3) C112_0
theorem u112_1 : wpC P C112_1 T L (rdy h) Q = wpC P (.seq (.reg L112_3) C112_0) T L (rdy h) Q := rfl
def C112_2 : ACode := .seq (.reg L112_6) (.reg L112_8)
theorem u112_2 : wpC P C112_2 T L (rdy h) Q = wpC P (.seq (.reg L112_6) (.reg L112_8)) T L (rdy h) Q := rfl
def C112_3 : ACode := .block 1 C112_2
theorem u112_3 : wpC P C112_3 T L (rdy h) Q = wpC P (.block 1 C112_2) T L (rdy h) Q := rfl
def C112_4 : ACode := .seq C112_3 (.reg L112_10)
theorem u112_4 : wpC P C112_4 T L (rdy h) Q = wpC P (.seq C112_3 (.reg L112_10)) T L (rdy h) Q := rfl
def C112_5 : ACode := .seq C112_1 C112_4
theorem u112_5 : wpC P C112_5 T L (rdy h) Q = wpC P (.seq C112_1 C112_4) T L (rdy h) Q := rfl
def C112_6 : ACode := .block 0 (.loop C112_5)
theorem u112_6 : wpC P C112_6 T L (rdy h) Q = wpC P (.block 0 (.loop C112_5)) T L (rdy h) Q := rfl
def C112_7 : ACode := .seq (.reg L112_1) C112_6
theorem u112_7 : wpC P C112_7 T L (rdy h) Q = wpC P (.seq (.reg L112_1) C112_6) T L (rdy h) Q := rfl
def C112_8 : ACode := .seq (.reg L112_11) .ret
theorem u112_8 : wpC P C112_8 T L (rdy h) Q = wpC P (.seq (.reg L112_11) .ret) T L (rdy h) Q := rfl
def C112_9 : ACode := .seq C112_7 C112_8
theorem u112_9 : wpC P C112_9 T L (rdy h) Q = wpC P (.seq C112_7 C112_8) T L (rdy h) Q := rfl
def C112_10 : ACode := .seq (.reg L112_0) C112_9
theorem u112_10 : wpC P C112_10 T L (rdy h) Q = wpC P (.seq (.reg L112_0) C112_9) T L (rdy h) Q := rfl
def F112 : AFunc := ⟨19, [.tmp 4], C112_10⟩
theorem cF112 : compB Try.prog 112 = some F112 := by kernel_rfl
end
attribute [local go_sem ↓] u112_0 u112_1 u112_2 u112_3 u112_4 u112_5 u112_6 u112_7 u112_8 u112_9 u112_10 v112_0 v112_1 v112_2 v112_3 v112_4 v112_5 v112_6 v112_7 v112_8 v112_9 v112_10 v112_11
theorem c_markIntS (l : List Int) (v : AV) (k : Int) (h0 h : H) (hl : NwI h0 h v l) (g : Grow h0 h) (k1 : 0 ≤ k) (k2 : k ≤ 2 ^ 40) (hn : l.length ≤ 2 ^ 30) :
    callK (bm Try.prog 112 [v, .one (.int .i64 k)] h) fun r h' => r = ii (k + ((1 * l.length : Nat) : Int)) ∧ Grow h0 h' ∧ NwI h0 h' v (markL mkI 1 k l.length) ∧ Stay v h h' := by
  refine bm_of cF112 ?_
  simp +contextual (maxSteps := 2000000) only [go_sem, Nat.reduceEqDiff, reduceCtorEq, Nat.reduceAdd, Nat.reduceLeDiff, F112]
  refine wpC_loop (fun i T L h' => Grow h0 h' ∧ T 0 = .v v ∧ T 1 = .v (.one (.int .i64 (k + ((1 * i : Nat) : Int)))) ∧ T 5 = .v (.one (.int .i64 i)) ∧ NwI h0 h' v (markT mkI 1 k l i) ∧ Stay v h h') l.length ?_ ?_ (Nat.zero_le _) ?_
  · rintro i T L h' hi ⟨g, t0, t1, t5, no, st⟩
    have hlen : (markT mkI 1 k l i).length = l.length := markT_len (by omega)
    have hio : i < (markT mkI 1 k l i).length := by omega
    have hln := no.length
    rw [hlen] at hln
    have hia := no.iaddr hio (kd := .i64)
    have wr1 : IntKind.i64.wrap ((k + ((1 * i : Nat) : Int)) + 1) = (k + ((1 * i : Nat) : Int) + 1) := (i64_wrap (by omega) (by omega)).trans (by omega)
    simp +contextual (maxSteps := 2000000) only [go_sem, Nat.reduceEqDiff, reduceCtorEq, Nat.reduceAdd, Nat.reduceLeDiff, t0, t1, t5, hln, hia, lt_true hi, wr1]
    refine wp_setE (x := (k + ((1 * i : Nat) : Int))) lenI no hio rfl rfl g ?_
    intro h2 g2 n2 s2
    simp +contextual (maxSteps := 2000000) only [go_sem, Nat.reduceEqDiff, reduceCtorEq, Nat.reduceAdd, Nat.reduceLeDiff, t0, t1, t5, hln, hia, wr1]
    have e : (markT mkI 1 k l i).set i (mkI (k + ((1 * i : Nat) : Int))) = markT mkI 1 k l (i + 1) := markT_set hi
    have n3 : NwI h0 h2 v (markT mkI 1 k l (i + 1)) := by rw [← e]; exact n2
    refine ⟨g2, by rw [show k + ((1 * (i + 1) : Nat) : Int) = (k + ((1 * i : Nat) : Int) + 1) by omega], by rw [wrap_next hi (by omega)], n3, (st.trans s2)⟩
  · rintro T L h' ⟨g, t0, t1, t5, no, st⟩
    have hln := no.length
    rw [markT_len (Nat.le_refl _)] at hln
    simp +contextual (maxSteps := 2000000) only [go_sem, Nat.reduceEqDiff, reduceCtorEq, Nat.reduceAdd, Nat.reduceLeDiff, t0, t1, t5, hln, lt_false]
    rw [markT_all] at no
    exact gcK_of ⟨rfl, g, no, st⟩ (fun _ gg => ⟨rfl, ‹Grow h0 h›, no.back hl gg, (Grow.refl h).stay v⟩)
  · simp +contextual (maxSteps := 2000000) only [go_sem, Nat.reduceEqDiff, reduceCtorEq, Nat.reduceAdd, Nat.reduceLeDiff]
    exact ⟨g, by simp, rfl, by rw [markT_zero]; exact hl, (Grow.refl h).stay v⟩
section
variable {P : Program} {T : Tb} {L : Lb} {h : H} {Q : PostC} {K : Post}
/-! laws.heldIntS -/
def L119_0 : List AStep := [⟨.mov (.c (.int .i64 0)), (some 4), none, []⟩]
theorem v119_0 : wpS P L119_0 T L (rdy h) K = wpS P ([⟨.mov (.c (.int .i64 0)), (some 4), none, []⟩]) T L (rdy h) K := rfl
def L119_1 : List AStep := [⟨.mov (.c (.int .i64 0)), (some 5), none, []⟩]
theorem v119_1 : wpS P L119_1 T L (rdy h) K = wpS P ([⟨.mov (.c (.int .i64 0)), (some 5), none, []⟩]) T L (rdy h) K := rfl
def L119_2 : List AStep := [⟨.len (.t 7), (some 8), none, []⟩, ⟨.bin .lss (.t 6) (.t 8), (some 9), none, []⟩]
theorem v119_2 : wpS P L119_2 T L (rdy h) K = wpS P ([⟨.len (.t 7), (some 8), none, []⟩, ⟨.bin .lss (.t 6) (.t 8), (some 9), none, []⟩]) T L (rdy h) K := rfl
def L119_3 : List AStep := ⟨.mov (.t 5), (some 6), none, []⟩ :: ⟨.mov (.t 0), (some 7), none, []⟩ :: L119_2
theorem v119_3 : wpS P L119_3 T L (rdy h) K = wpS P (⟨.mov (.t 5), (some 6), none, []⟩ :: ⟨.mov (.t 0), (some 7), none, []⟩ :: L119_2) T L (rdy h) K := rfl
def L119_4 : List AStep := [⟨.mov (.t 1), (some 16), none, []⟩, ⟨.bin .neq (.t 15) (.t 16), (some 17), none, []⟩]
theorem v119_4 : wpS P L119_4 T L (rdy h) K = wpS P ([⟨.mov (.t 1), (some 16), none, []⟩, ⟨.bin .neq (.t 15) (.t 16), (some 17), none, []⟩]) T L (rdy h) K := rfl
def L119_5 : List AStep := ⟨.iaddr 1 (.t 12) (.t 13), (some 14), none, []⟩ :: ⟨.load 1 false (.t 14), (some 15), none, []⟩ :: L119_4
theorem v119_5 : wpS P L119_5 T L (rdy h) K = wpS P (⟨.iaddr 1 (.t 12) (.t 13), (some 14), none, []⟩ :: ⟨.load 1 false (.t 14), (some 15), none, []⟩ :: L119_4) T L (rdy h) K := rfl
def L119_6 : List AStep := ⟨.mov (.t 0), (some 12), none, []⟩ :: ⟨.mov (.t 5), (some 13), none, []⟩ :: L119_5
theorem v119_6 : wpS P L119_6 T L (rdy h) K = wpS P (⟨.mov (.t 0), (some 12), none, []⟩ :: ⟨.mov (.t 5), (some 13), none, []⟩ :: L119_5) T L (rdy h) K := rfl
def L119_7 : List AStep := [⟨.mov (.c (.int .i64 (-1))), (some 4), none, []⟩]
theorem v119_7 : wpS P L119_7 T L (rdy h) K = wpS P ([⟨.mov (.c (.int .i64 (-1))), (some 4), none, []⟩]) T L (rdy h) K := rfl
def L119_8 : List AStep := [⟨.mov (.t 19), (some 1), none, []⟩]
theorem v119_8 : wpS P L119_8 T L (rdy h) K = wpS P ([⟨.mov (.t 19), (some 1), none, []⟩]) T L (rdy h) K := rfl
def L119_9 : List AStep := ⟨.mov (.t 1), (some 18), none, []⟩ :: ⟨.bin .add (.t 18) (.c (.int .i64 1)), (some 19), none, []⟩ :: L119_8
theorem v119_9 : wpS P L119_9 T L (rdy h) K = wpS P (⟨.mov (.t 1), (some 18), none, []⟩ :: ⟨.bin .add (.t 18) (.c (.int .i64 1)), (some 19), none, []⟩ :: L119_8) T L (rdy h) K := rfl
def L119_10 : List AStep := [⟨.mov (.t 11), (some 5), none, []⟩]
theorem v119_10 : wpS P L119_10 T L (rdy h) K = wpS P ([⟨.mov (.t 11), (some 5), none, []⟩]) T L (rdy h) K := rfl
def L119_11 : List AStep := ⟨.mov (.t 5), (some 10), none, []⟩ :: ⟨.bin .add (.t 10) (.c (.int .i64 1)), (some 11), none, []⟩ :: L119_10
theorem v119_11 : wpS P L119_11 T L (rdy h) K = wpS P (⟨.mov (.t 5), (some 10), none, []⟩ :: ⟨.bin .add (.t 10) (.c (.int .i64 1)), (some 11), none, []⟩ :: L119_10) T L (rdy h) K := rfl
def L119_12 : List AStep := [⟨.mov (.t 1), (some 20), none, []⟩, ⟨.mov (.t 20), (some 4), none, []⟩]
theorem v119_12 : wpS P L119_12 T L (rdy h) K = wpS P ([⟨.mov (.t 1), (some 20), none, []⟩, ⟨.mov (.t 20), (some 4), none, []⟩]) T L (rdy h) K := rfl
def C119_0 : ACode := .cond (.t 9) .skip (.exit 0)
theorem u119_0 : wpC P C119_0 T L (rdy h) Q = wpC P (.cond (.t 9) .skip (.exit 0)) T L (rdy h) Q := rfl
def C119_1 : ACode := .seq (.reg L119_3) C119_0
theorem u119_1 : wpC P C119_1 T L (rdy h) Q = wpC P (.seq (.reg L119_3) C119_0) T L (rdy h) Q := rfl
def C119_2 : ACode := .seq (.reg L119_7) .ret
theorem u119_2 : wpC P C119_2 T L (rdy h) Q = wpC P (.seq (.reg L119_7) .ret) T L (rdy h) Q := rfl
def C119_3 : ACode := .cond (.t 17) C119_2 .skip
theorem u119_3 : wpC P C119_3 T L (rdy h) Q = wpC P (.cond (.t 17) C119_2 .skip) T L (rdy h) Q := rfl
def C119_4 : ACode := .seq (.reg L119_6) C119_3
theorem u119_4 : wpC P C119_4 T L (rdy h) Q = wpC P (.seq (.reg L119_6) C119_3) T L (rdy h) Q := rfl
def C119_5 : ACode := .seq C119_4 (.reg L119_9)
theorem u119_5 : wpC P C119_5 T L (rdy h) Q = wpC P (.seq C119_4 (.reg L119_9)) T L (rdy h) Q := rfl
def C119_6 : ACode := .block 1 C119_5
theorem u119_6 : wpC P C119_6 T L (rdy h) Q = wpC P (.block 1 C119_5) T L (rdy h) Q := rfl
def C119_7 : ACode := .seq C119_6 (.reg L119_11)
theorem u119_7 : wpC P C119_7 T L (rdy h) Q = wpC P (.seq C119_6 (.reg L119_11)) T L (rdy h) Q := rfl
def C119_8 : ACode := .seq C119_1 C119_7
theorem u119_8 : wpC P C119_8 T L (rdy h) Q = wpC P (.seq C119_1 C119_7) T L (rdy h) Q := rfl
def C119_9 : ACode := .block 0 (.loop C119_8)
theorem u119_9 : wpC P C119_9 T L (rdy h) Q = wpC P (.block 0 (.loop C119_8)) T L (rdy h) Q := rfl
def C119_10 : ACode := .seq (.reg L119_1) C119_9
theorem u119_10 : wpC P C119_10 T L (rdy h) Q = wpC P (.seq (.reg L119_1) C119_9) T L (rdy h) Q := rfl
def C119_11 : ACode := .seq (.reg L119_12) .ret
theorem u119_11 : wpC P C119_11 T L (rdy h) Q = wpC P (.seq (.reg L119_12) .ret) T L (rdy h) Q := rfl
def C119_12 : ACode := .seq C119_10 C119_11
theorem u119_12 : wpC P C119_12 T L (rdy h) Q = wpC P (.seq C119_10 C119_11) T L (rdy h) Q := rfl
def C119_13 : ACode := .seq (.reg L119_0) C119_12
theorem u119_13 : wpC P C119_13 T L (rdy h) Q = wpC P (.seq (.reg L119_0) C119_12) T L (rdy h) Q := rfl
def F119 : AFunc := ⟨21, [.tmp 4], C119_13⟩
theorem cF119 : compB Try.prog 119 = some F119 := by kernel_rfl
end
attribute [local go_sem ↓] u119_0 u119_1 u119_2 u119_3 u119_4 u119_5 u119_6 u119_7 u119_8 u119_9 u119_10 u119_11 u119_12 u119_13 v119_0 v119_1 v119_2 v119_3 v119_4 v119_5 v119_6 v119_7 v119_8 v119_9 v119_10 v119_11 v119_12
theorem c_heldIntS (n : Nat) (v : AV) (k : Int) (h : H) (hl : SlI h v (markL mkI 1 k n)) (k1 : 0 ≤ k) (k2 : k ≤ 2 ^ 40) (hn : n ≤ 2 ^ 30) :
    bm Try.prog 119 [v, .one (.int .i64 k)] h = some (ii (k + ((1 * n : Nat) : Int)), h) := by
  refine bm_eq cF119 ?_
  have hlen := hl.len
  rw [markL_len] at hlen
  simp +contextual (maxSteps := 2000000) only [go_sem, Nat.reduceEqDiff, reduceCtorEq, Nat.reduceAdd, Nat.reduceLeDiff, F119]
  refine wpC_loop (fun i T L h' => h' = h ∧ T 0 = .v v ∧ T 1 = .v (.one (.int .i64 (k + ((1 * i : Nat) : Int)))) ∧ T 5 = .v (.one (.int .i64 i))) n ?_ ?_ (Nat.zero_le _) ?_
  · rintro i T L h' hi ⟨rfl, t0, t1, t5⟩
    have hio : i < (markL mkI 1 k n).length := by rw [markL_len]; exact hi
    have hat := markL_at hio
    have hia := hl.iaddr hio (kd := .i64)
    have hf : ∀ off : Nat, off + 1 ≤ 1 → _ := fun off ho => hl.fieldO (off := off) hio ho
    rw [hat] at hf
    have h0 := hl.field0 (c := .int .i64 (k + ((1 * i : Nat) : Int))) hio (by rw [hat]; rfl)
    have wr1 : IntKind.i64.wrap ((k + ((1 * i : Nat) : Int)) + 1) = (k + ((1 * i : Nat) : Int) + 1) := (i64_wrap (by omega) (by omega)).trans (by omega)
    simp +contextual (maxSteps := 2000000) only [go_sem, Nat.reduceEqDiff, reduceCtorEq, Nat.reduceAdd, Nat.reduceLeDiff, t0, t1, t5, hlen, hia, hf, h0, lt_true hi, decide_true, mkI, mBool, wr1]
    rw [show k + ((1 * (i + 1) : Nat) : Int) = (k + ((1 * i : Nat) : Int) + 1) by omega, wrap_next hi (by omega)]
    try exact ⟨rfl, rfl⟩
  · rintro T L h' ⟨rfl, t0, t1, t5⟩
    simp +contextual (maxSteps := 2000000) only [go_sem, Nat.reduceEqDiff, reduceCtorEq, Nat.reduceAdd, Nat.reduceLeDiff, t0, t1, t5, hlen, lt_false]
  · simp +contextual (maxSteps := 2000000) only [go_sem, Nat.reduceEqDiff, reduceCtorEq, Nat.reduceAdd, Nat.reduceLeDiff]
    simp
section
variable {P : Program} {T : Tb} {L : Lb} {h : H} {Q : PostC} {K : Post}
/-! laws.markPairS -/
def L113_0 : List AStep := [⟨.mov (.c (.int .i64 0)), (some 4), none, []⟩]
theorem v113_0 : wpS P L113_0 T L (rdy h) K = wpS P ([⟨.mov (.c (.int .i64 0)), (some 4), none, []⟩]) T L (rdy h) K := rfl
def L113_1 : List AStep := [⟨.mov (.c (.int .i64 0)), (some 5), none, []⟩]
theorem v113_1 : wpS P L113_1 T L (rdy h) K = wpS P ([⟨.mov (.c (.int .i64 0)), (some 5), none, []⟩]) T L (rdy h) K := rfl
def L113_2 : List AStep := [⟨.len (.t 7), (some 8), none, []⟩, ⟨.bin .lss (.t 6) (.t 8), (some 9), none, []⟩]
theorem v113_2 : wpS P L113_2 T L (rdy h) K = wpS P ([⟨.len (.t 7), (some 8), none, []⟩, ⟨.bin .lss (.t 6) (.t 8), (some 9), none, []⟩]) T L (rdy h) K := rfl
def L113_3 : List AStep := ⟨.mov (.t 5), (some 6), none, []⟩ :: ⟨.mov (.t 0), (some 7), none, []⟩ :: L113_2
theorem v113_3 : wpS P L113_3 T L (rdy h) K = wpS P (⟨.mov (.t 5), (some 6), none, []⟩ :: ⟨.mov (.t 0), (some 7), none, []⟩ :: L113_2) T L (rdy h) K := rfl
def L113_4 : List AStep := [⟨.store 1 (.t 17) (.t 15), none, none, []⟩]
theorem v113_4 : wpS P L113_4 T L (rdy h) K = wpS P ([⟨.store 1 (.t 17) (.t 15), none, none, []⟩]) T L (rdy h) K := rfl
def L113_5 : List AStep := ⟨.iaddr 2 (.t 12) (.t 13), (some 16), none, []⟩ :: ⟨.faddr 0 (.t 16), (some 17), none, []⟩ :: L113_4
theorem v113_5 : wpS P L113_5 T L (rdy h) K = wpS P (⟨.iaddr 2 (.t 12) (.t 13), (some 16), none, []⟩ :: ⟨.faddr 0 (.t 16), (some 17), none, []⟩ :: L113_4) T L (rdy h) K := rfl
def L113_6 : List AStep := ⟨.mov (.t 1), (some 14), none, []⟩ :: ⟨.call 143 [(.t 14)], (some 15), none, []⟩ :: L113_5
theorem v113_6 : wpS P L113_6 T L (rdy h) K = wpS P (⟨.mov (.t 1), (some 14), none, []⟩ :: ⟨.call 143 [(.t 14)], (some 15), none, []⟩ :: L113_5) T L (rdy h) K := rfl
def L113_7 : List AStep := ⟨.mov (.t 0), (some 12), none, []⟩ :: ⟨.mov (.t 5), (some 13), none, []⟩ :: L113_6
theorem v113_7 : wpS P L113_7 T L (rdy h) K = wpS P (⟨.mov (.t 0), (some 12), none, []⟩ :: ⟨.mov (.t 5), (some 13), none, []⟩ :: L113_6) T L (rdy h) K := rfl
def L113_8 : List AStep := [⟨.mov (.t 19), (some 1), none, []⟩]
theorem v113_8 : wpS P L113_8 T L (rdy h) K = wpS P ([⟨.mov (.t 19), (some 1), none, []⟩]) T L (rdy h) K := rfl
def L113_9 : List AStep := ⟨.mov (.t 1), (some 18), none, []⟩ :: ⟨.bin .add (.t 18) (.c (.int .i64 1)), (some 19), none, []⟩ :: L113_8
theorem v113_9 : wpS P L113_9 T L (rdy h) K = wpS P (⟨.mov (.t 1), (some 18), none, []⟩ :: ⟨.bin .add (.t 18) (.c (.int .i64 1)), (some 19), none, []⟩ :: L113_8) T L (rdy h) K := rfl
def L113_10 : List AStep := [⟨.faddr 1 (.t 23), (some 24), none, []⟩, ⟨.store 1 (.t 24) (.t 22), none, none, []⟩]
theorem v113_10 : wpS P L113_10 T L (rdy h) K = wpS P ([⟨.faddr 1 (.t 23), (some 24), none, []⟩, ⟨.store 1 (.t 24) (.t 22), none, none, []⟩]) T L (rdy h) K := rfl
def L113_11 : List AStep := ⟨.mov (.t 1), (some 22), none, []⟩ :: ⟨.iaddr 2 (.t 20) (.t 21), (some 23), none, []⟩ :: L113_10
theorem v113_11 : wpS P L113_11 T L (rdy h) K = wpS P (⟨.mov (.t 1), (some 22), none, []⟩ :: ⟨.iaddr 2 (.t 20) (.t 21), (some 23), none, []⟩ :: L113_10) T L (rdy h) K := rfl
def L113_12 : List AStep := ⟨.mov (.t 0), (some 20), none, []⟩ :: ⟨.mov (.t 5), (some 21), none, []⟩ :: L113_11
theorem v113_12 : wpS P L113_12 T L (rdy h) K = wpS P (⟨.mov (.t 0), (some 20), none, []⟩ :: ⟨.mov (.t 5), (some 21), none, []⟩ :: L113_11) T L (rdy h) K := rfl
def L113_13 : List AStep := [⟨.mov (.t 26), (some 1), none, []⟩]
theorem v113_13 : wpS P L113_13 T L (rdy h) K = wpS P ([⟨.mov (.t 26), (some 1), none, []⟩]) T L (rdy h) K := rfl
def L113_14 : List AStep := ⟨.mov (.t 1), (some 25), none, []⟩ :: ⟨.bin .add (.t 25) (.c (.int .i64 1)), (some 26), none, []⟩ :: L113_13
theorem v113_14 : wpS P L113_14 T L (rdy h) K = wpS P (⟨.mov (.t 1), (some 25), none, []⟩ :: ⟨.bin .add (.t 25) (.c (.int .i64 1)), (some 26), none, []⟩ :: L113_13) T L (rdy h) K := rfl
def L113_15 : List AStep := [⟨.mov (.t 11), (some 5), none, []⟩]
theorem v113_15 : wpS P L113_15 T L (rdy h) K = wpS P ([⟨.mov (.t 11), (some 5), none, []⟩]) T L (rdy h) K := rfl
def L113_16 : List AStep := ⟨.mov (.t 5), (some 10), none, []⟩ :: ⟨.bin .add (.t 10) (.c (.int .i64 1)), (some 11), none, []⟩ :: L113_15
theorem v113_16 : wpS P L113_16 T L (rdy h) K = wpS P (⟨.mov (.t 5), (some 10), none, []⟩ :: ⟨.bin .add (.t 10) (.c (.int .i64 1)), (some 11), none, []⟩ :: L113_15) T L (rdy h) K := rfl
def L113_17 : List AStep := [⟨.mov (.t 1), (some 27), none, []⟩, ⟨.mov (.t 27), (some 4), none, []⟩]
theorem v113_17 : wpS P L113_17 T L (rdy h) K = wpS P ([⟨.mov (.t 1), (some 27), none, []⟩, ⟨.mov (.t 27), (some 4), none, []⟩]) T L (rdy h) K := rfl
def C113_0 : ACode := .cond (.t 9) .skip (.exit 0)
theorem u113_0 : wpC P C113_0 T L (rdy h) Q = wpC P (.cond (.t 9) .skip (.exit 0)) T L (rdy h) Q := rfl
def C113_1 : ACode := .seq (.reg L113_3) C113_0
theorem u113_1 : wpC P C113_1 T L (rdy h) Q = wpC P (.seq (.reg L113_3) C113_0) T L (rdy h) Q := rfl
def C113_2 : ACode := .seq (.reg L113_12) (.reg L113_14)
theorem u113_2 : wpC P C113_2 T L (rdy h) Q = wpC P (.seq (.reg L113_12) (.reg L113_14)) T L (rdy h) Q := rfl
def C113_3 : ACode := .seq (.reg L113_9) C113_2
theorem u113_3 : wpC P C113_3 T L (rdy h) Q = wpC P (.seq (.reg L113_9) C113_2) T L (rdy h) Q := rfl
def C113_4 : ACode := .seq (.reg L113_7) C113_3
theorem u113_4 : wpC P C113_4 T L (rdy h) Q = wpC P (.seq (.reg L113_7) C113_3) T L (rdy h) Q := rfl
def C113_5 : ACode := .block 1 C113_4
theorem u113_5 : wpC P C113_5 T L (rdy h) Q = wpC P (.block 1 C113_4) T L (rdy h) Q := rfl
def C113_6 : ACode := .seq C113_5 (.reg L113_16)
theorem u113_6 : wpC P C113_6 T L (rdy h) Q = wpC P (.seq C113_5 (.reg L113_16)) T L (rdy h) Q := rfl
def C113_7 : ACode := .seq C113_1 C113_6
theorem u113_7 : wpC P C113_7 T L (rdy h) Q = wpC P (.seq C113_1 C113_6) T L (rdy h) Q := rfl
def C113_8 : ACode := .block 0 (.loop C113_7)
theorem u113_8 : wpC P C113_8 T L (rdy h) Q = wpC P (.block 0 (.loop C113_7)) T L (rdy h) Q := rfl
def C113_9 : ACode := .seq (.reg L113_1) C113_8
theorem u113_9 : wpC P C113_9 T L (rdy h) Q = wpC P (.seq (.reg L113_1) C113_8) T L (rdy h) Q := rfl
def C113_10 : ACode := .seq (.reg L113_17) .ret
theorem u113_10 : wpC P C113_10 T L (rdy h) Q = wpC P (.seq (.reg L113_17) .ret) T L (rdy h) Q := rfl
def C113_11 : ACode := .seq C113_9 C113_10
theorem u113_11 : wpC P C113_11 T L (rdy h) Q = wpC P (.seq C113_9 C113_10) T L (rdy h) Q := rfl
def C113_12 : ACode := .seq (.reg L113_0) C113_11
theorem u113_12 : wpC P C113_12 T L (rdy h) Q = wpC P (.seq (.reg L113_0) C113_11) T L (rdy h) Q := rfl
def F113 : AFunc := ⟨28, [.tmp 4], C113_12⟩
theorem cF113 : compB Try.prog 113 = some F113 := by kernel_rfl
end
attribute [local go_sem ↓] u113_0 u113_1 u113_2 u113_3 u113_4 u113_5 u113_6 u113_7 u113_8 u113_9 u113_10 u113_11 u113_12 v113_0 v113_1 v113_2 v113_3 v113_4 v113_5 v113_6 v113_7 v113_8 v113_9 v113_10 v113_11 v113_12 v113_13 v113_14 v113_15 v113_16 v113_17
theorem c_markPairS (l : List Pair) (v : AV) (k : Int) (h0 h : H) (hl : NwP h0 h v l) (g : Grow h0 h) (k1 : 0 ≤ k) (k2 : k ≤ 2 ^ 40) (hn : l.length ≤ 2 ^ 30) :
    callK (bm Try.prog 113 [v, .one (.int .i64 k)] h) fun r h' => r = ii (k + ((2 * l.length : Nat) : Int)) ∧ Grow h0 h' ∧ NwP h0 h' v (markL mkP 2 k l.length) ∧ Stay v h h' := by
  refine bm_of cF113 ?_
  simp +contextual (maxSteps := 2000000) only [go_sem, Nat.reduceEqDiff, reduceCtorEq, Nat.reduceAdd, Nat.reduceLeDiff, F113]
  refine wpC_loop (fun i T L h' => Grow h0 h' ∧ T 0 = .v v ∧ T 1 = .v (.one (.int .i64 (k + ((2 * i : Nat) : Int)))) ∧ T 5 = .v (.one (.int .i64 i)) ∧ NwP h0 h' v (markT mkP 2 k l i) ∧ Stay v h h') l.length ?_ ?_ (Nat.zero_le _) ?_
  · rintro i T L h' hi ⟨g, t0, t1, t5, no, st⟩
    have hlen : (markT mkP 2 k l i).length = l.length := markT_len (by omega)
    have hio : i < (markT mkP 2 k l i).length := by omega
    have hln := no.length
    rw [hlen] at hln
    have hia := no.iaddr hio (kd := .i64)
    have wr1 : IntKind.i64.wrap ((k + ((2 * i : Nat) : Int)) + 1) = (k + ((2 * i : Nat) : Int) + 1) := (i64_wrap (by omega) (by omega)).trans (by omega)
    have wr2 : IntKind.i64.wrap ((k + ((2 * i : Nat) : Int) + 1) + 1) = (k + ((2 * i : Nat) : Int) + 2) := (i64_wrap (by omega) (by omega)).trans (by omega)
    simp +contextual (maxSteps := 2000000) only [go_sem, Nat.reduceEqDiff, reduceCtorEq, Nat.reduceAdd, Nat.reduceLeDiff, t0, t1, t5, hln, hia, lt_true hi, wr1, wr2, c_markText (k + ((2 * i : Nat) : Int)) _ (by omega)]
    refine wp_set (x := (⟨mtxt (k + ((2 * i : Nat) : Int)), (markT mkP 2 k l i)[i].value⟩ : Pair)) (off := 0) (vs := [.str (mtxt (k + ((2 * i : Nat) : Int)))]) lenP no (by first | exact hio | (simp only [List.length_set]; exact hio)) rfl (by simp [encP, List.getElem_set_self]) (Nat.le_of_ble_eq_true rfl) g ?_
    intro h2 g2 n2 s2
    try rw [List.set_set] at n2
    simp +contextual (maxSteps := 2000000) only [go_sem, Nat.reduceEqDiff, reduceCtorEq, Nat.reduceAdd, Nat.reduceLeDiff, t0, t1, t5, hln, hia, wr1, wr2, c_markText (k + ((2 * i : Nat) : Int)) _ (by omega)]
    refine wp_set (x := (⟨mtxt (k + ((2 * i : Nat) : Int)), (k + ((2 * i : Nat) : Int) + 1)⟩ : Pair)) (off := 1) (vs := [.int .i64 (k + ((2 * i : Nat) : Int) + 1)]) lenP n2 (by first | exact hio | (simp only [List.length_set]; exact hio)) rfl (by simp [encP, List.getElem_set_self]) (Nat.le_of_ble_eq_true rfl) g2 ?_
    intro h3 g3 n3 s3
    try rw [List.set_set] at n3
    simp +contextual (maxSteps := 2000000) only [go_sem, Nat.reduceEqDiff, reduceCtorEq, Nat.reduceAdd, Nat.reduceLeDiff, t0, t1, t5, hln, hia, wr1, wr2, c_markText (k + ((2 * i : Nat) : Int)) _ (by omega)]
    have e : (markT mkP 2 k l i).set i (mkP (k + ((2 * i : Nat) : Int))) = markT mkP 2 k l (i + 1) := markT_set hi
    have n4 : NwP h0 h3 v (markT mkP 2 k l (i + 1)) := by rw [← e]; exact n3
    refine ⟨g3, by rw [show k + ((2 * (i + 1) : Nat) : Int) = (k + ((2 * i : Nat) : Int) + 2) by omega], by rw [wrap_next hi (by omega)], n4, ((st.trans s2).trans s3)⟩
  · rintro T L h' ⟨g, t0, t1, t5, no, st⟩
    have hln := no.length
    rw [markT_len (Nat.le_refl _)] at hln
    simp +contextual (maxSteps := 2000000) only [go_sem, Nat.reduceEqDiff, reduceCtorEq, Nat.reduceAdd, Nat.reduceLeDiff, t0, t1, t5, hln, lt_false]
    rw [markT_all] at no
    exact gcK_of ⟨rfl, g, no, st⟩ (fun _ gg => ⟨rfl, ‹Grow h0 h›, no.back hl gg, (Grow.refl h).stay v⟩)
  · simp +contextual (maxSteps := 2000000) only [go_sem, Nat.reduceEqDiff, reduceCtorEq, Nat.reduceAdd, Nat.reduceLeDiff]
    exact ⟨g, by simp, rfl, by rw [markT_zero]; exact hl, (Grow.refl h).stay v⟩
section
variable {P : Program} {T : Tb} {L : Lb} {h : H} {Q : PostC} {K : Post}
/-! laws.heldPairS -/
def L120_0 : List AStep := [⟨.mov (.c (.int .i64 0)), (some 4), none, []⟩]
theorem v120_0 : wpS P L120_0 T L (rdy h) K = wpS P ([⟨.mov (.c (.int .i64 0)), (some 4), none, []⟩]) T L (rdy h) K := rfl
def L120_1 : List AStep := [⟨.mov (.c (.int .i64 0)), (some 5), none, []⟩]
theorem v120_1 : wpS P L120_1 T L (rdy h) K = wpS P ([⟨.mov (.c (.int .i64 0)), (some 5), none, []⟩]) T L (rdy h) K := rfl
def L120_2 : List AStep := [⟨.len (.t 7), (some 8), none, []⟩, ⟨.bin .lss (.t 6) (.t 8), (some 9), none, []⟩]
theorem v120_2 : wpS P L120_2 T L (rdy h) K = wpS P ([⟨.len (.t 7), (some 8), none, []⟩, ⟨.bin .lss (.t 6) (.t 8), (some 9), none, []⟩]) T L (rdy h) K := rfl
def L120_3 : List AStep := ⟨.mov (.t 5), (some 6), none, []⟩ :: ⟨.mov (.t 0), (some 7), none, []⟩ :: L120_2
theorem v120_3 : wpS P L120_3 T L (rdy h) K = wpS P (⟨.mov (.t 5), (some 6), none, []⟩ :: ⟨.mov (.t 0), (some 7), none, []⟩ :: L120_2) T L (rdy h) K := rfl
def L120_4 : List AStep := [⟨.call 143 [(.t 17)], (some 18), none, [(.load 1 false (.t 15), (some 16), none)]⟩, ⟨.bin .neq (.t 16) (.t 18), (some 19), none, []⟩]
theorem v120_4 : wpS P L120_4 T L (rdy h) K = wpS P ([⟨.call 143 [(.t 17)], (some 18), none, [(.load 1 false (.t 15), (some 16), none)]⟩, ⟨.bin .neq (.t 16) (.t 18), (some 19), none, []⟩]) T L (rdy h) K := rfl
def L120_5 : List AStep := ⟨.load 1 false (.t 15), (some 16), none, []⟩ :: ⟨.mov (.t 1), (some 17), none, []⟩ :: L120_4
theorem v120_5 : wpS P L120_5 T L (rdy h) K = wpS P (⟨.load 1 false (.t 15), (some 16), none, []⟩ :: ⟨.mov (.t 1), (some 17), none, []⟩ :: L120_4) T L (rdy h) K := rfl
def L120_6 : List AStep := ⟨.iaddr 2 (.t 12) (.t 13), (some 14), none, []⟩ :: ⟨.faddr 0 (.t 14), (some 15), none, []⟩ :: L120_5
theorem v120_6 : wpS P L120_6 T L (rdy h) K = wpS P (⟨.iaddr 2 (.t 12) (.t 13), (some 14), none, []⟩ :: ⟨.faddr 0 (.t 14), (some 15), none, []⟩ :: L120_5) T L (rdy h) K := rfl
def L120_7 : List AStep := ⟨.mov (.t 0), (some 12), none, []⟩ :: ⟨.mov (.t 5), (some 13), none, []⟩ :: L120_6
theorem v120_7 : wpS P L120_7 T L (rdy h) K = wpS P (⟨.mov (.t 0), (some 12), none, []⟩ :: ⟨.mov (.t 5), (some 13), none, []⟩ :: L120_6) T L (rdy h) K := rfl
def L120_8 : List AStep := [⟨.mov (.c (.int .i64 (-1))), (some 4), none, []⟩]
theorem v120_8 : wpS P L120_8 T L (rdy h) K = wpS P ([⟨.mov (.c (.int .i64 (-1))), (some 4), none, []⟩]) T L (rdy h) K := rfl
def L120_9 : List AStep := [⟨.mov (.t 21), (some 1), none, []⟩]
theorem v120_9 : wpS P L120_9 T L (rdy h) K = wpS P ([⟨.mov (.t 21), (some 1), none, []⟩]) T L (rdy h) K := rfl
def L120_10 : List AStep := ⟨.mov (.t 1), (some 20), none, []⟩ :: ⟨.bin .add (.t 20) (.c (.int .i64 1)), (some 21), none, []⟩ :: L120_9
theorem v120_10 : wpS P L120_10 T L (rdy h) K = wpS P (⟨.mov (.t 1), (some 20), none, []⟩ :: ⟨.bin .add (.t 20) (.c (.int .i64 1)), (some 21), none, []⟩ :: L120_9) T L (rdy h) K := rfl
def L120_11 : List AStep := [⟨.bin .neq (.t 26) (.t 27), (some 28), none, []⟩]
theorem v120_11 : wpS P L120_11 T L (rdy h) K = wpS P ([⟨.bin .neq (.t 26) (.t 27), (some 28), none, []⟩]) T L (rdy h) K := rfl
def L120_12 : List AStep := ⟨.load 1 false (.t 25), (some 26), none, []⟩ :: ⟨.mov (.t 1), (some 27), none, []⟩ :: L120_11
theorem v120_12 : wpS P L120_12 T L (rdy h) K = wpS P (⟨.load 1 false (.t 25), (some 26), none, []⟩ :: ⟨.mov (.t 1), (some 27), none, []⟩ :: L120_11) T L (rdy h) K := rfl
def L120_13 : List AStep := ⟨.iaddr 2 (.t 22) (.t 23), (some 24), none, []⟩ :: ⟨.faddr 1 (.t 24), (some 25), none, []⟩ :: L120_12
theorem v120_13 : wpS P L120_13 T L (rdy h) K = wpS P (⟨.iaddr 2 (.t 22) (.t 23), (some 24), none, []⟩ :: ⟨.faddr 1 (.t 24), (some 25), none, []⟩ :: L120_12) T L (rdy h) K := rfl
def L120_14 : List AStep := ⟨.mov (.t 0), (some 22), none, []⟩ :: ⟨.mov (.t 5), (some 23), none, []⟩ :: L120_13
theorem v120_14 : wpS P L120_14 T L (rdy h) K = wpS P (⟨.mov (.t 0), (some 22), none, []⟩ :: ⟨.mov (.t 5), (some 23), none, []⟩ :: L120_13) T L (rdy h) K := rfl
def L120_15 : List AStep := [⟨.mov (.c (.int .i64 (-1))), (some 4), none, []⟩]
theorem v120_15 : wpS P L120_15 T L (rdy h) K = wpS P ([⟨.mov (.c (.int .i64 (-1))), (some 4), none, []⟩]) T L (rdy h) K := rfl
def L120_16 : List AStep := [⟨.mov (.t 30), (some 1), none, []⟩]
theorem v120_16 : wpS P L120_16 T L (rdy h) K = wpS P ([⟨.mov (.t 30), (some 1), none, []⟩]) T L (rdy h) K := rfl
def L120_17 : List AStep := ⟨.mov (.t 1), (some 29), none, []⟩ :: ⟨.bin .add (.t 29) (.c (.int .i64 1)), (some 30), none, []⟩ :: L120_16
theorem v120_17 : wpS P L120_17 T L (rdy h) K = wpS P (⟨.mov (.t 1), (some 29), none, []⟩ :: ⟨.bin .add (.t 29) (.c (.int .i64 1)), (some 30), none, []⟩ :: L120_16) T L (rdy h) K := rfl
def L120_18 : List AStep := [⟨.mov (.t 11), (some 5), none, []⟩]
theorem v120_18 : wpS P L120_18 T L (rdy h) K = wpS P ([⟨.mov (.t 11), (some 5), none, []⟩]) T L (rdy h) K := rfl
def L120_19 : List AStep := ⟨.mov (.t 5), (some 10), none, []⟩ :: ⟨.bin .add (.t 10) (.c (.int .i64 1)), (some 11), none, []⟩ :: L120_18
theorem v120_19 : wpS P L120_19 T L (rdy h) K = wpS P (⟨.mov (.t 5), (some 10), none, []⟩ :: ⟨.bin .add (.t 10) (.c (.int .i64 1)), (some 11), none, []⟩ :: L120_18) T L (rdy h) K := rfl
def L120_20 : List AStep := [⟨.mov (.t 1), (some 31), none, []⟩, ⟨.mov (.t 31), (some 4), none, []⟩]
theorem v120_20 : wpS P L120_20 T L (rdy h) K = wpS P ([⟨.mov (.t 1), (some 31), none, []⟩, ⟨.mov (.t 31), (some 4), none, []⟩]) T L (rdy h) K := rfl
def C120_0 : ACode := .cond (.t 9) .skip (.exit 0)
theorem u120_0 : wpC P C120_0 T L (rdy h) Q = wpC P (.cond (.t 9) .skip (.exit 0)) T L (rdy h) Q := rfl
def C120_1 : ACode := .seq (.reg L120_3) C120_0
theorem u120_1 : wpC P C120_1 T L (rdy h) Q = wpC P (.seq (.reg L120_3) C120_0) T L (rdy h) Q := rfl
def C120_2 : ACode := .seq (.reg L120_8) .ret
theorem u120_2 : wpC P C120_2 T L (rdy h) Q = wpC P (.seq (.reg L120_8) .ret) T L (rdy h) Q := rfl
def C120_3 : ACode := .cond (.t 19) C120_2 .skip
theorem u120_3 : wpC P C120_3 T L (rdy h) Q = wpC P (.cond (.t 19) C120_2 .skip) T L (rdy h) Q := rfl
def C120_4 : ACode := .seq (.reg L120_7) C120_3
theorem u120_4 : wpC P C120_4 T L (rdy h) Q = wpC P (.seq (.reg L120_7) C120_3) T L (rdy h) Q := rfl
def C120_5 : ACode := .seq (.reg L120_15) .ret
theorem u120_5 : wpC P C120_5 T L (rdy h) Q = wpC P (.seq (.reg L120_15) .ret) T L (rdy h) Q := rfl
def C120_6 : ACode := .cond (.t 28) C120_5 .skip
theorem u120_6 : wpC P C120_6 T L (rdy h) Q = wpC P (.cond (.t 28) C120_5 .skip) T L (rdy h) Q := rfl
def C120_7 : ACode := .seq (.reg L120_14) C120_6
theorem u120_7 : wpC P C120_7 T L (rdy h) Q = wpC P (.seq (.reg L120_14) C120_6) T L (rdy h) Q := rfl
def C120_8 : ACode := .seq C120_7 (.reg L120_17)
theorem u120_8 : wpC P C120_8 T L (rdy h) Q = wpC P (.seq C120_7 (.reg L120_17)) T L (rdy h) Q := rfl
def C120_9 : ACode := .seq (.reg L120_10) C120_8
theorem u120_9 : wpC P C120_9 T L (rdy h) Q = wpC P (.seq (.reg L120_10) C120_8) T L (rdy h) Q := rfl
def C120_10 : ACode := .seq C120_4 C120_9
theorem u120_10 : wpC P C120_10 T L (rdy h) Q = wpC P (.seq C120_4 C120_9) T L (rdy h) Q := rfl
def C120_11 : ACode := .block 1 C120_10
theorem u120_11 : wpC P C120_11 T L (rdy h) Q = wpC P (.block 1 C120_10) T L (rdy h) Q := rfl
def C120_12 : ACode := .seq C120_11 (.reg L120_19)
theorem u120_12 : wpC P C120_12 T L (rdy h) Q = wpC P (.seq C120_11 (.reg L120_19)) T L (rdy h) Q := rfl
def C120_13 : ACode := .seq C120_1 C120_12
theorem u120_13 : wpC P C120_13 T L (rdy h) Q = wpC P (.seq C120_1 C120_12) T L (rdy h) Q := rfl
def C120_14 : ACode := .block 0 (.loop C120_13)
theorem u120_14 : wpC P C120_14 T L (rdy h) Q = wpC P (.block 0 (.loop C120_13)) T L (rdy h) Q := rfl
def C120_15 : ACode := .seq (.reg L120_1) C120_14
theorem u120_15 : wpC P C120_15 T L (rdy h) Q = wpC P (.seq (.reg L120_1) C120_14) T L (rdy h) Q := rfl
def C120_16 : ACode := .seq (.reg L120_20) .ret
theorem u120_16 : wpC P C120_16 T L (rdy h) Q = wpC P (.seq (.reg L120_20) .ret) T L (rdy h) Q := rfl
def C120_17 : ACode := .seq C120_15 C120_16
theorem u120_17 : wpC P C120_17 T L (rdy h) Q = wpC P (.seq C120_15 C120_16) T L (rdy h) Q := rfl
def C120_18 : ACode := .seq (.reg L120_0) C120_17
theorem u120_18 : wpC P C120_18 T L (rdy h) Q = wpC P (.seq (.reg L120_0) C120_17) T L (rdy h) Q := rfl
def F120 : AFunc := ⟨32, [.tmp 4], C120_18⟩
theorem cF120 : compB Try.prog 120 = some F120 := by kernel_rfl
end
attribute [local go_sem ↓] u120_0 u120_1 u120_2 u120_3 u120_4 u120_5 u120_6 u120_7 u120_8 u120_9 u120_10 u120_11 u120_12 u120_13 u120_14 u120_15 u120_16 u120_17 u120_18 v120_0 v120_1 v120_2 v120_3 v120_4 v120_5 v120_6 v120_7 v120_8 v120_9 v120_10 v120_11 v120_12 v120_13 v120_14 v120_15 v120_16 v120_17 v120_18 v120_19 v120_20
theorem c_heldPairS (n : Nat) (v : AV) (k : Int) (h : H) (hl : SlP h v (markL mkP 2 k n)) (k1 : 0 ≤ k) (k2 : k ≤ 2 ^ 40) (hn : n ≤ 2 ^ 30) :
    bm Try.prog 120 [v, .one (.int .i64 k)] h = some (ii (k + ((2 * n : Nat) : Int)), h) := by
  refine bm_eq cF120 ?_
  have hlen := hl.len
  rw [markL_len] at hlen
  simp +contextual (maxSteps := 2000000) only [go_sem, Nat.reduceEqDiff, reduceCtorEq, Nat.reduceAdd, Nat.reduceLeDiff, F120]
  refine wpC_loop (fun i T L h' => h' = h ∧ T 0 = .v v ∧ T 1 = .v (.one (.int .i64 (k + ((2 * i : Nat) : Int)))) ∧ T 5 = .v (.one (.int .i64 i))) n ?_ ?_ (Nat.zero_le _) ?_
  · rintro i T L h' hi ⟨rfl, t0, t1, t5⟩
    have hio : i < (markL mkP 2 k n).length := by rw [markL_len]; exact hi
    have hat := markL_at hio
    have hia := hl.iaddr hio (kd := .i64)
    have hf : ∀ off : Nat, off + 1 ≤ 2 → _ := fun off ho => hl.fieldO (off := off) hio ho
    rw [hat] at hf
    have h0 := hl.field0 (c := .str (mtxt (k + ((2 * i : Nat) : Int)))) hio (by rw [hat]; rfl)
    have wr1 : IntKind.i64.wrap ((k + ((2 * i : Nat) : Int)) + 1) = (k + ((2 * i : Nat) : Int) + 1) := (i64_wrap (by omega) (by omega)).trans (by omega)
    have wr2 : IntKind.i64.wrap ((k + ((2 * i : Nat) : Int) + 1) + 1) = (k + ((2 * i : Nat) : Int) + 2) := (i64_wrap (by omega) (by omega)).trans (by omega)
    simp +contextual (maxSteps := 2000000) only [go_sem, Nat.reduceEqDiff, reduceCtorEq, Nat.reduceAdd, Nat.reduceLeDiff, t0, t1, t5, hlen, hia, hf, h0, lt_true hi, decide_true, mkP, mBool, wr1, wr2, c_markText (k + ((2 * i : Nat) : Int)) _ (by omega)]
    rw [show k + ((2 * (i + 1) : Nat) : Int) = (k + ((2 * i : Nat) : Int) + 2) by omega, wrap_next hi (by omega)]
    try exact ⟨rfl, rfl⟩
  · rintro T L h' ⟨rfl, t0, t1, t5⟩
    simp +contextual (maxSteps := 2000000) only [go_sem, Nat.reduceEqDiff, reduceCtorEq, Nat.reduceAdd, Nat.reduceLeDiff, t0, t1, t5, hlen, lt_false]
  · simp +contextual (maxSteps := 2000000) only [go_sem, Nat.reduceEqDiff, reduceCtorEq, Nat.reduceAdd, Nat.reduceLeDiff]
    simp
section
variable {P : Program} {T : Tb} {L : Lb} {h : H} {Q : PostC} {K : Post}
/-! laws.markParamS -/
def L128_0 : List AStep := [⟨.mov (.c (.int .i64 0)), (some 4), none, []⟩]
theorem v128_0 : wpS P L128_0 T L (rdy h) K = wpS P ([⟨.mov (.c (.int .i64 0)), (some 4), none, []⟩]) T L (rdy h) K := rfl
def L128_1 : List AStep := [⟨.mov (.c (.int .i64 0)), (some 5), none, []⟩]
theorem v128_1 : wpS P L128_1 T L (rdy h) K = wpS P ([⟨.mov (.c (.int .i64 0)), (some 5), none, []⟩]) T L (rdy h) K := rfl
def L128_2 : List AStep := [⟨.len (.t 7), (some 8), none, []⟩, ⟨.bin .lss (.t 6) (.t 8), (some 9), none, []⟩]
theorem v128_2 : wpS P L128_2 T L (rdy h) K = wpS P ([⟨.len (.t 7), (some 8), none, []⟩, ⟨.bin .lss (.t 6) (.t 8), (some 9), none, []⟩]) T L (rdy h) K := rfl
def L128_3 : List AStep := ⟨.mov (.t 5), (some 6), none, []⟩ :: ⟨.mov (.t 0), (some 7), none, []⟩ :: L128_2
theorem v128_3 : wpS P L128_3 T L (rdy h) K = wpS P (⟨.mov (.t 5), (some 6), none, []⟩ :: ⟨.mov (.t 0), (some 7), none, []⟩ :: L128_2) T L (rdy h) K := rfl
def L128_4 : List AStep := [⟨.store 1 (.t 17) (.t 15), none, none, []⟩]
theorem v128_4 : wpS P L128_4 T L (rdy h) K = wpS P ([⟨.store 1 (.t 17) (.t 15), none, none, []⟩]) T L (rdy h) K := rfl
def L128_5 : List AStep := ⟨.iaddr 4 (.t 12) (.t 13), (some 16), none, []⟩ :: ⟨.faddr 0 (.t 16), (some 17), none, []⟩ :: L128_4
theorem v128_5 : wpS P L128_5 T L (rdy h) K = wpS P (⟨.iaddr 4 (.t 12) (.t 13), (some 16), none, []⟩ :: ⟨.faddr 0 (.t 16), (some 17), none, []⟩ :: L128_4) T L (rdy h) K := rfl
def L128_6 : List AStep := ⟨.mov (.t 1), (some 14), none, []⟩ :: ⟨.call 143 [(.t 14)], (some 15), none, []⟩ :: L128_5
theorem v128_6 : wpS P L128_6 T L (rdy h) K = wpS P (⟨.mov (.t 1), (some 14), none, []⟩ :: ⟨.call 143 [(.t 14)], (some 15), none, []⟩ :: L128_5) T L (rdy h) K := rfl
def L128_7 : List AStep := ⟨.mov (.t 0), (some 12), none, []⟩ :: ⟨.mov (.t 5), (some 13), none, []⟩ :: L128_6
theorem v128_7 : wpS P L128_7 T L (rdy h) K = wpS P (⟨.mov (.t 0), (some 12), none, []⟩ :: ⟨.mov (.t 5), (some 13), none, []⟩ :: L128_6) T L (rdy h) K := rfl
def L128_8 : List AStep := [⟨.mov (.t 19), (some 1), none, []⟩]
theorem v128_8 : wpS P L128_8 T L (rdy h) K = wpS P ([⟨.mov (.t 19), (some 1), none, []⟩]) T L (rdy h) K := rfl
def L128_9 : List AStep := ⟨.mov (.t 1), (some 18), none, []⟩ :: ⟨.bin .add (.t 18) (.c (.int .i64 1)), (some 19), none, []⟩ :: L128_8
theorem v128_9 : wpS P L128_9 T L (rdy h) K = wpS P (⟨.mov (.t 1), (some 18), none, []⟩ :: ⟨.bin .add (.t 18) (.c (.int .i64 1)), (some 19), none, []⟩ :: L128_8) T L (rdy h) K := rfl
def L128_10 : List AStep := [⟨.faddr 1 (.t 23), (some 24), none, []⟩, ⟨.store 1 (.t 24) (.t 22), none, none, []⟩]
theorem v128_10 : wpS P L128_10 T L (rdy h) K = wpS P ([⟨.faddr 1 (.t 23), (some 24), none, []⟩, ⟨.store 1 (.t 24) (.t 22), none, none, []⟩]) T L (rdy h) K := rfl
def L128_11 : List AStep := ⟨.mov (.t 1), (some 22), none, []⟩ :: ⟨.iaddr 4 (.t 20) (.t 21), (some 23), none, []⟩ :: L128_10
theorem v128_11 : wpS P L128_11 T L (rdy h) K = wpS P (⟨.mov (.t 1), (some 22), none, []⟩ :: ⟨.iaddr 4 (.t 20) (.t 21), (some 23), none, []⟩ :: L128_10) T L (rdy h) K := rfl
def L128_12 : List AStep := ⟨.mov (.t 0), (some 20), none, []⟩ :: ⟨.mov (.t 5), (some 21), none, []⟩ :: L128_11
theorem v128_12 : wpS P L128_12 T L (rdy h) K = wpS P (⟨.mov (.t 0), (some 20), none, []⟩ :: ⟨.mov (.t 5), (some 21), none, []⟩ :: L128_11) T L (rdy h) K := rfl
def L128_13 : List AStep := [⟨.mov (.t 26), (some 1), none, []⟩]
theorem v128_13 : wpS P L128_13 T L (rdy h) K = wpS P ([⟨.mov (.t 26), (some 1), none, []⟩]) T L (rdy h) K := rfl
def L128_14 : List AStep := ⟨.mov (.t 1), (some 25), none, []⟩ :: ⟨.bin .add (.t 25) (.c (.int .i64 1)), (some 26), none, []⟩ :: L128_13
theorem v128_14 : wpS P L128_14 T L (rdy h) K = wpS P (⟨.mov (.t 1), (some 25), none, []⟩ :: ⟨.bin .add (.t 25) (.c (.int .i64 1)), (some 26), none, []⟩ :: L128_13) T L (rdy h) K := rfl
def L128_15 : List AStep := [⟨.faddr 2 (.t 32), (some 33), none, []⟩, ⟨.store 1 (.t 33) (.t 31), none, none, []⟩]
theorem v128_15 : wpS P L128_15 T L (rdy h) K = wpS P ([⟨.faddr 2 (.t 32), (some 33), none, []⟩, ⟨.store 1 (.t 33) (.t 31), none, none, []⟩]) T L (rdy h) K := rfl
def L128_16 : List AStep := ⟨.bin .eql (.t 30) (.c (.int .i64 0)), (some 31), none, []⟩ :: ⟨.iaddr 4 (.t 27) (.t 28), (some 32), none, []⟩ :: L128_15
theorem v128_16 : wpS P L128_16 T L (rdy h) K = wpS P (⟨.bin .eql (.t 30) (.c (.int .i64 0)), (some 31), none, []⟩ :: ⟨.iaddr 4 (.t 27) (.t 28), (some 32), none, []⟩ :: L128_15) T L (rdy h) K := rfl
def L128_17 : List AStep := ⟨.mov (.t 1), (some 29), none, []⟩ :: ⟨.bin .rem (.t 29) (.c (.int .i64 3)), (some 30), none, []⟩ :: L128_16
theorem v128_17 : wpS P L128_17 T L (rdy h) K = wpS P (⟨.mov (.t 1), (some 29), none, []⟩ :: ⟨.bin .rem (.t 29) (.c (.int .i64 3)), (some 30), none, []⟩ :: L128_16) T L (rdy h) K := rfl
def L128_18 : List AStep := ⟨.mov (.t 0), (some 27), none, []⟩ :: ⟨.mov (.t 5), (some 28), none, []⟩ :: L128_17
theorem v128_18 : wpS P L128_18 T L (rdy h) K = wpS P (⟨.mov (.t 0), (some 27), none, []⟩ :: ⟨.mov (.t 5), (some 28), none, []⟩ :: L128_17) T L (rdy h) K := rfl
def L128_19 : List AStep := [⟨.mov (.t 35), (some 1), none, []⟩]
theorem v128_19 : wpS P L128_19 T L (rdy h) K = wpS P ([⟨.mov (.t 35), (some 1), none, []⟩]) T L (rdy h) K := rfl
def L128_20 : List AStep := ⟨.mov (.t 1), (some 34), none, []⟩ :: ⟨.bin .add (.t 34) (.c (.int .i64 1)), (some 35), none, []⟩ :: L128_19
theorem v128_20 : wpS P L128_20 T L (rdy h) K = wpS P (⟨.mov (.t 1), (some 34), none, []⟩ :: ⟨.bin .add (.t 34) (.c (.int .i64 1)), (some 35), none, []⟩ :: L128_19) T L (rdy h) K := rfl
def L128_21 : List AStep := [⟨.faddr 3 (.t 39), (some 40), none, []⟩, ⟨.store 1 (.t 40) (.t 38), none, none, []⟩]
theorem v128_21 : wpS P L128_21 T L (rdy h) K = wpS P ([⟨.faddr 3 (.t 39), (some 40), none, []⟩, ⟨.store 1 (.t 40) (.t 38), none, none, []⟩]) T L (rdy h) K := rfl
def L128_22 : List AStep := ⟨.mov (.t 1), (some 38), none, []⟩ :: ⟨.iaddr 4 (.t 36) (.t 37), (some 39), none, []⟩ :: L128_21
theorem v128_22 : wpS P L128_22 T L (rdy h) K = wpS P (⟨.mov (.t 1), (some 38), none, []⟩ :: ⟨.iaddr 4 (.t 36) (.t 37), (some 39), none, []⟩ :: L128_21) T L (rdy h) K := rfl
def L128_23 : List AStep := ⟨.mov (.t 0), (some 36), none, []⟩ :: ⟨.mov (.t 5), (some 37), none, []⟩ :: L128_22
theorem v128_23 : wpS P L128_23 T L (rdy h) K = wpS P (⟨.mov (.t 0), (some 36), none, []⟩ :: ⟨.mov (.t 5), (some 37), none, []⟩ :: L128_22) T L (rdy h) K := rfl
def L128_24 : List AStep := [⟨.mov (.t 42), (some 1), none, []⟩]
theorem v128_24 : wpS P L128_24 T L (rdy h) K = wpS P ([⟨.mov (.t 42), (some 1), none, []⟩]) T L (rdy h) K := rfl
def L128_25 : List AStep := ⟨.mov (.t 1), (some 41), none, []⟩ :: ⟨.bin .add (.t 41) (.c (.int .i64 1)), (some 42), none, []⟩ :: L128_24
theorem v128_25 : wpS P L128_25 T L (rdy h) K = wpS P (⟨.mov (.t 1), (some 41), none, []⟩ :: ⟨.bin .add (.t 41) (.c (.int .i64 1)), (some 42), none, []⟩ :: L128_24) T L (rdy h) K := rfl
def L128_26 : List AStep := [⟨.mov (.t 11), (some 5), none, []⟩]
theorem v128_26 : wpS P L128_26 T L (rdy h) K = wpS P ([⟨.mov (.t 11), (some 5), none, []⟩]) T L (rdy h) K := rfl
def L128_27 : List AStep := ⟨.mov (.t 5), (some 10), none, []⟩ :: ⟨.bin .add (.t 10) (.c (.int .i64 1)), (some 11), none, []⟩ :: L128_26
theorem v128_27 : wpS P L128_27 T L (rdy h) K = wpS P (⟨.mov (.t 5), (some 10), none, []⟩ :: ⟨.bin .add (.t 10) (.c (.int .i64 1)), (some 11), none, []⟩ :: L128_26) T L (rdy h) K := rfl
def L128_28 : List AStep := [⟨.mov (.t 1), (some 43), none, []⟩, ⟨.mov (.t 43), (some 4), none, []⟩]
theorem v128_28 : wpS P L128_28 T L (rdy h) K = wpS P ([⟨.mov (.t 1), (some 43), none, []⟩, ⟨.mov (.t 43), (some 4), none, []⟩]) T L (rdy h) K := rfl
def C128_0 : ACode := .cond (.t 9) .skip (.exit 0)
theorem u128_0 : wpC P C128_0 T L (rdy h) Q = wpC P (.cond (.t 9) .skip (.exit 0)) T L (rdy h) Q := rfl
def C128_1 : ACode := .seq (.reg L128_3) C128_0
theorem u128_1 : wpC P C128_1 T L (rdy h) Q = wpC P (.seq (.reg L128_3) C128_0) T L (rdy h) Q := rfl
def C128_2 : ACode := .seq (.reg L128_23) (.reg L128_25)
theorem u128_2 : wpC P C128_2 T L (rdy h) Q = wpC P (.seq (.reg L128_23) (.reg L128_25)) T L (rdy h) Q := rfl
def C128_3 : ACode := .seq (.reg L128_20) C128_2
theorem u128_3 : wpC P C128_3 T L (rdy h) Q = wpC P (.seq (.reg L128_20) C128_2) T L (rdy h) Q := rfl
def C128_4 : ACode := .seq (.reg L128_18) C128_3
theorem u128_4 : wpC P C128_4 T L (rdy h) Q = wpC P (.seq (.reg L128_18) C128_3) T L (rdy h) Q := rfl
def C128_5 : ACode := .seq (.reg L128_14) C128_4
theorem u128_5 : wpC P C128_5 T L (rdy h) Q = wpC P (.seq (.reg L128_14) C128_4) T L (rdy h) Q := rfl
def C128_6 : ACode := .seq (.reg L128_12) C128_5
theorem u128_6 : wpC P C128_6 T L (rdy h) Q = wpC P (.seq (.reg L128_12) C128_5) T L (rdy h) Q := rfl
def C128_7 : ACode := .seq (.reg L128_9) C128_6
theorem u128_7 : wpC P C128_7 T L (rdy h) Q = wpC P (.seq (.reg L128_9) C128_6) T L (rdy h) Q := rfl
def C128_8 : ACode := .seq (.reg L128_7) C128_7
theorem u128_8 : wpC P C128_8 T L (rdy h) Q = wpC P (.seq (.reg L128_7) C128_7) T L (rdy h) Q := rfl
def C128_9 : ACode := .block 1 C128_8
theorem u128_9 : wpC P C128_9 T L (rdy h) Q = wpC P (.block 1 C128_8) T L (rdy h) Q := rfl
def C128_10 : ACode := .seq C128_9 (.reg L128_27)
theorem u128_10 : wpC P C128_10 T L (rdy h) Q = wpC P (.seq C128_9 (.reg L128_27)) T L (rdy h) Q := rfl
def C128_11 : ACode := .seq C128_1 C128_10
theorem u128_11 : wpC P C128_11 T L (rdy h) Q = wpC P (.seq C128_1 C128_10) T L (rdy h) Q := rfl
def C128_12 : ACode := .block 0 (.loop C128_11)
theorem u128_12 : wpC P C128_12 T L (rdy h) Q = wpC P (.block 0 (.loop C128_11)) T L (rdy h) Q := rfl
def C128_13 : ACode := .seq (.reg L128_1) C128_12
theorem u128_13 : wpC P C128_13 T L (rdy h) Q = wpC P (.seq (.reg L128_1) C128_12) T L (rdy h) Q := rfl
def C128_14 : ACode := .seq (.reg L128_28) .ret
theorem u128_14 : wpC P C128_14 T L (rdy h) Q = wpC P (.seq (.reg L128_28) .ret) T L (rdy h) Q := rfl
def C128_15 : ACode := .seq C128_13 C128_14
theorem u128_15 : wpC P C128_15 T L (rdy h) Q = wpC P (.seq C128_13 C128_14) T L (rdy h) Q := rfl
def C128_16 : ACode := .seq (.reg L128_0) C128_15
theorem u128_16 : wpC P C128_16 T L (rdy h) Q = wpC P (.seq (.reg L128_0) C128_15) T L (rdy h) Q := rfl
def F128 : AFunc := ⟨44, [.tmp 4], C128_16⟩
theorem cF128 : compB Try.prog 128 = some F128 := by kernel_rfl
end
attribute [local go_sem ↓] u128_0 u128_1 u128_2 u128_3 u128_4 u128_5 u128_6 u128_7 u128_8 u128_9 u128_10 u128_11 u128_12 u128_13 u128_14 u128_15 u128_16 v128_0 v128_1 v128_2 v128_3 v128_4 v128_5 v128_6 v128_7 v128_8 v128_9 v128_10 v128_11 v128_12 v128_13 v128_14 v128_15 v128_16 v128_17 v128_18 v128_19 v128_20 v128_21 v128_22 v128_23 v128_24 v128_25 v128_26 v128_27 v128_28
theorem c_markParamS (l : List Param) (v : AV) (k : Int) (h0 h : H) (hl : NwQ h0 h v l) (g : Grow h0 h) (k1 : 0 ≤ k) (k2 : k ≤ 2 ^ 40) (hn : l.length ≤ 2 ^ 30) :
    callK (bm Try.prog 128 [v, .one (.int .i64 k)] h) fun r h' => r = ii (k + ((4 * l.length : Nat) : Int)) ∧ Grow h0 h' ∧ NwQ h0 h' v (markL mkQ 4 k l.length) ∧ Stay v h h' := by
  refine bm_of cF128 ?_
  simp +contextual (maxSteps := 2000000) only [go_sem, Nat.reduceEqDiff, reduceCtorEq, Nat.reduceAdd, Nat.reduceLeDiff, F128]
  refine wpC_loop (fun i T L h' => Grow h0 h' ∧ T 0 = .v v ∧ T 1 = .v (.one (.int .i64 (k + ((4 * i : Nat) : Int)))) ∧ T 5 = .v (.one (.int .i64 i)) ∧ NwQ h0 h' v (markT mkQ 4 k l i) ∧ Stay v h h') l.length ?_ ?_ (Nat.zero_le _) ?_
  · rintro i T L h' hi ⟨g, t0, t1, t5, no, st⟩
    have hlen : (markT mkQ 4 k l i).length = l.length := markT_len (by omega)
    have hio : i < (markT mkQ 4 k l i).length := by omega
    have hln := no.length
    rw [hlen] at hln
    have hia := no.iaddr hio (kd := .i64)
    have wr1 : IntKind.i64.wrap ((k + ((4 * i : Nat) : Int)) + 1) = (k + ((4 * i : Nat) : Int) + 1) := (i64_wrap (by omega) (by omega)).trans (by omega)
    have wr2 : IntKind.i64.wrap ((k + ((4 * i : Nat) : Int) + 1) + 1) = (k + ((4 * i : Nat) : Int) + 2) := (i64_wrap (by omega) (by omega)).trans (by omega)
    have wr3 : IntKind.i64.wrap ((k + ((4 * i : Nat) : Int) + 2) + 1) = (k + ((4 * i : Nat) : Int) + 3) := (i64_wrap (by omega) (by omega)).trans (by omega)
    have wr4 : IntKind.i64.wrap ((k + ((4 * i : Nat) : Int) + 3) + 1) = (k + ((4 * i : Nat) : Int) + 4) := (i64_wrap (by omega) (by omega)).trans (by omega)
    simp +contextual (maxSteps := 2000000) only [go_sem, Nat.reduceEqDiff, reduceCtorEq, Nat.reduceAdd, Nat.reduceLeDiff, t0, t1, t5, hln, hia, lt_true hi, wr1, wr2, wr3, wr4, c_markText (k + ((4 * i : Nat) : Int)) _ (by omega), bin_rem (k := .i64) (a := (k + ((4 * i : Nat) : Int) + 2)) (b := 3) (by decide)]
    refine wp_set (x := (⟨mtxt (k + ((4 * i : Nat) : Int)), (markT mkQ 4 k l i)[i].kind, (markT mkQ 4 k l i)[i].has, (markT mkQ 4 k l i)[i].dflt⟩ : Param)) (off := 0) (vs := [.str (mtxt (k + ((4 * i : Nat) : Int)))]) lenQ no (by first | exact hio | (simp only [List.length_set]; exact hio)) rfl (by simp [encQ, List.getElem_set_self]) (Nat.le_of_ble_eq_true rfl) g ?_
    intro h2 g2 n2 s2
    try rw [List.set_set] at n2
    simp +contextual (maxSteps := 2000000) only [go_sem, Nat.reduceEqDiff, reduceCtorEq, Nat.reduceAdd, Nat.reduceLeDiff, t0, t1, t5, hln, hia, wr1, wr2, wr3, wr4, c_markText (k + ((4 * i : Nat) : Int)) _ (by omega), bin_rem (k := .i64) (a := (k + ((4 * i : Nat) : Int) + 2)) (b := 3) (by decide)]
    refine wp_set (x := (⟨mtxt (k + ((4 * i : Nat) : Int)), (k + ((4 * i : Nat) : Int) + 1), (markT mkQ 4 k l i)[i].has, (markT mkQ 4 k l i)[i].dflt⟩ : Param)) (off := 1) (vs := [.int .i64 (k + ((4 * i : Nat) : Int) + 1)]) lenQ n2 (by first | exact hio | (simp only [List.length_set]; exact hio)) rfl (by simp [encQ, List.getElem_set_self]) (Nat.le_of_ble_eq_true rfl) g2 ?_
    intro h3 g3 n3 s3
    try rw [List.set_set] at n3
    simp +contextual (maxSteps := 2000000) only [go_sem, Nat.reduceEqDiff, reduceCtorEq, Nat.reduceAdd, Nat.reduceLeDiff, t0, t1, t5, hln, hia, wr1, wr2, wr3, wr4, c_markText (k + ((4 * i : Nat) : Int)) _ (by omega), bin_rem (k := .i64) (a := (k + ((4 * i : Nat) : Int) + 2)) (b := 3) (by decide)]
    refine wp_set (x := (⟨mtxt (k + ((4 * i : Nat) : Int)), (k + ((4 * i : Nat) : Int) + 1), mBool (k + ((4 * i : Nat) : Int) + 2), (markT mkQ 4 k l i)[i].dflt⟩ : Param)) (off := 2) (vs := [.bool (mBool (k + ((4 * i : Nat) : Int) + 2))]) lenQ n3 (by first | exact hio | (simp only [List.length_set]; exact hio)) rfl (by simp [encQ, List.getElem_set_self]) (Nat.le_of_ble_eq_true rfl) g3 ?_
    intro h4 g4 n4 s4
    try rw [List.set_set] at n4
    simp +contextual (maxSteps := 2000000) only [go_sem, Nat.reduceEqDiff, reduceCtorEq, Nat.reduceAdd, Nat.reduceLeDiff, t0, t1, t5, hln, hia, wr1, wr2, wr3, wr4, c_markText (k + ((4 * i : Nat) : Int)) _ (by omega), bin_rem (k := .i64) (a := (k + ((4 * i : Nat) : Int) + 2)) (b := 3) (by decide)]
    refine wp_set (x := (⟨mtxt (k + ((4 * i : Nat) : Int)), (k + ((4 * i : Nat) : Int) + 1), mBool (k + ((4 * i : Nat) : Int) + 2), (k + ((4 * i : Nat) : Int) + 3)⟩ : Param)) (off := 3) (vs := [.int .i64 (k + ((4 * i : Nat) : Int) + 3)]) lenQ n4 (by first | exact hio | (simp only [List.length_set]; exact hio)) rfl (by simp [encQ, List.getElem_set_self]) (Nat.le_of_ble_eq_true rfl) g4 ?_
    intro h5 g5 n5 s5
    try rw [List.set_set] at n5
    simp +contextual (maxSteps := 2000000) only [go_sem, Nat.reduceEqDiff, reduceCtorEq, Nat.reduceAdd, Nat.reduceLeDiff, t0, t1, t5, hln, hia, wr1, wr2, wr3, wr4, c_markText (k + ((4 * i : Nat) : Int)) _ (by omega), bin_rem (k := .i64) (a := (k + ((4 * i : Nat) : Int) + 2)) (b := 3) (by decide)]
    have e : (markT mkQ 4 k l i).set i (mkQ (k + ((4 * i : Nat) : Int))) = markT mkQ 4 k l (i + 1) := markT_set hi
    have n6 : NwQ h0 h5 v (markT mkQ 4 k l (i + 1)) := by rw [← e]; exact n5
    refine ⟨g5, by rw [show k + ((4 * (i + 1) : Nat) : Int) = (k + ((4 * i : Nat) : Int) + 4) by omega], by rw [wrap_next hi (by omega)], n6, ((((st.trans s2).trans s3).trans s4).trans s5)⟩
  · rintro T L h' ⟨g, t0, t1, t5, no, st⟩
    have hln := no.length
    rw [markT_len (Nat.le_refl _)] at hln
    simp +contextual (maxSteps := 2000000) only [go_sem, Nat.reduceEqDiff, reduceCtorEq, Nat.reduceAdd, Nat.reduceLeDiff, t0, t1, t5, hln, lt_false]
    rw [markT_all] at no
    exact gcK_of ⟨rfl, g, no, st⟩ (fun _ gg => ⟨rfl, ‹Grow h0 h›, no.back hl gg, (Grow.refl h).stay v⟩)
  · simp +contextual (maxSteps := 2000000) only [go_sem, Nat.reduceEqDiff, reduceCtorEq, Nat.reduceAdd, Nat.reduceLeDiff]
    exact ⟨g, by simp, rfl, by rw [markT_zero]; exact hl, (Grow.refl h).stay v⟩
end Go.Proofs.Ytnphlonhogcedaa.Am
