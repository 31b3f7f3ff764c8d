/- Contracts of the laws: copies, marks, and what is held of them. -/
import Derived.Test.YtnphlonhogcedaaDat
namespace Go.Proofs.Ytnphlonhogcedaa.Am
open Go
set_option maxRecDepth 100000
set_option maxHeartbeats 4000000
set_option linter.unusedSimpArgs false
set_option linter.unusedVariables false
attribute [local go_sem ↓] bv_t bv_c ev_t ev_c put_same put_ne put_none kill_at pro_at lb_same lb_ne start_zero start_succ wpC_seq wpC_reg wpC_cond wpC_block wpC_skip wpC_exit wpC_ret thenQ_normal thenQ_exit thenQ_ret inBlk_normal inBlk_exit inBlk_ret wpS_nil wpS_step wpS_again wpS_guard wpO_mov wpO_load wpO_faddr wpO_nilCheck wpO_pick wpO_build wpO_bin wpO_eqb wpO_eqst wpO_eqnil wpO_not wpO_conv wpO_bytesStr wpO_iaddr wpO_idxStr wpO_field wpO_extract wpO_len wpO_lenStr wpO_cap wpO_min wpO_slice wpO_sliceStr wpO_alloc wpO_box wpO_store wpO_call wpO_callv wpO_mkfn wpO_buildSlice wpO_mkslice wpO_append wpO_appz proA_nil proA_cons tmpX_nil tmpX_tmp tmpX_cell doneB_normal doneB_ret agK_cons agK_nil pureB_load results_one results_two results_nil resBs_cons resBs_nil resB_tmp resB_cell
attribute [local go_sem] kill_v kill_lp_ne kill_lp_same pro_v pro_lp_same pro_lp_ne av_v av_lp optB_some optX_some valX_eq ldX_lp ldX_v faX_lp faX_v ncX_lp ncX_ptr ncX_fn boxK_one boxK_agg stL_some stK_lp_one stK_lp_agg stK_v_one stK_v_agg proM_v proM_lp callG_mk callVG_mk callvK_fn fnG_mk ptrsA_nil ptrsA_cons callH_some whenA_true whenA_false guardH_tt guardH_ff guardH_tf guardH_ft guardH_undef agV_one agV_agg lenO_sl lenStrO_str notO_bool pickO_bool convO_int eqbO_bool eqnilO_sl extractO_tup capO_sl minO_int loadL_one loadL_all storeL_eq fillA_nil fillA_one fillA_agg nat_ge neg_ge nat_lt neg_lt buildO bin_add bin_sub bin_mul bin_eql bin_neq bin_lss bin_leq bin_gtr bin_geq str_eql str_neq str_lss str_leq str_gtr str_geq retK_some endK_mk gcK_same gcK_int gcK_bool tupO_one tupO_agg rdy_self ib ii Option.map_none Option.map_some Option.some.injEq exists_eq_left' exists_eq_left ne_eq not_false_eq_true if_true if_false List.map_cons List.map_nil List.getElem?_cons_zero List.getElem?_cons_succ List.length_cons List.length_nil List.take_succ_cons List.take_zero List.take_nil List.drop_succ_cons List.drop_zero List.drop_nil List.cons_append List.nil_append List.append_nil List.set_cons_zero List.set_cons_succ Nat.zero_add forall_const true_and and_true and_self Bool.false_eq_true false_implies true_implies implies_true Bool.not_true Bool.not_false Bool.not_eq_true' Bool.not_eq_false' beq_self_eq_true Bool.bne_true Bool.bne_false
attribute [local go_sem] lenI lenS lenP lenQ lenB lenL lenT encI_0 encS_0 encP_0 encP_1 encQ_0 encQ_1 encQ_2 encQ_3 encB_0 encB_1 encL_0 encL_1 encT_0 encT_1
attribute [local go_sem low] whenA_bool guardH_bool
def encU (n : Int) : List CV := [.int .u8 n]
section
variable {P : Program} {T : Tb} {L : Lb} {h : H} {Q : PostC} {K : Post}
/-! laws.markText -/
def L143_0 : List AStep := [⟨.mov (.c (.str (strOfNums []))), (some 2), none, []⟩]
theorem v143_0 : wpS P L143_0 T L (rdy h) K = wpS P ([⟨.mov (.c (.str (strOfNums []))), (some 2), none, []⟩]) T L (rdy h) K := rfl
def L143_1 : List AStep := [⟨.mov (.t 0), (some 4), none, []⟩, ⟨.bin .leq (.t 4) (.c (.int .i64 0)), (some 5), none, []⟩]
theorem v143_1 : wpS P L143_1 T L (rdy h) K = wpS P ([⟨.mov (.t 0), (some 4), none, []⟩, ⟨.bin .leq (.t 4) (.c (.int .i64 0)), (some 5), none, []⟩]) T L (rdy h) K := rfl
def L143_2 : List AStep := [⟨.mov (.c (.str (strOfNums [109, 48]))), (some 2), none, []⟩]
theorem v143_2 : wpS P L143_2 T L (rdy h) K = wpS P ([⟨.mov (.c (.str (strOfNums [109, 48]))), (some 2), none, []⟩]) T L (rdy h) K := rfl
def L143_3 : List AStep := [⟨.mov (.c (.str (strOfNums []))), (some 3), none, []⟩]
theorem v143_3 : wpS P L143_3 T L (rdy h) K = wpS P ([⟨.mov (.c (.str (strOfNums []))), (some 3), none, []⟩]) T L (rdy h) K := rfl
def L143_4 : List AStep := [⟨.mov (.t 0), (some 6), none, []⟩, ⟨.bin .gtr (.t 6) (.c (.int .i64 0)), (some 7), none, []⟩]
theorem v143_4 : wpS P L143_4 T L (rdy h) K = wpS P ([⟨.mov (.t 0), (some 6), none, []⟩, ⟨.bin .gtr (.t 6) (.c (.int .i64 0)), (some 7), none, []⟩]) T L (rdy h) K := rfl
def L143_5 : List AStep := [⟨.mov (.t 15), (some 3), none, []⟩]
theorem v143_5 : wpS P L143_5 T L (rdy h) K = wpS P ([⟨.mov (.t 15), (some 3), none, []⟩]) T L (rdy h) K := rfl
def L143_6 : List AStep := ⟨.mov (.t 3), (some 14), none, []⟩ :: ⟨.bin .add (.t 13) (.t 14), (some 15), none, []⟩ :: L143_5
theorem v143_6 : wpS P L143_6 T L (rdy h) K = wpS P (⟨.mov (.t 3), (some 14), none, []⟩ :: ⟨.bin .add (.t 13) (.t 14), (some 15), none, []⟩ :: L143_5) T L (rdy h) K := rfl
def L143_7 : List AStep := ⟨.buildSlice 5 1 [(.int .u8 0)] [(0, 1, (.t 11))], (some 12), none, []⟩ :: ⟨.bytesStr (.t 12), (some 13), none, []⟩ :: L143_6
theorem v143_7 : wpS P L143_7 T L (rdy h) K = wpS P (⟨.buildSlice 5 1 [(.int .u8 0)] [(0, 1, (.t 11))], (some 12), none, []⟩ :: ⟨.bytesStr (.t 12), (some 13), none, []⟩ :: L143_6) T L (rdy h) K := rfl
def L143_8 : List AStep := ⟨.bin .add (.c (.int .i64 48)) (.t 9), (some 10), none, []⟩ :: ⟨.conv .u8 (.t 10), (some 11), none, []⟩ :: L143_7
theorem v143_8 : wpS P L143_8 T L (rdy h) K = wpS P (⟨.bin .add (.c (.int .i64 48)) (.t 9), (some 10), none, []⟩ :: ⟨.conv .u8 (.t 10), (some 11), none, []⟩ :: L143_7) T L (rdy h) K := rfl
def L143_9 : List AStep := ⟨.mov (.t 0), (some 8), none, []⟩ :: ⟨.bin .rem (.t 8) (.c (.int .i64 10)), (some 9), none, []⟩ :: L143_8
theorem v143_9 : wpS P L143_9 T L (rdy h) K = wpS P (⟨.mov (.t 0), (some 8), none, []⟩ :: ⟨.bin .rem (.t 8) (.c (.int .i64 10)), (some 9), none, []⟩ :: L143_8) T L (rdy h) K := rfl
def L143_10 : List AStep := [⟨.mov (.t 17), (some 0), none, []⟩]
theorem v143_10 : wpS P L143_10 T L (rdy h) K = wpS P ([⟨.mov (.t 17), (some 0), none, []⟩]) T L (rdy h) K := rfl
def L143_11 : List AStep := ⟨.mov (.t 0), (some 16), none, []⟩ :: ⟨.bin .quo (.t 16) (.c (.int .i64 10)), (some 17), none, []⟩ :: L143_10
theorem v143_11 : wpS P L143_11 T L (rdy h) K = wpS P (⟨.mov (.t 0), (some 16), none, []⟩ :: ⟨.bin .quo (.t 16) (.c (.int .i64 10)), (some 17), none, []⟩ :: L143_10) T L (rdy h) K := rfl
def L143_12 : List AStep := [⟨.mov (.t 19), (some 2), none, []⟩]
theorem v143_12 : wpS P L143_12 T L (rdy h) K = wpS P ([⟨.mov (.t 19), (some 2), none, []⟩]) T L (rdy h) K := rfl
def L143_13 : List AStep := ⟨.mov (.t 3), (some 18), none, []⟩ :: ⟨.bin .add (.c (.str (strOfNums [109]))) (.t 18), (some 19), none, []⟩ :: L143_12
theorem v143_13 : wpS P L143_13 T L (rdy h) K = wpS P (⟨.mov (.t 3), (some 18), none, []⟩ :: ⟨.bin .add (.c (.str (strOfNums [109]))) (.t 18), (some 19), none, []⟩ :: L143_12) T L (rdy h) K := rfl
def C143_0 : ACode := .seq (.reg L143_2) .ret
theorem u143_0 : wpC P C143_0 T L (rdy h) Q = wpC P (.seq (.reg L143_2) .ret) T L (rdy h) Q := rfl
def C143_1 : ACode := .cond (.t 5) C143_0 .skip
theorem u143_1 : wpC P C143_1 T L (rdy h) Q = wpC P (.cond (.t 5) C143_0 .skip) T L (rdy h) Q := rfl
def C143_2 : ACode := .seq (.reg L143_1) C143_1
theorem u143_2 : wpC P C143_2 T L (rdy h) Q = wpC P (.seq (.reg L143_1) C143_1) T L (rdy h) Q := rfl
def C143_3 : ACode := .cond (.t 7) .skip (.exit 0)
theorem u143_3 : wpC P C143_3 T L (rdy h) Q = wpC P (.cond (.t 7) .skip (.exit 0)) T L (rdy h) Q := rfl
def C143_4 : ACode := .seq (.reg L143_4) C143_3
theorem u143_4 : wpC P C143_4 T L (rdy h) Q = wpC P (.seq (.reg L143_4) C143_3) T L (rdy h) Q := rfl
def C143_5 : ACode := .seq (.reg L143_9) (.reg L143_11)
theorem u143_5 : wpC P C143_5 T L (rdy h) Q = wpC P (.seq (.reg L143_9) (.reg L143_11)) T L (rdy h) Q := rfl
def C143_6 : ACode := .block 1 C143_5
theorem u143_6 : wpC P C143_6 T L (rdy h) Q = wpC P (.block 1 C143_5) T L (rdy h) Q := rfl
def C143_7 : ACode := .seq C143_4 C143_6
theorem u143_7 : wpC P C143_7 T L (rdy h) Q = wpC P (.seq C143_4 C143_6) T L (rdy h) Q := rfl
def C143_8 : ACode := .block 0 (.loop C143_7)
theorem u143_8 : wpC P C143_8 T L (rdy h) Q = wpC P (.block 0 (.loop C143_7)) T L (rdy h) Q := rfl
def C143_9 : ACode := .seq (.reg L143_13) .ret
theorem u143_9 : wpC P C143_9 T L (rdy h) Q = wpC P (.seq (.reg L143_13) .ret) T L (rdy h) Q := rfl
def C143_10 : ACode := .seq C143_8 C143_9
theorem u143_10 : wpC P C143_10 T L (rdy h) Q = wpC P (.seq C143_8 C143_9) T L (rdy h) Q := rfl
def C143_11 : ACode := .seq (.reg L143_3) C143_10
theorem u143_11 : wpC P C143_11 T L (rdy h) Q = wpC P (.seq (.reg L143_3) C143_10) T L (rdy h) Q := rfl
def C143_12 : ACode := .seq C143_2 C143_11
theorem u143_12 : wpC P C143_12 T L (rdy h) Q = wpC P (.seq C143_2 C143_11) T L (rdy h) Q := rfl
def C143_13 : ACode := .seq (.reg L143_0) C143_12
theorem u143_13 : wpC P C143_13 T L (rdy h) Q = wpC P (.seq (.reg L143_0) C143_12) T L (rdy h) Q := rfl
def F143 : AFunc := ⟨20, [.tmp 2], C143_13⟩
theorem cF143 : compB Try.prog 143 = some F143 := by kernel_rfl
end
attribute [local go_sem ↓] u143_0 u143_1 u143_2 u143_3 u143_4 u143_5 u143_6 u143_7 u143_8 u143_9 u143_10 u143_11 u143_12 u143_13 v143_0 v143_1 v143_2 v143_3 v143_4 v143_5 v143_6 v143_7 v143_8 v143_9 v143_10 v143_11 v143_12 v143_13
theorem c_markText (k : Int) (h : H) (h1 : k < 2 ^ 60) : bm Try.prog 143 [.one (.int .i64 k)] h = some (.one (.str (mtxt k)), h) := by
  by_cases hk : k ≤ 0
  · refine bm_eq cF143 ?_
    simp +contextual (maxSteps := 2000000) only [go_sem, Nat.reduceEqDiff, reduceCtorEq, Nat.reduceAdd, Nat.reduceLeDiff, F143, decide_eq_true hk]
    unfold mtxt
    rw [if_pos hk]
  obtain ⟨n, rfl⟩ : ∃ n : Nat, k = n := ⟨k.toNat, by omega⟩
  have key : callK (bm Try.prog 143 [.one (.int .i64 n)] h) fun v h' => v = .one (.str (mtxt n)) ∧ h' = h := by
    refine bm_of cF143 ?_
    simp +contextual (maxSteps := 2000000) only [go_sem, Nat.reduceEqDiff, reduceCtorEq, Nat.reduceAdd, Nat.reduceLeDiff, F143, decide_eq_false hk]
    refine wpC_while (fun m T L h' => Grow h h' ∧ T 0 = .v (.one (.int .i64 m)) ∧ ∃ s, T 3 = .v (.one (.str s)) ∧ mDig m s = mDig n (strOfNums []) ∧ s.size + m ≤ n) ?_ ?_ (m := n)
    · rintro m T L h' ⟨g, t0, s, t3, e1, e2⟩
      by_cases hm : m = 0
      · subst hm
        have e3 : mDig 0 s = s := by unfold mDig; simp
        rw [e3] at e1
        simp +contextual (maxSteps := 2000000) only [go_sem, Nat.reduceEqDiff, reduceCtorEq, Nat.reduceAdd, Nat.reduceLeDiff, t0, t3, show decide (((0 : Nat) : Int) > 0) = false from rfl]
        have e4 : (strOfNums [109]).size = 1 := strOfNums_size _
        simp +contextual (maxSteps := 2000000) only [go_sem, Nat.reduceEqDiff, reduceCtorEq, Nat.reduceAdd, Nat.reduceLeDiff, str_add (s := strOfNums [109]) (t := s) (by rw [e4]; omega)]
        refine gcR_of g rfl ⟨?_, rfl⟩
        unfold mtxt
        rw [if_neg hk, e1]
        rfl
      · have e5 : mDig m s = mDig (m / 10) (strOfNums [digit m] ++ s) := by rw [mDig, dif_neg hm]
        simp +contextual (maxSteps := 2000000) only [go_sem, Nat.reduceEqDiff, reduceCtorEq, Nat.reduceAdd, Nat.reduceLeDiff, t0, t3, decide_eq_true (show ((m : Nat) : Int) > 0 by omega), bin_rem (k := .i64) (a := (m : Int)) (b := 10) (by decide), bin_quo (k := .i64) (a := (m : Int)) (b := 10) (by decide)]
        refine wp_lit (enc := encU) (k := 1) [digit m] rfl rfl ?_
        intro h2 v g2 n2 _
        have hb := bytes_at (n2.sl (fun _ => rfl)) (by simp)
        have e4 : (strOfNums [digit m]).size = 1 := strOfNums_size _
        simp +contextual (maxSteps := 2000000) only [go_sem, Nat.reduceEqDiff, reduceCtorEq, Nat.reduceAdd, Nat.reduceLeDiff, hb, t0, t3, str_add (s := strOfNums [digit m]) (t := s) (by rw [e4]; omega), bin_quo (k := .i64) (a := (m : Int)) (b := 10) (by decide)]
        refine ⟨m / 10, by omega, g.trans g2, ?_, _, rfl, ?_, ?_⟩
        · rw [show (m : Int).tdiv 10 = ((m / 10 : Nat) : Int) by rw [Int.tdiv_eq_ediv_of_nonneg (by omega)]; omega, wrap_nat (by omega)]
        · rw [← e5, e1]
        · rw [ByteArray.size_append, e4]
          omega
    · simp +contextual (maxSteps := 2000000) only [go_sem, Nat.reduceEqDiff, reduceCtorEq, Nat.reduceAdd, Nat.reduceLeDiff]
      exact ⟨Grow.refl h, _, rfl, rfl, by rw [strOfNums_size]; simp⟩
  obtain ⟨v, h', e1, rfl, rfl⟩ := key
  exact e1
section
variable {P : Program} {T : Tb} {L : Lb} {h : H} {Q : PostC} {K : Post}
/-! laws.toParam -/
def L194_0 : List AStep := [⟨.box 202 (.t 0), (some 1), none, []⟩, ⟨.alloc 108 [(.str (strOfNums [])), (.int .i64 0), (.bool false), (.int .i64 0)], (some 2), none, []⟩]
theorem v194_0 : wpS P L194_0 T L (rdy h) K = wpS P ([⟨.box 202 (.t 0), (some 1), none, []⟩, ⟨.alloc 108 [(.str (strOfNums [])), (.int .i64 0), (.bool false), (.int .i64 0)], (some 2), none, []⟩]) T L (rdy h) K := rfl
def L194_1 : List AStep := [⟨.alloc 108 [(.str (strOfNums [])), (.int .i64 0), (.bool false), (.int .i64 0)], (some 3), none, []⟩]
theorem v194_1 : wpS P L194_1 T L (rdy h) K = wpS P ([⟨.alloc 108 [(.str (strOfNums [])), (.int .i64 0), (.bool false), (.int .i64 0)], (some 3), none, []⟩]) T L (rdy h) K := rfl
def L194_2 : List AStep := [⟨.faddr 0 (.t 3), (some 6), none, []⟩, ⟨.store 1 (.t 6) (.t 5), none, none, []⟩]
theorem v194_2 : wpS P L194_2 T L (rdy h) K = wpS P ([⟨.faddr 0 (.t 3), (some 6), none, []⟩, ⟨.store 1 (.t 6) (.t 5), none, none, []⟩]) T L (rdy h) K := rfl
def L194_3 : List AStep := ⟨.faddr 0 (.t 1), (some 4), none, []⟩ :: ⟨.load 1 false (.t 4), (some 5), none, []⟩ :: L194_2
theorem v194_3 : wpS P L194_3 T L (rdy h) K = wpS P (⟨.faddr 0 (.t 1), (some 4), none, []⟩ :: ⟨.load 1 false (.t 4), (some 5), none, []⟩ :: L194_2) T L (rdy h) K := rfl
def L194_4 : List AStep := [⟨.faddr 1 (.t 3), (some 9), none, []⟩, ⟨.store 1 (.t 9) (.t 8), none, none, []⟩]
theorem v194_4 : wpS P L194_4 T L (rdy h) K = wpS P ([⟨.faddr 1 (.t 3), (some 9), none, []⟩, ⟨.store 1 (.t 9) (.t 8), none, none, []⟩]) T L (rdy h) K := rfl
def L194_5 : List AStep := ⟨.faddr 1 (.t 1), (some 7), none, []⟩ :: ⟨.load 1 false (.t 7), (some 8), none, []⟩ :: L194_4
theorem v194_5 : wpS P L194_5 T L (rdy h) K = wpS P (⟨.faddr 1 (.t 1), (some 7), none, []⟩ :: ⟨.load 1 false (.t 7), (some 8), none, []⟩ :: L194_4) T L (rdy h) K := rfl
def L194_6 : List AStep := [⟨.faddr 2 (.t 3), (some 12), none, []⟩, ⟨.store 1 (.t 12) (.t 11), none, none, []⟩]
theorem v194_6 : wpS P L194_6 T L (rdy h) K = wpS P ([⟨.faddr 2 (.t 3), (some 12), none, []⟩, ⟨.store 1 (.t 12) (.t 11), none, none, []⟩]) T L (rdy h) K := rfl
def L194_7 : List AStep := ⟨.faddr 2 (.t 1), (some 10), none, []⟩ :: ⟨.load 1 false (.t 10), (some 11), none, []⟩ :: L194_6
theorem v194_7 : wpS P L194_7 T L (rdy h) K = wpS P (⟨.faddr 2 (.t 1), (some 10), none, []⟩ :: ⟨.load 1 false (.t 10), (some 11), none, []⟩ :: L194_6) T L (rdy h) K := rfl
def L194_8 : List AStep := [⟨.faddr 3 (.t 3), (some 15), none, []⟩, ⟨.store 1 (.t 15) (.t 14), none, none, []⟩]
theorem v194_8 : wpS P L194_8 T L (rdy h) K = wpS P ([⟨.faddr 3 (.t 3), (some 15), none, []⟩, ⟨.store 1 (.t 15) (.t 14), none, none, []⟩]) T L (rdy h) K := rfl
def L194_9 : List AStep := ⟨.faddr 3 (.t 1), (some 13), none, []⟩ :: ⟨.load 1 false (.t 13), (some 14), none, []⟩ :: L194_8
theorem v194_9 : wpS P L194_9 T L (rdy h) K = wpS P (⟨.faddr 3 (.t 1), (some 13), none, []⟩ :: ⟨.load 1 false (.t 13), (some 14), none, []⟩ :: L194_8) T L (rdy h) K := rfl
def L194_10 : List AStep := [⟨.load 4 true (.t 3), (some 16), none, []⟩, ⟨.store 4 (.t 2) (.t 16), none, none, []⟩]
theorem v194_10 : wpS P L194_10 T L (rdy h) K = wpS P ([⟨.load 4 true (.t 3), (some 16), none, []⟩, ⟨.store 4 (.t 2) (.t 16), none, none, []⟩]) T L (rdy h) K := rfl
def C194_0 : ACode := .seq (.reg L194_10) .ret
theorem u194_0 : wpC P C194_0 T L (rdy h) Q = wpC P (.seq (.reg L194_10) .ret) T L (rdy h) Q := rfl
def C194_1 : ACode := .seq (.reg L194_9) C194_0
theorem u194_1 : wpC P C194_1 T L (rdy h) Q = wpC P (.seq (.reg L194_9) C194_0) T L (rdy h) Q := rfl
def C194_2 : ACode := .seq (.reg L194_7) C194_1
theorem u194_2 : wpC P C194_2 T L (rdy h) Q = wpC P (.seq (.reg L194_7) C194_1) T L (rdy h) Q := rfl
def C194_3 : ACode := .seq (.reg L194_5) C194_2
theorem u194_3 : wpC P C194_3 T L (rdy h) Q = wpC P (.seq (.reg L194_5) C194_2) T L (rdy h) Q := rfl
def C194_4 : ACode := .seq (.reg L194_3) C194_3
theorem u194_4 : wpC P C194_4 T L (rdy h) Q = wpC P (.seq (.reg L194_3) C194_3) T L (rdy h) Q := rfl
def C194_5 : ACode := .seq (.reg L194_1) C194_4
theorem u194_5 : wpC P C194_5 T L (rdy h) Q = wpC P (.seq (.reg L194_1) C194_4) T L (rdy h) Q := rfl
def C194_6 : ACode := .seq (.reg L194_0) C194_5
theorem u194_6 : wpC P C194_6 T L (rdy h) Q = wpC P (.seq (.reg L194_0) C194_5) T L (rdy h) Q := rfl
def F194 : AFunc := ⟨17, [.cell 2 4 true], C194_6⟩
theorem cF194 : compB Try.prog 194 = some F194 := by kernel_rfl
end
attribute [local go_sem ↓] u194_0 u194_1 u194_2 u194_3 u194_4 u194_5 u194_6 v194_0 v194_1 v194_2 v194_3 v194_4 v194_5 v194_6 v194_7 v194_8 v194_9 v194_10
theorem c_toParam (p : Param) (h : H) : bm Try.prog 194 [.agg (encQ p)] h = some (.agg (encQ p), h) := by
  refine bm_eq cF194 ?_
  simp +contextual (maxSteps := 2000000) only [go_sem, Nat.reduceEqDiff, reduceCtorEq, Nat.reduceAdd, Nat.reduceLeDiff, F194, encQ]
section
variable {P : Program} {T : Tb} {L : Lb} {h : H} {Q : PostC} {K : Post}
/-! laws.toTurn -/
def L140_0 : List AStep := [⟨.box 163 (.t 0), (some 1), none, []⟩, ⟨.alloc 165 [(.str (strOfNums [])), (.str (strOfNums []))], (some 2), none, []⟩]
theorem v140_0 : wpS P L140_0 T L (rdy h) K = wpS P ([⟨.box 163 (.t 0), (some 1), none, []⟩, ⟨.alloc 165 [(.str (strOfNums [])), (.str (strOfNums []))], (some 2), none, []⟩]) T L (rdy h) K := rfl
def L140_1 : List AStep := [⟨.alloc 165 [(.str (strOfNums [])), (.str (strOfNums []))], (some 3), none, []⟩]
theorem v140_1 : wpS P L140_1 T L (rdy h) K = wpS P ([⟨.alloc 165 [(.str (strOfNums [])), (.str (strOfNums []))], (some 3), none, []⟩]) T L (rdy h) K := rfl
def L140_2 : List AStep := [⟨.faddr 0 (.t 3), (some 6), none, []⟩, ⟨.store 1 (.t 6) (.t 5), none, none, []⟩]
theorem v140_2 : wpS P L140_2 T L (rdy h) K = wpS P ([⟨.faddr 0 (.t 3), (some 6), none, []⟩, ⟨.store 1 (.t 6) (.t 5), none, none, []⟩]) T L (rdy h) K := rfl
def L140_3 : List AStep := ⟨.faddr 0 (.t 1), (some 4), none, []⟩ :: ⟨.load 1 false (.t 4), (some 5), none, []⟩ :: L140_2
theorem v140_3 : wpS P L140_3 T L (rdy h) K = wpS P (⟨.faddr 0 (.t 1), (some 4), none, []⟩ :: ⟨.load 1 false (.t 4), (some 5), none, []⟩ :: L140_2) T L (rdy h) K := rfl
def L140_4 : List AStep := [⟨.faddr 1 (.t 3), (some 9), none, []⟩, ⟨.store 1 (.t 9) (.t 8), none, none, []⟩]
theorem v140_4 : wpS P L140_4 T L (rdy h) K = wpS P ([⟨.faddr 1 (.t 3), (some 9), none, []⟩, ⟨.store 1 (.t 9) (.t 8), none, none, []⟩]) T L (rdy h) K := rfl
def L140_5 : List AStep := ⟨.faddr 1 (.t 1), (some 7), none, []⟩ :: ⟨.load 1 false (.t 7), (some 8), none, []⟩ :: L140_4
theorem v140_5 : wpS P L140_5 T L (rdy h) K = wpS P (⟨.faddr 1 (.t 1), (some 7), none, []⟩ :: ⟨.load 1 false (.t 7), (some 8), none, []⟩ :: L140_4) T L (rdy h) K := rfl
def L140_6 : List AStep := [⟨.load 2 true (.t 3), (some 10), none, []⟩, ⟨.store 2 (.t 2) (.t 10), none, none, []⟩]
theorem v140_6 : wpS P L140_6 T L (rdy h) K = wpS P ([⟨.load 2 true (.t 3), (some 10), none, []⟩, ⟨.store 2 (.t 2) (.t 10), none, none, []⟩]) T L (rdy h) K := rfl
def C140_0 : ACode := .seq (.reg L140_6) .ret
theorem u140_0 : wpC P C140_0 T L (rdy h) Q = wpC P (.seq (.reg L140_6) .ret) T L (rdy h) Q := rfl
def C140_1 : ACode := .seq (.reg L140_5) C140_0
theorem u140_1 : wpC P C140_1 T L (rdy h) Q = wpC P (.seq (.reg L140_5) C140_0) T L (rdy h) Q := rfl
def C140_2 : ACode := .seq (.reg L140_3) C140_1
theorem u140_2 : wpC P C140_2 T L (rdy h) Q = wpC P (.seq (.reg L140_3) C140_1) T L (rdy h) Q := rfl
def C140_3 : ACode := .seq (.reg L140_1) C140_2
theorem u140_3 : wpC P C140_3 T L (rdy h) Q = wpC P (.seq (.reg L140_1) C140_2) T L (rdy h) Q := rfl
def C140_4 : ACode := .seq (.reg L140_0) C140_3
theorem u140_4 : wpC P C140_4 T L (rdy h) Q = wpC P (.seq (.reg L140_0) C140_3) T L (rdy h) Q := rfl
def F140 : AFunc := ⟨11, [.cell 2 2 true], C140_4⟩
theorem cF140 : compB Try.prog 140 = some F140 := by kernel_rfl
end
attribute [local go_sem ↓] u140_0 u140_1 u140_2 u140_3 u140_4 v140_0 v140_1 v140_2 v140_3 v140_4 v140_5 v140_6
theorem c_toTurn (p : Turn) (h : H) : bm Try.prog 140 [.agg (encT p)] h = some (.agg (encT p), h) := by
  refine bm_eq cF140 ?_
  simp +contextual (maxSteps := 2000000) only [go_sem, Nat.reduceEqDiff, reduceCtorEq, Nat.reduceAdd, Nat.reduceLeDiff, F140, encT]
section
variable {P : Program} {T : Tb} {L : Lb} {h : H} {Q : PostC} {K : Post}
/-! laws.toParamS -/
def L125_0 : List AStep := [⟨.mov (.c (.sl none 0 (some 0))), (some 2), none, []⟩]
theorem v125_0 : wpS P L125_0 T L (rdy h) K = wpS P ([⟨.mov (.c (.sl none 0 (some 0))), (some 2), none, []⟩]) T L (rdy h) K := rfl
def L125_1 : List AStep := [⟨.mkslice 108 40 [(.str (strOfNums [])), (.int .i64 0), (.bool false), (.int .i64 0)] (.t 6) (.t 6), (some 7), none, []⟩, ⟨.mov (.t 7), (some 3), none, []⟩]
theorem v125_1 : wpS P L125_1 T L (rdy h) K = wpS P ([⟨.mkslice 108 40 [(.str (strOfNums [])), (.int .i64 0), (.bool false), (.int .i64 0)] (.t 6) (.t 6), (some 7), none, []⟩, ⟨.mov (.t 7), (some 3), none, []⟩]) T L (rdy h) K := rfl
def L125_2 : List AStep := ⟨.mov (.t 0), (some 5), none, []⟩ :: ⟨.len (.t 5), (some 6), none, []⟩ :: L125_1
theorem v125_2 : wpS P L125_2 T L (rdy h) K = wpS P (⟨.mov (.t 0), (some 5), none, []⟩ :: ⟨.len (.t 5), (some 6), none, []⟩ :: L125_1) T L (rdy h) K := rfl
def L125_3 : List AStep := [⟨.mov (.c (.int .i64 0)), (some 4), none, []⟩]
theorem v125_3 : wpS P L125_3 T L (rdy h) K = wpS P ([⟨.mov (.c (.int .i64 0)), (some 4), none, []⟩]) T L (rdy h) K := rfl
def L125_4 : List AStep := [⟨.len (.t 9), (some 10), none, []⟩, ⟨.bin .lss (.t 8) (.t 10), (some 11), none, []⟩]
theorem v125_4 : wpS P L125_4 T L (rdy h) K = wpS P ([⟨.len (.t 9), (some 10), none, []⟩, ⟨.bin .lss (.t 8) (.t 10), (some 11), none, []⟩]) T L (rdy h) K := rfl
def L125_5 : List AStep := ⟨.mov (.t 4), (some 8), none, []⟩ :: ⟨.mov (.t 0), (some 9), none, []⟩ :: L125_4
theorem v125_5 : wpS P L125_5 T L (rdy h) K = wpS P (⟨.mov (.t 4), (some 8), none, []⟩ :: ⟨.mov (.t 0), (some 9), none, []⟩ :: L125_4) T L (rdy h) K := rfl
def L125_6 : List AStep := [⟨.store 4 (.t 21) (.t 20), none, none, []⟩]
theorem v125_6 : wpS P L125_6 T L (rdy h) K = wpS P ([⟨.store 4 (.t 21) (.t 20), none, none, []⟩]) T L (rdy h) K := rfl
def L125_7 : List AStep := ⟨.call 194 [(.t 19)], (some 20), none, []⟩ :: ⟨.iaddr 4 (.t 14) (.t 15), (some 21), none, []⟩ :: L125_6
theorem v125_7 : wpS P L125_7 T L (rdy h) K = wpS P (⟨.call 194 [(.t 19)], (some 20), none, []⟩ :: ⟨.iaddr 4 (.t 14) (.t 15), (some 21), none, []⟩ :: L125_6) T L (rdy h) K := rfl
def L125_8 : List AStep := ⟨.iaddr 4 (.t 16) (.t 17), (some 18), none, []⟩ :: ⟨.load 4 true (.t 18), (some 19), none, []⟩ :: L125_7
theorem v125_8 : wpS P L125_8 T L (rdy h) K = wpS P (⟨.iaddr 4 (.t 16) (.t 17), (some 18), none, []⟩ :: ⟨.load 4 true (.t 18), (some 19), none, []⟩ :: L125_7) T L (rdy h) K := rfl
def L125_9 : List AStep := ⟨.mov (.t 0), (some 16), none, []⟩ :: ⟨.mov (.t 4), (some 17), none, []⟩ :: L125_8
theorem v125_9 : wpS P L125_9 T L (rdy h) K = wpS P (⟨.mov (.t 0), (some 16), none, []⟩ :: ⟨.mov (.t 4), (some 17), none, []⟩ :: L125_8) T L (rdy h) K := rfl
def L125_10 : List AStep := ⟨.mov (.t 3), (some 14), none, []⟩ :: ⟨.mov (.t 4), (some 15), none, []⟩ :: L125_9
theorem v125_10 : wpS P L125_10 T L (rdy h) K = wpS P (⟨.mov (.t 3), (some 14), none, []⟩ :: ⟨.mov (.t 4), (some 15), none, []⟩ :: L125_9) T L (rdy h) K := rfl
def L125_11 : List AStep := [⟨.mov (.t 13), (some 4), none, []⟩]
theorem v125_11 : wpS P L125_11 T L (rdy h) K = wpS P ([⟨.mov (.t 13), (some 4), none, []⟩]) T L (rdy h) K := rfl
def L125_12 : List AStep := ⟨.mov (.t 4), (some 12), none, []⟩ :: ⟨.bin .add (.t 12) (.c (.int .i64 1)), (some 13), none, []⟩ :: L125_11
theorem v125_12 : wpS P L125_12 T L (rdy h) K = wpS P (⟨.mov (.t 4), (some 12), none, []⟩ :: ⟨.bin .add (.t 12) (.c (.int .i64 1)), (some 13), none, []⟩ :: L125_11) T L (rdy h) K := rfl
def L125_13 : List AStep := [⟨.mov (.t 3), (some 22), none, []⟩, ⟨.mov (.t 22), (some 2), none, []⟩]
theorem v125_13 : wpS P L125_13 T L (rdy h) K = wpS P ([⟨.mov (.t 3), (some 22), none, []⟩, ⟨.mov (.t 22), (some 2), none, []⟩]) T L (rdy h) K := rfl
def C125_0 : ACode := .cond (.t 11) .skip (.exit 0)
theorem u125_0 : wpC P C125_0 T L (rdy h) Q = wpC P (.cond (.t 11) .skip (.exit 0)) T L (rdy h) Q := rfl
def C125_1 : ACode := .seq (.reg L125_5) C125_0
theorem u125_1 : wpC P C125_1 T L (rdy h) Q = wpC P (.seq (.reg L125_5) C125_0) T L (rdy h) Q := rfl
def C125_2 : ACode := .block 1 (.reg L125_10)
theorem u125_2 : wpC P C125_2 T L (rdy h) Q = wpC P (.block 1 (.reg L125_10)) T L (rdy h) Q := rfl
def C125_3 : ACode := .seq C125_2 (.reg L125_12)
theorem u125_3 : wpC P C125_3 T L (rdy h) Q = wpC P (.seq C125_2 (.reg L125_12)) T L (rdy h) Q := rfl
def C125_4 : ACode := .seq C125_1 C125_3
theorem u125_4 : wpC P C125_4 T L (rdy h) Q = wpC P (.seq C125_1 C125_3) T L (rdy h) Q := rfl
def C125_5 : ACode := .block 0 (.loop C125_4)
theorem u125_5 : wpC P C125_5 T L (rdy h) Q = wpC P (.block 0 (.loop C125_4)) T L (rdy h) Q := rfl
def C125_6 : ACode := .seq (.reg L125_3) C125_5
theorem u125_6 : wpC P C125_6 T L (rdy h) Q = wpC P (.seq (.reg L125_3) C125_5) T L (rdy h) Q := rfl
def C125_7 : ACode := .seq (.reg L125_13) .ret
theorem u125_7 : wpC P C125_7 T L (rdy h) Q = wpC P (.seq (.reg L125_13) .ret) T L (rdy h) Q := rfl
def C125_8 : ACode := .seq C125_6 C125_7
theorem u125_8 : wpC P C125_8 T L (rdy h) Q = wpC P (.seq C125_6 C125_7) T L (rdy h) Q := rfl
def C125_9 : ACode := .seq (.reg L125_2) C125_8
theorem u125_9 : wpC P C125_9 T L (rdy h) Q = wpC P (.seq (.reg L125_2) C125_8) T L (rdy h) Q := rfl
def C125_10 : ACode := .seq (.reg L125_0) C125_9
theorem u125_10 : wpC P C125_10 T L (rdy h) Q = wpC P (.seq (.reg L125_0) C125_9) T L (rdy h) Q := rfl
def F125 : AFunc := ⟨23, [.tmp 2], C125_10⟩
theorem cF125 : compB Try.prog 125 = some F125 := by kernel_rfl
end
attribute [local go_sem ↓] u125_0 u125_1 u125_2 u125_3 u125_4 u125_5 u125_6 u125_7 u125_8 u125_9 u125_10 v125_0 v125_1 v125_2 v125_3 v125_4 v125_5 v125_6 v125_7 v125_8 v125_9 v125_10 v125_11 v125_12 v125_13
theorem c_toParamS {t1 : Nat} (l : List Param) (v : AV) (h : H) (hl : Sl encQ 4 t1 h v l) (hn : l.length ≤ 1048576) : callK (bm Try.prog 125 [v] h) fun r h' => Grow h h' ∧ NwQ h h' r l := by
  refine bm_of cF125 ?_
  simp +contextual (maxSteps := 2000000) only [go_sem, Nat.reduceEqDiff, reduceCtorEq, Nat.reduceAdd, Nat.reduceLeDiff, F125, hl.len]
  refine wp_make (enc := encQ) (k := 4) (⟨(strOfNums []), 0, false, 0⟩ : Param) rfl (by omega) (by omega) ?_
  intro h1 o g1 n1 _
  simp +contextual (maxSteps := 2000000) only [go_sem, Nat.reduceEqDiff, reduceCtorEq, Nat.reduceAdd, Nat.reduceLeDiff]
  refine wpC_loop (fun i T L h' => Grow h h' ∧ T 0 = .v v ∧ T 3 = .v o ∧ T 4 = .v (.one (.int .i64 i)) ∧ NwQ h h' o (fillL l (⟨(strOfNums []), 0, false, 0⟩ : Param) i)) l.length ?_ ?_ (Nat.zero_le _) ?_
  · rintro i T L h' hi ⟨g, t0, t3, t4, no⟩
    have hl := (‹Sl encQ 4 t1 h v l›).grow g
    have hio : i < (fillL l (⟨(strOfNums []), 0, false, 0⟩ : Param) i).length := by rw [fillL_len (by omega)]; exact hi
    simp +contextual (maxSteps := 2000000) only [go_sem, Nat.reduceEqDiff, reduceCtorEq, Nat.reduceAdd, Nat.reduceLeDiff, t0, t3, t4, hl.len, hl.iaddr hi, hl.whole hi, no.iaddr hio, lt_true hi, c_toParam]
    refine wp_setE (x := l[i]) lenQ no hio rfl rfl g ?_
    intro h2 g2 n2 _
    simp +contextual (maxSteps := 2000000) only [go_sem, Nat.reduceEqDiff, reduceCtorEq, Nat.reduceAdd, Nat.reduceLeDiff, t0, t3, t4]
    rw [fillL_set hi] at n2
    exact ⟨g2, by rw [wrap_next hi (by omega)], n2⟩
  · rintro T L h' ⟨g, t0, t3, t4, no⟩
    have hl := (‹Sl encQ 4 t1 h v l›).grow g
    simp +contextual (maxSteps := 2000000) only [go_sem, Nat.reduceEqDiff, reduceCtorEq, Nat.reduceAdd, Nat.reduceLeDiff, t0, t3, t4, hl.len, lt_false]
    rw [fillL_all] at no
    exact gcK_of ⟨g, no⟩ (fun hs _ => ⟨Grow.refl h, no.scalar hs h⟩)
  · simp +contextual (maxSteps := 2000000) only [go_sem, Nat.reduceEqDiff, reduceCtorEq, Nat.reduceAdd, Nat.reduceLeDiff]
    exact ⟨g1, rfl, by rw [fillL_zero]; exact n1⟩
section
variable {P : Program} {T : Tb} {L : Lb} {h : H} {Q : PostC} {K : Post}
/-! laws.toTurnS -/
def L63_0 : List AStep := [⟨.mov (.c (.sl none 0 (some 0))), (some 2), none, []⟩]
theorem v63_0 : wpS P L63_0 T L (rdy h) K = wpS P ([⟨.mov (.c (.sl none 0 (some 0))), (some 2), none, []⟩]) T L (rdy h) K := rfl
def L63_1 : List AStep := [⟨.mkslice 165 32 [(.str (strOfNums [])), (.str (strOfNums []))] (.t 6) (.t 6), (some 7), none, []⟩, ⟨.mov (.t 7), (some 3), none, []⟩]
theorem v63_1 : wpS P L63_1 T L (rdy h) K = wpS P ([⟨.mkslice 165 32 [(.str (strOfNums [])), (.str (strOfNums []))] (.t 6) (.t 6), (some 7), none, []⟩, ⟨.mov (.t 7), (some 3), none, []⟩]) T L (rdy h) K := rfl
def L63_2 : List AStep := ⟨.mov (.t 0), (some 5), none, []⟩ :: ⟨.len (.t 5), (some 6), none, []⟩ :: L63_1
theorem v63_2 : wpS P L63_2 T L (rdy h) K = wpS P (⟨.mov (.t 0), (some 5), none, []⟩ :: ⟨.len (.t 5), (some 6), none, []⟩ :: L63_1) T L (rdy h) K := rfl
def L63_3 : List AStep := [⟨.mov (.c (.int .i64 0)), (some 4), none, []⟩]
theorem v63_3 : wpS P L63_3 T L (rdy h) K = wpS P ([⟨.mov (.c (.int .i64 0)), (some 4), none, []⟩]) T L (rdy h) K := rfl
def L63_4 : List AStep := [⟨.len (.t 9), (some 10), none, []⟩, ⟨.bin .lss (.t 8) (.t 10), (some 11), none, []⟩]
theorem v63_4 : wpS P L63_4 T L (rdy h) K = wpS P ([⟨.len (.t 9), (some 10), none, []⟩, ⟨.bin .lss (.t 8) (.t 10), (some 11), none, []⟩]) T L (rdy h) K := rfl
def L63_5 : List AStep := ⟨.mov (.t 4), (some 8), none, []⟩ :: ⟨.mov (.t 0), (some 9), none, []⟩ :: L63_4
theorem v63_5 : wpS P L63_5 T L (rdy h) K = wpS P (⟨.mov (.t 4), (some 8), none, []⟩ :: ⟨.mov (.t 0), (some 9), none, []⟩ :: L63_4) T L (rdy h) K := rfl
def L63_6 : List AStep := [⟨.store 2 (.t 21) (.t 20), none, none, []⟩]
theorem v63_6 : wpS P L63_6 T L (rdy h) K = wpS P ([⟨.store 2 (.t 21) (.t 20), none, none, []⟩]) T L (rdy h) K := rfl
def L63_7 : List AStep := ⟨.call 140 [(.t 19)], (some 20), none, []⟩ :: ⟨.iaddr 2 (.t 14) (.t 15), (some 21), none, []⟩ :: L63_6
theorem v63_7 : wpS P L63_7 T L (rdy h) K = wpS P (⟨.call 140 [(.t 19)], (some 20), none, []⟩ :: ⟨.iaddr 2 (.t 14) (.t 15), (some 21), none, []⟩ :: L63_6) T L (rdy h) K := rfl
def L63_8 : List AStep := ⟨.iaddr 2 (.t 16) (.t 17), (some 18), none, []⟩ :: ⟨.load 2 true (.t 18), (some 19), none, []⟩ :: L63_7
theorem v63_8 : wpS P L63_8 T L (rdy h) K = wpS P (⟨.iaddr 2 (.t 16) (.t 17), (some 18), none, []⟩ :: ⟨.load 2 true (.t 18), (some 19), none, []⟩ :: L63_7) T L (rdy h) K := rfl
def L63_9 : List AStep := ⟨.mov (.t 0), (some 16), none, []⟩ :: ⟨.mov (.t 4), (some 17), none, []⟩ :: L63_8
theorem v63_9 : wpS P L63_9 T L (rdy h) K = wpS P (⟨.mov (.t 0), (some 16), none, []⟩ :: ⟨.mov (.t 4), (some 17), none, []⟩ :: L63_8) T L (rdy h) K := rfl
def L63_10 : List AStep := ⟨.mov (.t 3), (some 14), none, []⟩ :: ⟨.mov (.t 4), (some 15), none, []⟩ :: L63_9
theorem v63_10 : wpS P L63_10 T L (rdy h) K = wpS P (⟨.mov (.t 3), (some 14), none, []⟩ :: ⟨.mov (.t 4), (some 15), none, []⟩ :: L63_9) T L (rdy h) K := rfl
def L63_11 : List AStep := [⟨.mov (.t 13), (some 4), none, []⟩]
theorem v63_11 : wpS P L63_11 T L (rdy h) K = wpS P ([⟨.mov (.t 13), (some 4), none, []⟩]) T L (rdy h) K := rfl
def L63_12 : List AStep := ⟨.mov (.t 4), (some 12), none, []⟩ :: ⟨.bin .add (.t 12) (.c (.int .i64 1)), (some 13), none, []⟩ :: L63_11
theorem v63_12 : wpS P L63_12 T L (rdy h) K = wpS P (⟨.mov (.t 4), (some 12), none, []⟩ :: ⟨.bin .add (.t 12) (.c (.int .i64 1)), (some 13), none, []⟩ :: L63_11) T L (rdy h) K := rfl
def L63_13 : List AStep := [⟨.mov (.t 3), (some 22), none, []⟩, ⟨.mov (.t 22), (some 2), none, []⟩]
theorem v63_13 : wpS P L63_13 T L (rdy h) K = wpS P ([⟨.mov (.t 3), (some 22), none, []⟩, ⟨.mov (.t 22), (some 2), none, []⟩]) T L (rdy h) K := rfl
def C63_0 : ACode := .cond (.t 11) .skip (.exit 0)
theorem u63_0 : wpC P C63_0 T L (rdy h) Q = wpC P (.cond (.t 11) .skip (.exit 0)) T L (rdy h) Q := rfl
def C63_1 : ACode := .seq (.reg L63_5) C63_0
theorem u63_1 : wpC P C63_1 T L (rdy h) Q = wpC P (.seq (.reg L63_5) C63_0) T L (rdy h) Q := rfl
def C63_2 : ACode := .block 1 (.reg L63_10)
theorem u63_2 : wpC P C63_2 T L (rdy h) Q = wpC P (.block 1 (.reg L63_10)) T L (rdy h) Q := rfl
def C63_3 : ACode := .seq C63_2 (.reg L63_12)
theorem u63_3 : wpC P C63_3 T L (rdy h) Q = wpC P (.seq C63_2 (.reg L63_12)) T L (rdy h) Q := rfl
def C63_4 : ACode := .seq C63_1 C63_3
theorem u63_4 : wpC P C63_4 T L (rdy h) Q = wpC P (.seq C63_1 C63_3) T L (rdy h) Q := rfl
def C63_5 : ACode := .block 0 (.loop C63_4)
theorem u63_5 : wpC P C63_5 T L (rdy h) Q = wpC P (.block 0 (.loop C63_4)) T L (rdy h) Q := rfl
def C63_6 : ACode := .seq (.reg L63_3) C63_5
theorem u63_6 : wpC P C63_6 T L (rdy h) Q = wpC P (.seq (.reg L63_3) C63_5) T L (rdy h) Q := rfl
def C63_7 : ACode := .seq (.reg L63_13) .ret
theorem u63_7 : wpC P C63_7 T L (rdy h) Q = wpC P (.seq (.reg L63_13) .ret) T L (rdy h) Q := rfl
def C63_8 : ACode := .seq C63_6 C63_7
theorem u63_8 : wpC P C63_8 T L (rdy h) Q = wpC P (.seq C63_6 C63_7) T L (rdy h) Q := rfl
def C63_9 : ACode := .seq (.reg L63_2) C63_8
theorem u63_9 : wpC P C63_9 T L (rdy h) Q = wpC P (.seq (.reg L63_2) C63_8) T L (rdy h) Q := rfl
def C63_10 : ACode := .seq (.reg L63_0) C63_9
theorem u63_10 : wpC P C63_10 T L (rdy h) Q = wpC P (.seq (.reg L63_0) C63_9) T L (rdy h) Q := rfl
def F63 : AFunc := ⟨23, [.tmp 2], C63_10⟩
theorem cF63 : compB Try.prog 63 = some F63 := by kernel_rfl
end
attribute [local go_sem ↓] u63_0 u63_1 u63_2 u63_3 u63_4 u63_5 u63_6 u63_7 u63_8 u63_9 u63_10 v63_0 v63_1 v63_2 v63_3 v63_4 v63_5 v63_6 v63_7 v63_8 v63_9 v63_10 v63_11 v63_12 v63_13
theorem c_toTurnS {t1 : Nat} (l : List Turn) (v : AV) (h : H) (hl : Sl encT 2 t1 h v l) (hn : l.length ≤ 1048576) : callK (bm Try.prog 63 [v] h) fun r h' => Grow h h' ∧ NwT h h' r l := by
  refine bm_of cF63 ?_
  simp +contextual (maxSteps := 2000000) only [go_sem, Nat.reduceEqDiff, reduceCtorEq, Nat.reduceAdd, Nat.reduceLeDiff, F63, hl.len]
  refine wp_make (enc := encT) (k := 2) (⟨(strOfNums []), (strOfNums [])⟩ : Turn) rfl (by omega) (by omega) ?_
  intro h1 o g1 n1 _
  simp +contextual (maxSteps := 2000000) only [go_sem, Nat.reduceEqDiff, reduceCtorEq, Nat.reduceAdd, Nat.reduceLeDiff]
  refine wpC_loop (fun i T L h' => Grow h h' ∧ T 0 = .v v ∧ T 3 = .v o ∧ T 4 = .v (.one (.int .i64 i)) ∧ NwT h h' o (fillL l (⟨(strOfNums []), (strOfNums [])⟩ : Turn) i)) l.length ?_ ?_ (Nat.zero_le _) ?_
  · rintro i T L h' hi ⟨g, t0, t3, t4, no⟩
    have hl := (‹Sl encT 2 t1 h v l›).grow g
    have hio : i < (fillL l (⟨(strOfNums []), (strOfNums [])⟩ : Turn) i).length := by rw [fillL_len (by omega)]; exact hi
    simp +contextual (maxSteps := 2000000) only [go_sem, Nat.reduceEqDiff, reduceCtorEq, Nat.reduceAdd, Nat.reduceLeDiff, t0, t3, t4, hl.len, hl.iaddr hi, hl.whole hi, no.iaddr hio, lt_true hi, c_toTurn]
    refine wp_setE (x := l[i]) lenT no hio rfl rfl g ?_
    intro h2 g2 n2 _
    simp +contextual (maxSteps := 2000000) only [go_sem, Nat.reduceEqDiff, reduceCtorEq, Nat.reduceAdd, Nat.reduceLeDiff, t0, t3, t4]
    rw [fillL_set hi] at n2
    exact ⟨g2, by rw [wrap_next hi (by omega)], n2⟩
  · rintro T L h' ⟨g, t0, t3, t4, no⟩
    have hl := (‹Sl encT 2 t1 h v l›).grow g
    simp +contextual (maxSteps := 2000000) only [go_sem, Nat.reduceEqDiff, reduceCtorEq, Nat.reduceAdd, Nat.reduceLeDiff, t0, t3, t4, hl.len, lt_false]
    rw [fillL_all] at no
    exact gcK_of ⟨g, no⟩ (fun hs _ => ⟨Grow.refl h, no.scalar hs h⟩)
  · simp +contextual (maxSteps := 2000000) only [go_sem, Nat.reduceEqDiff, reduceCtorEq, Nat.reduceAdd, Nat.reduceLeDiff]
    exact ⟨g1, rfl, by rw [fillL_zero]; exact n1⟩
section
variable {P : Program} {T : Tb} {L : Lb} {h : H} {Q : PostC} {K : Post}
/-! laws.markParamS -/
def L128_0 : List AStep := [⟨.mov (.c (.int .i64 0)), (some 4), none, []⟩]
theorem v128_0 : wpS P L128_0 T L (rdy h) K = wpS P ([⟨.mov (.c (.int .i64 0)), (some 4), none, []⟩]) T L (rdy h) K := rfl
def L128_1 : List AStep := [⟨.mov (.c (.int .i64 0)), (some 5), none, []⟩]
theorem v128_1 : wpS P L128_1 T L (rdy h) K = wpS P ([⟨.mov (.c (.int .i64 0)), (some 5), none, []⟩]) T L (rdy h) K := rfl
def L128_2 : List AStep := [⟨.len (.t 7), (some 8), none, []⟩, ⟨.bin .lss (.t 6) (.t 8), (some 9), none, []⟩]
theorem v128_2 : wpS P L128_2 T L (rdy h) K = wpS P ([⟨.len (.t 7), (some 8), none, []⟩, ⟨.bin .lss (.t 6) (.t 8), (some 9), none, []⟩]) T L (rdy h) K := rfl
def L128_3 : List AStep := ⟨.mov (.t 5), (some 6), none, []⟩ :: ⟨.mov (.t 0), (some 7), none, []⟩ :: L128_2
theorem v128_3 : wpS P L128_3 T L (rdy h) K = wpS P (⟨.mov (.t 5), (some 6), none, []⟩ :: ⟨.mov (.t 0), (some 7), none, []⟩ :: L128_2) T L (rdy h) K := rfl
def L128_4 : List AStep := [⟨.store 1 (.t 17) (.t 15), none, none, []⟩]
theorem v128_4 : wpS P L128_4 T L (rdy h) K = wpS P ([⟨.store 1 (.t 17) (.t 15), none, none, []⟩]) T L (rdy h) K := rfl
def L128_5 : List AStep := ⟨.iaddr 4 (.t 12) (.t 13), (some 16), none, []⟩ :: ⟨.faddr 0 (.t 16), (some 17), none, []⟩ :: L128_4
theorem v128_5 : wpS P L128_5 T L (rdy h) K = wpS P (⟨.iaddr 4 (.t 12) (.t 13), (some 16), none, []⟩ :: ⟨.faddr 0 (.t 16), (some 17), none, []⟩ :: L128_4) T L (rdy h) K := rfl
def L128_6 : List AStep := ⟨.mov (.t 1), (some 14), none, []⟩ :: ⟨.call 143 [(.t 14)], (some 15), none, []⟩ :: L128_5
theorem v128_6 : wpS P L128_6 T L (rdy h) K = wpS P (⟨.mov (.t 1), (some 14), none, []⟩ :: ⟨.call 143 [(.t 14)], (some 15), none, []⟩ :: L128_5) T L (rdy h) K := rfl
def L128_7 : List AStep := ⟨.mov (.t 0), (some 12), none, []⟩ :: ⟨.mov (.t 5), (some 13), none, []⟩ :: L128_6
theorem v128_7 : wpS P L128_7 T L (rdy h) K = wpS P (⟨.mov (.t 0), (some 12), none, []⟩ :: ⟨.mov (.t 5), (some 13), none, []⟩ :: L128_6) T L (rdy h) K := rfl
def L128_8 : List AStep := [⟨.mov (.t 19), (some 1), none, []⟩]
theorem v128_8 : wpS P L128_8 T L (rdy h) K = wpS P ([⟨.mov (.t 19), (some 1), none, []⟩]) T L (rdy h) K := rfl
def L128_9 : List AStep := ⟨.mov (.t 1), (some 18), none, []⟩ :: ⟨.bin .add (.t 18) (.c (.int .i64 1)), (some 19), none, []⟩ :: L128_8
theorem v128_9 : wpS P L128_9 T L (rdy h) K = wpS P (⟨.mov (.t 1), (some 18), none, []⟩ :: ⟨.bin .add (.t 18) (.c (.int .i64 1)), (some 19), none, []⟩ :: L128_8) T L (rdy h) K := rfl
def L128_10 : List AStep := [⟨.faddr 1 (.t 23), (some 24), none, []⟩, ⟨.store 1 (.t 24) (.t 22), none, none, []⟩]
theorem v128_10 : wpS P L128_10 T L (rdy h) K = wpS P ([⟨.faddr 1 (.t 23), (some 24), none, []⟩, ⟨.store 1 (.t 24) (.t 22), none, none, []⟩]) T L (rdy h) K := rfl
def L128_11 : List AStep := ⟨.mov (.t 1), (some 22), none, []⟩ :: ⟨.iaddr 4 (.t 20) (.t 21), (some 23), none, []⟩ :: L128_10
theorem v128_11 : wpS P L128_11 T L (rdy h) K = wpS P (⟨.mov (.t 1), (some 22), none, []⟩ :: ⟨.iaddr 4 (.t 20) (.t 21), (some 23), none, []⟩ :: L128_10) T L (rdy h) K := rfl
def L128_12 : List AStep := ⟨.mov (.t 0), (some 20), none, []⟩ :: ⟨.mov (.t 5), (some 21), none, []⟩ :: L128_11
theorem v128_12 : wpS P L128_12 T L (rdy h) K = wpS P (⟨.mov (.t 0), (some 20), none, []⟩ :: ⟨.mov (.t 5), (some 21), none, []⟩ :: L128_11) T L (rdy h) K := rfl
def L128_13 : List AStep := [⟨.mov (.t 26), (some 1), none, []⟩]
theorem v128_13 : wpS P L128_13 T L (rdy h) K = wpS P ([⟨.mov (.t 26), (some 1), none, []⟩]) T L (rdy h) K := rfl
def L128_14 : List AStep := ⟨.mov (.t 1), (some 25), none, []⟩ :: ⟨.bin .add (.t 25) (.c (.int .i64 1)), (some 26), none, []⟩ :: L128_13
theorem v128_14 : wpS P L128_14 T L (rdy h) K = wpS P (⟨.mov (.t 1), (some 25), none, []⟩ :: ⟨.bin .add (.t 25) (.c (.int .i64 1)), (some 26), none, []⟩ :: L128_13) T L (rdy h) K := rfl
def L128_15 : List AStep := [⟨.faddr 2 (.t 32), (some 33), none, []⟩, ⟨.store 1 (.t 33) (.t 31), none, none, []⟩]
theorem v128_15 : wpS P L128_15 T L (rdy h) K = wpS P ([⟨.faddr 2 (.t 32), (some 33), none, []⟩, ⟨.store 1 (.t 33) (.t 31), none, none, []⟩]) T L (rdy h) K := rfl
def L128_16 : List AStep := ⟨.bin .eql (.t 30) (.c (.int .i64 0)), (some 31), none, []⟩ :: ⟨.iaddr 4 (.t 27) (.t 28), (some 32), none, []⟩ :: L128_15
theorem v128_16 : wpS P L128_16 T L (rdy h) K = wpS P (⟨.bin .eql (.t 30) (.c (.int .i64 0)), (some 31), none, []⟩ :: ⟨.iaddr 4 (.t 27) (.t 28), (some 32), none, []⟩ :: L128_15) T L (rdy h) K := rfl
def L128_17 : List AStep := ⟨.mov (.t 1), (some 29), none, []⟩ :: ⟨.bin .rem (.t 29) (.c (.int .i64 3)), (some 30), none, []⟩ :: L128_16
theorem v128_17 : wpS P L128_17 T L (rdy h) K = wpS P (⟨.mov (.t 1), (some 29), none, []⟩ :: ⟨.bin .rem (.t 29) (.c (.int .i64 3)), (some 30), none, []⟩ :: L128_16) T L (rdy h) K := rfl
def L128_18 : List AStep := ⟨.mov (.t 0), (some 27), none, []⟩ :: ⟨.mov (.t 5), (some 28), none, []⟩ :: L128_17
theorem v128_18 : wpS P L128_18 T L (rdy h) K = wpS P (⟨.mov (.t 0), (some 27), none, []⟩ :: ⟨.mov (.t 5), (some 28), none, []⟩ :: L128_17) T L (rdy h) K := rfl
def L128_19 : List AStep := [⟨.mov (.t 35), (some 1), none, []⟩]
theorem v128_19 : wpS P L128_19 T L (rdy h) K = wpS P ([⟨.mov (.t 35), (some 1), none, []⟩]) T L (rdy h) K := rfl
def L128_20 : List AStep := ⟨.mov (.t 1), (some 34), none, []⟩ :: ⟨.bin .add (.t 34) (.c (.int .i64 1)), (some 35), none, []⟩ :: L128_19
theorem v128_20 : wpS P L128_20 T L (rdy h) K = wpS P (⟨.mov (.t 1), (some 34), none, []⟩ :: ⟨.bin .add (.t 34) (.c (.int .i64 1)), (some 35), none, []⟩ :: L128_19) T L (rdy h) K := rfl
def L128_21 : List AStep := [⟨.faddr 3 (.t 39), (some 40), none, []⟩, ⟨.store 1 (.t 40) (.t 38), none, none, []⟩]
theorem v128_21 : wpS P L128_21 T L (rdy h) K = wpS P ([⟨.faddr 3 (.t 39), (some 40), none, []⟩, ⟨.store 1 (.t 40) (.t 38), none, none, []⟩]) T L (rdy h) K := rfl
def L128_22 : List AStep := ⟨.mov (.t 1), (some 38), none, []⟩ :: ⟨.iaddr 4 (.t 36) (.t 37), (some 39), none, []⟩ :: L128_21
theorem v128_22 : wpS P L128_22 T L (rdy h) K = wpS P (⟨.mov (.t 1), (some 38), none, []⟩ :: ⟨.iaddr 4 (.t 36) (.t 37), (some 39), none, []⟩ :: L128_21) T L (rdy h) K := rfl
def L128_23 : List AStep := ⟨.mov (.t 0), (some 36), none, []⟩ :: ⟨.mov (.t 5), (some 37), none, []⟩ :: L128_22
theorem v128_23 : wpS P L128_23 T L (rdy h) K = wpS P (⟨.mov (.t 0), (some 36), none, []⟩ :: ⟨.mov (.t 5), (some 37), none, []⟩ :: L128_22) T L (rdy h) K := rfl
def L128_24 : List AStep := [⟨.mov (.t 42), (some 1), none, []⟩]
theorem v128_24 : wpS P L128_24 T L (rdy h) K = wpS P ([⟨.mov (.t 42), (some 1), none, []⟩]) T L (rdy h) K := rfl
def L128_25 : List AStep := ⟨.mov (.t 1), (some 41), none, []⟩ :: ⟨.bin .add (.t 41) (.c (.int .i64 1)), (some 42), none, []⟩ :: L128_24
theorem v128_25 : wpS P L128_25 T L (rdy h) K = wpS P (⟨.mov (.t 1), (some 41), none, []⟩ :: ⟨.bin .add (.t 41) (.c (.int .i64 1)), (some 42), none, []⟩ :: L128_24) T L (rdy h) K := rfl
def L128_26 : List AStep := [⟨.mov (.t 11), (some 5), none, []⟩]
theorem v128_26 : wpS P L128_26 T L (rdy h) K = wpS P ([⟨.mov (.t 11), (some 5), none, []⟩]) T L (rdy h) K := rfl
def L128_27 : List AStep := ⟨.mov (.t 5), (some 10), none, []⟩ :: ⟨.bin .add (.t 10) (.c (.int .i64 1)), (some 11), none, []⟩ :: L128_26
theorem v128_27 : wpS P L128_27 T L (rdy h) K = wpS P (⟨.mov (.t 5), (some 10), none, []⟩ :: ⟨.bin .add (.t 10) (.c (.int .i64 1)), (some 11), none, []⟩ :: L128_26) T L (rdy h) K := rfl
def L128_28 : List AStep := [⟨.mov (.t 1), (some 43), none, []⟩, ⟨.mov (.t 43), (some 4), none, []⟩]
theorem v128_28 : wpS P L128_28 T L (rdy h) K = wpS P ([⟨.mov (.t 1), (some 43), none, []⟩, ⟨.mov (.t 43), (some 4), none, []⟩]) T L (rdy h) K := rfl
def C128_0 : ACode := .cond (.t 9) .skip (.exit 0)
theorem u128_0 : wpC P C128_0 T L (rdy h) Q = wpC P (.cond (.t 9) .skip (.exit 0)) T L (rdy h) Q := rfl
def C128_1 : ACode := .seq (.reg L128_3) C128_0
theorem u128_1 : wpC P C128_1 T L (rdy h) Q = wpC P (.seq (.reg L128_3) C128_0) T L (rdy h) Q := rfl
def C128_2 : ACode := .seq (.reg L128_23) (.reg L128_25)
theorem u128_2 : wpC P C128_2 T L (rdy h) Q = wpC P (.seq (.reg L128_23) (.reg L128_25)) T L (rdy h) Q := rfl
def C128_3 : ACode := .seq (.reg L128_20) C128_2
theorem u128_3 : wpC P C128_3 T L (rdy h) Q = wpC P (.seq (.reg L128_20) C128_2) T L (rdy h) Q := rfl
def C128_4 : ACode := .seq (.reg L128_18) C128_3
theorem u128_4 : wpC P C128_4 T L (rdy h) Q = wpC P (.seq (.reg L128_18) C128_3) T L (rdy h) Q := rfl
def C128_5 : ACode := .seq (.reg L128_14) C128_4
theorem u128_5 : wpC P C128_5 T L (rdy h) Q = wpC P (.seq (.reg L128_14) C128_4) T L (rdy h) Q := rfl
def C128_6 : ACode := .seq (.reg L128_12) C128_5
theorem u128_6 : wpC P C128_6 T L (rdy h) Q = wpC P (.seq (.reg L128_12) C128_5) T L (rdy h) Q := rfl
def C128_7 : ACode := .seq (.reg L128_9) C128_6
theorem u128_7 : wpC P C128_7 T L (rdy h) Q = wpC P (.seq (.reg L128_9) C128_6) T L (rdy h) Q := rfl
def C128_8 : ACode := .seq (.reg L128_7) C128_7
theorem u128_8 : wpC P C128_8 T L (rdy h) Q = wpC P (.seq (.reg L128_7) C128_7) T L (rdy h) Q := rfl
def C128_9 : ACode := .block 1 C128_8
theorem u128_9 : wpC P C128_9 T L (rdy h) Q = wpC P (.block 1 C128_8) T L (rdy h) Q := rfl
def C128_10 : ACode := .seq C128_9 (.reg L128_27)
theorem u128_10 : wpC P C128_10 T L (rdy h) Q = wpC P (.seq C128_9 (.reg L128_27)) T L (rdy h) Q := rfl
def C128_11 : ACode := .seq C128_1 C128_10
theorem u128_11 : wpC P C128_11 T L (rdy h) Q = wpC P (.seq C128_1 C128_10) T L (rdy h) Q := rfl
def C128_12 : ACode := .block 0 (.loop C128_11)
theorem u128_12 : wpC P C128_12 T L (rdy h) Q = wpC P (.block 0 (.loop C128_11)) T L (rdy h) Q := rfl
def C128_13 : ACode := .seq (.reg L128_1) C128_12
theorem u128_13 : wpC P C128_13 T L (rdy h) Q = wpC P (.seq (.reg L128_1) C128_12) T L (rdy h) Q := rfl
def C128_14 : ACode := .seq (.reg L128_28) .ret
theorem u128_14 : wpC P C128_14 T L (rdy h) Q = wpC P (.seq (.reg L128_28) .ret) T L (rdy h) Q := rfl
def C128_15 : ACode := .seq C128_13 C128_14
theorem u128_15 : wpC P C128_15 T L (rdy h) Q = wpC P (.seq C128_13 C128_14) T L (rdy h) Q := rfl
def C128_16 : ACode := .seq (.reg L128_0) C128_15
theorem u128_16 : wpC P C128_16 T L (rdy h) Q = wpC P (.seq (.reg L128_0) C128_15) T L (rdy h) Q := rfl
def F128 : AFunc := ⟨44, [.tmp 4], C128_16⟩
theorem cF128 : compB Try.prog 128 = some F128 := by kernel_rfl
end
attribute [local go_sem ↓] u128_0 u128_1 u128_2 u128_3 u128_4 u128_5 u128_6 u128_7 u128_8 u128_9 u128_10 u128_11 u128_12 u128_13 u128_14 u128_15 u128_16 v128_0 v128_1 v128_2 v128_3 v128_4 v128_5 v128_6 v128_7 v128_8 v128_9 v128_10 v128_11 v128_12 v128_13 v128_14 v128_15 v128_16 v128_17 v128_18 v128_19 v128_20 v128_21 v128_22 v128_23 v128_24 v128_25 v128_26 v128_27 v128_28
theorem c_markParamS (l : List Param) (v : AV) (k : Int) (h0 h : H) (hl : NwQ h0 h v l) (g : Grow h0 h) (k1 : 0 ≤ k) (k2 : k ≤ 2 ^ 40) (hn : l.length ≤ 2 ^ 30) :
    callK (bm Try.prog 128 [v, .one (.int .i64 k)] h) fun r h' => r = ii (k + ((4 * l.length : Nat) : Int)) ∧ Grow h0 h' ∧ NwQ h0 h' v (markL mkQ 4 k l.length) ∧ Stay v h h' := by
  refine bm_of cF128 ?_
  simp +contextual (maxSteps := 2000000) only [go_sem, Nat.reduceEqDiff, reduceCtorEq, Nat.reduceAdd, Nat.reduceLeDiff, F128]
  refine wpC_loop (fun i T L h' => Grow h0 h' ∧ T 0 = .v v ∧ T 1 = .v (.one (.int .i64 (k + ((4 * i : Nat) : Int)))) ∧ T 5 = .v (.one (.int .i64 i)) ∧ NwQ h0 h' v (markT mkQ 4 k l i) ∧ Stay v h h') l.length ?_ ?_ (Nat.zero_le _) ?_
  · rintro i T L h' hi ⟨g, t0, t1, t5, no, st⟩
    have hlen : (markT mkQ 4 k l i).length = l.length := markT_len (by omega)
    have hio : i < (markT mkQ 4 k l i).length := by omega
    have hln := no.length
    rw [hlen] at hln
    have hia := no.iaddr hio (kd := .i64)
    have wr1 : IntKind.i64.wrap ((k + ((4 * i : Nat) : Int)) + 1) = (k + ((4 * i : Nat) : Int) + 1) := (i64_wrap (by omega) (by omega)).trans (by omega)
    have wr2 : IntKind.i64.wrap ((k + ((4 * i : Nat) : Int) + 1) + 1) = (k + ((4 * i : Nat) : Int) + 2) := (i64_wrap (by omega) (by omega)).trans (by omega)
    have wr3 : IntKind.i64.wrap ((k + ((4 * i : Nat) : Int) + 2) + 1) = (k + ((4 * i : Nat) : Int) + 3) := (i64_wrap (by omega) (by omega)).trans (by omega)
    have wr4 : IntKind.i64.wrap ((k + ((4 * i : Nat) : Int) + 3) + 1) = (k + ((4 * i : Nat) : Int) + 4) := (i64_wrap (by omega) (by omega)).trans (by omega)
    simp +contextual (maxSteps := 2000000) only [go_sem, Nat.reduceEqDiff, reduceCtorEq, Nat.reduceAdd, Nat.reduceLeDiff, t0, t1, t5, hln, hia, lt_true hi, wr1, wr2, wr3, wr4, c_markText (k + ((4 * i : Nat) : Int)) _ (by omega), bin_rem (k := .i64) (a := (k + ((4 * i : Nat) : Int) + 2)) (b := 3) (by decide)]
    refine wp_set (x := (⟨mtxt (k + ((4 * i : Nat) : Int)), (markT mkQ 4 k l i)[i].kind, (markT mkQ 4 k l i)[i].has, (markT mkQ 4 k l i)[i].dflt⟩ : Param)) (off := 0) (vs := [.str (mtxt (k + ((4 * i : Nat) : Int)))]) lenQ no (by first | exact hio | (simp only [List.length_set]; exact hio)) rfl (by simp [encQ, List.getElem_set_self]) (Nat.le_of_ble_eq_true rfl) g ?_
    intro h2 g2 n2 s2
    try rw [List.set_set] at n2
    simp +contextual (maxSteps := 2000000) only [go_sem, Nat.reduceEqDiff, reduceCtorEq, Nat.reduceAdd, Nat.reduceLeDiff, t0, t1, t5, hln, hia, wr1, wr2, wr3, wr4, c_markText (k + ((4 * i : Nat) : Int)) _ (by omega), bin_rem (k := .i64) (a := (k + ((4 * i : Nat) : Int) + 2)) (b := 3) (by decide)]
    refine wp_set (x := (⟨mtxt (k + ((4 * i : Nat) : Int)), (k + ((4 * i : Nat) : Int) + 1), (markT mkQ 4 k l i)[i].has, (markT mkQ 4 k l i)[i].dflt⟩ : Param)) (off := 1) (vs := [.int .i64 (k + ((4 * i : Nat) : Int) + 1)]) lenQ n2 (by first | exact hio | (simp only [List.length_set]; exact hio)) rfl (by simp [encQ, List.getElem_set_self]) (Nat.le_of_ble_eq_true rfl) g2 ?_
    intro h3 g3 n3 s3
    try rw [List.set_set] at n3
    simp +contextual (maxSteps := 2000000) only [go_sem, Nat.reduceEqDiff, reduceCtorEq, Nat.reduceAdd, Nat.reduceLeDiff, t0, t1, t5, hln, hia, wr1, wr2, wr3, wr4, c_markText (k + ((4 * i : Nat) : Int)) _ (by omega), bin_rem (k := .i64) (a := (k + ((4 * i : Nat) : Int) + 2)) (b := 3) (by decide)]
    refine wp_set (x := (⟨mtxt (k + ((4 * i : Nat) : Int)), (k + ((4 * i : Nat) : Int) + 1), mBool (k + ((4 * i : Nat) : Int) + 2), (markT mkQ 4 k l i)[i].dflt⟩ : Param)) (off := 2) (vs := [.bool (mBool (k + ((4 * i : Nat) : Int) + 2))]) lenQ n3 (by first | exact hio | (simp only [List.length_set]; exact hio)) rfl (by simp [encQ, List.getElem_set_self]) (Nat.le_of_ble_eq_true rfl) g3 ?_
    intro h4 g4 n4 s4
    try rw [List.set_set] at n4
    simp +contextual (maxSteps := 2000000) only [go_sem, Nat.reduceEqDiff, reduceCtorEq, Nat.reduceAdd, Nat.reduceLeDiff, t0, t1, t5, hln, hia, wr1, wr2, wr3, wr4, c_markText (k + ((4 * i : Nat) : Int)) _ (by omega), bin_rem (k := .i64) (a := (k + ((4 * i : Nat) : Int) + 2)) (b := 3) (by decide)]
    refine wp_set (x := (⟨mtxt (k + ((4 * i : Nat) : Int)), (k + ((4 * i : Nat) : Int) + 1), mBool (k + ((4 * i : Nat) : Int) + 2), (k + ((4 * i : Nat) : Int) + 3)⟩ : Param)) (off := 3) (vs := [.int .i64 (k + ((4 * i : Nat) : Int) + 3)]) lenQ n4 (by first | exact hio | (simp only [List.length_set]; exact hio)) rfl (by simp [encQ, List.getElem_set_self]) (Nat.le_of_ble_eq_true rfl) g4 ?_
    intro h5 g5 n5 s5
    try rw [List.set_set] at n5
    simp +contextual (maxSteps := 2000000) only [go_sem, Nat.reduceEqDiff, reduceCtorEq, Nat.reduceAdd, Nat.reduceLeDiff, t0, t1, t5, hln, hia, wr1, wr2, wr3, wr4, c_markText (k + ((4 * i : Nat) : Int)) _ (by omega), bin_rem (k := .i64) (a := (k + ((4 * i : Nat) : Int) + 2)) (b := 3) (by decide)]
    have e : (markT mkQ 4 k l i).set i (mkQ (k + ((4 * i : Nat) : Int))) = markT mkQ 4 k l (i + 1) := markT_set hi
    have n6 : NwQ h0 h5 v (markT mkQ 4 k l (i + 1)) := by rw [← e]; exact n5
    refine ⟨g5, by rw [show k + ((4 * (i + 1) : Nat) : Int) = (k + ((4 * i : Nat) : Int) + 4) by omega], by rw [wrap_next hi (by omega)], n6, ((((st.trans s2).trans s3).trans s4).trans s5)⟩
  · rintro T L h' ⟨g, t0, t1, t5, no, st⟩
    have hln := no.length
    rw [markT_len (Nat.le_refl _)] at hln
    simp +contextual (maxSteps := 2000000) only [go_sem, Nat.reduceEqDiff, reduceCtorEq, Nat.reduceAdd, Nat.reduceLeDiff, t0, t1, t5, hln, lt_false]
    rw [markT_all] at no
    exact gcK_of ⟨rfl, g, no, st⟩ (fun _ gg => ⟨rfl, ‹Grow h0 h›, no.back hl gg, (Grow.refl h).stay v⟩)
  · simp +contextual (maxSteps := 2000000) only [go_sem, Nat.reduceEqDiff, reduceCtorEq, Nat.reduceAdd, Nat.reduceLeDiff]
    exact ⟨g, by simp, rfl, by rw [markT_zero]; exact hl, (Grow.refl h).stay v⟩
section
variable {P : Program} {T : Tb} {L : Lb} {h : H} {Q : PostC} {K : Post}
/-! laws.heldParamS -/
def L144_0 : List AStep := [⟨.mov (.c (.int .i64 0)), (some 4), none, []⟩]
theorem v144_0 : wpS P L144_0 T L (rdy h) K = wpS P ([⟨.mov (.c (.int .i64 0)), (some 4), none, []⟩]) T L (rdy h) K := rfl
def L144_1 : List AStep := [⟨.mov (.c (.int .i64 0)), (some 5), none, []⟩]
theorem v144_1 : wpS P L144_1 T L (rdy h) K = wpS P ([⟨.mov (.c (.int .i64 0)), (some 5), none, []⟩]) T L (rdy h) K := rfl
def L144_2 : List AStep := [⟨.len (.t 7), (some 8), none, []⟩, ⟨.bin .lss (.t 6) (.t 8), (some 9), none, []⟩]
theorem v144_2 : wpS P L144_2 T L (rdy h) K = wpS P ([⟨.len (.t 7), (some 8), none, []⟩, ⟨.bin .lss (.t 6) (.t 8), (some 9), none, []⟩]) T L (rdy h) K := rfl
def L144_3 : List AStep := ⟨.mov (.t 5), (some 6), none, []⟩ :: ⟨.mov (.t 0), (some 7), none, []⟩ :: L144_2
theorem v144_3 : wpS P L144_3 T L (rdy h) K = wpS P (⟨.mov (.t 5), (some 6), none, []⟩ :: ⟨.mov (.t 0), (some 7), none, []⟩ :: L144_2) T L (rdy h) K := rfl
def L144_4 : List AStep := [⟨.call 143 [(.t 17)], (some 18), none, [(.load 1 false (.t 15), (some 16), none)]⟩, ⟨.bin .neq (.t 16) (.t 18), (some 19), none, []⟩]
theorem v144_4 : wpS P L144_4 T L (rdy h) K = wpS P ([⟨.call 143 [(.t 17)], (some 18), none, [(.load 1 false (.t 15), (some 16), none)]⟩, ⟨.bin .neq (.t 16) (.t 18), (some 19), none, []⟩]) T L (rdy h) K := rfl
def L144_5 : List AStep := ⟨.load 1 false (.t 15), (some 16), none, []⟩ :: ⟨.mov (.t 1), (some 17), none, []⟩ :: L144_4
theorem v144_5 : wpS P L144_5 T L (rdy h) K = wpS P (⟨.load 1 false (.t 15), (some 16), none, []⟩ :: ⟨.mov (.t 1), (some 17), none, []⟩ :: L144_4) T L (rdy h) K := rfl
def L144_6 : List AStep := ⟨.iaddr 4 (.t 12) (.t 13), (some 14), none, []⟩ :: ⟨.faddr 0 (.t 14), (some 15), none, []⟩ :: L144_5
theorem v144_6 : wpS P L144_6 T L (rdy h) K = wpS P (⟨.iaddr 4 (.t 12) (.t 13), (some 14), none, []⟩ :: ⟨.faddr 0 (.t 14), (some 15), none, []⟩ :: L144_5) T L (rdy h) K := rfl
def L144_7 : List AStep := ⟨.mov (.t 0), (some 12), none, []⟩ :: ⟨.mov (.t 5), (some 13), none, []⟩ :: L144_6
theorem v144_7 : wpS P L144_7 T L (rdy h) K = wpS P (⟨.mov (.t 0), (some 12), none, []⟩ :: ⟨.mov (.t 5), (some 13), none, []⟩ :: L144_6) T L (rdy h) K := rfl
def L144_8 : List AStep := [⟨.mov (.c (.int .i64 (-1))), (some 4), none, []⟩]
theorem v144_8 : wpS P L144_8 T L (rdy h) K = wpS P ([⟨.mov (.c (.int .i64 (-1))), (some 4), none, []⟩]) T L (rdy h) K := rfl
def L144_9 : List AStep := [⟨.mov (.t 21), (some 1), none, []⟩]
theorem v144_9 : wpS P L144_9 T L (rdy h) K = wpS P ([⟨.mov (.t 21), (some 1), none, []⟩]) T L (rdy h) K := rfl
def L144_10 : List AStep := ⟨.mov (.t 1), (some 20), none, []⟩ :: ⟨.bin .add (.t 20) (.c (.int .i64 1)), (some 21), none, []⟩ :: L144_9
theorem v144_10 : wpS P L144_10 T L (rdy h) K = wpS P (⟨.mov (.t 1), (some 20), none, []⟩ :: ⟨.bin .add (.t 20) (.c (.int .i64 1)), (some 21), none, []⟩ :: L144_9) T L (rdy h) K := rfl
def L144_11 : List AStep := [⟨.bin .neq (.t 26) (.t 27), (some 28), none, []⟩]
theorem v144_11 : wpS P L144_11 T L (rdy h) K = wpS P ([⟨.bin .neq (.t 26) (.t 27), (some 28), none, []⟩]) T L (rdy h) K := rfl
def L144_12 : List AStep := ⟨.load 1 false (.t 25), (some 26), none, []⟩ :: ⟨.mov (.t 1), (some 27), none, []⟩ :: L144_11
theorem v144_12 : wpS P L144_12 T L (rdy h) K = wpS P (⟨.load 1 false (.t 25), (some 26), none, []⟩ :: ⟨.mov (.t 1), (some 27), none, []⟩ :: L144_11) T L (rdy h) K := rfl
def L144_13 : List AStep := ⟨.iaddr 4 (.t 22) (.t 23), (some 24), none, []⟩ :: ⟨.faddr 1 (.t 24), (some 25), none, []⟩ :: L144_12
theorem v144_13 : wpS P L144_13 T L (rdy h) K = wpS P (⟨.iaddr 4 (.t 22) (.t 23), (some 24), none, []⟩ :: ⟨.faddr 1 (.t 24), (some 25), none, []⟩ :: L144_12) T L (rdy h) K := rfl
def L144_14 : List AStep := ⟨.mov (.t 0), (some 22), none, []⟩ :: ⟨.mov (.t 5), (some 23), none, []⟩ :: L144_13
theorem v144_14 : wpS P L144_14 T L (rdy h) K = wpS P (⟨.mov (.t 0), (some 22), none, []⟩ :: ⟨.mov (.t 5), (some 23), none, []⟩ :: L144_13) T L (rdy h) K := rfl
def L144_15 : List AStep := [⟨.mov (.c (.int .i64 (-1))), (some 4), none, []⟩]
theorem v144_15 : wpS P L144_15 T L (rdy h) K = wpS P ([⟨.mov (.c (.int .i64 (-1))), (some 4), none, []⟩]) T L (rdy h) K := rfl
def L144_16 : List AStep := [⟨.mov (.t 30), (some 1), none, []⟩]
theorem v144_16 : wpS P L144_16 T L (rdy h) K = wpS P ([⟨.mov (.t 30), (some 1), none, []⟩]) T L (rdy h) K := rfl
def L144_17 : List AStep := ⟨.mov (.t 1), (some 29), none, []⟩ :: ⟨.bin .add (.t 29) (.c (.int .i64 1)), (some 30), none, []⟩ :: L144_16
theorem v144_17 : wpS P L144_17 T L (rdy h) K = wpS P (⟨.mov (.t 1), (some 29), none, []⟩ :: ⟨.bin .add (.t 29) (.c (.int .i64 1)), (some 30), none, []⟩ :: L144_16) T L (rdy h) K := rfl
def L144_18 : List AStep := [⟨.eqb true (.t 35) (.t 38), (some 39), none, []⟩]
theorem v144_18 : wpS P L144_18 T L (rdy h) K = wpS P ([⟨.eqb true (.t 35) (.t 38), (some 39), none, []⟩]) T L (rdy h) K := rfl
def L144_19 : List AStep := ⟨.bin .rem (.t 36) (.c (.int .i64 3)), (some 37), none, []⟩ :: ⟨.bin .eql (.t 37) (.c (.int .i64 0)), (some 38), none, []⟩ :: L144_18
theorem v144_19 : wpS P L144_19 T L (rdy h) K = wpS P (⟨.bin .rem (.t 36) (.c (.int .i64 3)), (some 37), none, []⟩ :: ⟨.bin .eql (.t 37) (.c (.int .i64 0)), (some 38), none, []⟩ :: L144_18) T L (rdy h) K := rfl
def L144_20 : List AStep := ⟨.load 1 false (.t 34), (some 35), none, []⟩ :: ⟨.mov (.t 1), (some 36), none, []⟩ :: L144_19
theorem v144_20 : wpS P L144_20 T L (rdy h) K = wpS P (⟨.load 1 false (.t 34), (some 35), none, []⟩ :: ⟨.mov (.t 1), (some 36), none, []⟩ :: L144_19) T L (rdy h) K := rfl
def L144_21 : List AStep := ⟨.iaddr 4 (.t 31) (.t 32), (some 33), none, []⟩ :: ⟨.faddr 2 (.t 33), (some 34), none, []⟩ :: L144_20
theorem v144_21 : wpS P L144_21 T L (rdy h) K = wpS P (⟨.iaddr 4 (.t 31) (.t 32), (some 33), none, []⟩ :: ⟨.faddr 2 (.t 33), (some 34), none, []⟩ :: L144_20) T L (rdy h) K := rfl
def L144_22 : List AStep := ⟨.mov (.t 0), (some 31), none, []⟩ :: ⟨.mov (.t 5), (some 32), none, []⟩ :: L144_21
theorem v144_22 : wpS P L144_22 T L (rdy h) K = wpS P (⟨.mov (.t 0), (some 31), none, []⟩ :: ⟨.mov (.t 5), (some 32), none, []⟩ :: L144_21) T L (rdy h) K := rfl
def L144_23 : List AStep := [⟨.mov (.c (.int .i64 (-1))), (some 4), none, []⟩]
theorem v144_23 : wpS P L144_23 T L (rdy h) K = wpS P ([⟨.mov (.c (.int .i64 (-1))), (some 4), none, []⟩]) T L (rdy h) K := rfl
def L144_24 : List AStep := [⟨.mov (.t 41), (some 1), none, []⟩]
theorem v144_24 : wpS P L144_24 T L (rdy h) K = wpS P ([⟨.mov (.t 41), (some 1), none, []⟩]) T L (rdy h) K := rfl
def L144_25 : List AStep := ⟨.mov (.t 1), (some 40), none, []⟩ :: ⟨.bin .add (.t 40) (.c (.int .i64 1)), (some 41), none, []⟩ :: L144_24
theorem v144_25 : wpS P L144_25 T L (rdy h) K = wpS P (⟨.mov (.t 1), (some 40), none, []⟩ :: ⟨.bin .add (.t 40) (.c (.int .i64 1)), (some 41), none, []⟩ :: L144_24) T L (rdy h) K := rfl
def L144_26 : List AStep := [⟨.bin .neq (.t 46) (.t 47), (some 48), none, []⟩]
theorem v144_26 : wpS P L144_26 T L (rdy h) K = wpS P ([⟨.bin .neq (.t 46) (.t 47), (some 48), none, []⟩]) T L (rdy h) K := rfl
def L144_27 : List AStep := ⟨.load 1 false (.t 45), (some 46), none, []⟩ :: ⟨.mov (.t 1), (some 47), none, []⟩ :: L144_26
theorem v144_27 : wpS P L144_27 T L (rdy h) K = wpS P (⟨.load 1 false (.t 45), (some 46), none, []⟩ :: ⟨.mov (.t 1), (some 47), none, []⟩ :: L144_26) T L (rdy h) K := rfl
def L144_28 : List AStep := ⟨.iaddr 4 (.t 42) (.t 43), (some 44), none, []⟩ :: ⟨.faddr 3 (.t 44), (some 45), none, []⟩ :: L144_27
theorem v144_28 : wpS P L144_28 T L (rdy h) K = wpS P (⟨.iaddr 4 (.t 42) (.t 43), (some 44), none, []⟩ :: ⟨.faddr 3 (.t 44), (some 45), none, []⟩ :: L144_27) T L (rdy h) K := rfl
def L144_29 : List AStep := ⟨.mov (.t 0), (some 42), none, []⟩ :: ⟨.mov (.t 5), (some 43), none, []⟩ :: L144_28
theorem v144_29 : wpS P L144_29 T L (rdy h) K = wpS P (⟨.mov (.t 0), (some 42), none, []⟩ :: ⟨.mov (.t 5), (some 43), none, []⟩ :: L144_28) T L (rdy h) K := rfl
def L144_30 : List AStep := [⟨.mov (.c (.int .i64 (-1))), (some 4), none, []⟩]
theorem v144_30 : wpS P L144_30 T L (rdy h) K = wpS P ([⟨.mov (.c (.int .i64 (-1))), (some 4), none, []⟩]) T L (rdy h) K := rfl
def L144_31 : List AStep := [⟨.mov (.t 50), (some 1), none, []⟩]
theorem v144_31 : wpS P L144_31 T L (rdy h) K = wpS P ([⟨.mov (.t 50), (some 1), none, []⟩]) T L (rdy h) K := rfl
def L144_32 : List AStep := ⟨.mov (.t 1), (some 49), none, []⟩ :: ⟨.bin .add (.t 49) (.c (.int .i64 1)), (some 50), none, []⟩ :: L144_31
theorem v144_32 : wpS P L144_32 T L (rdy h) K = wpS P (⟨.mov (.t 1), (some 49), none, []⟩ :: ⟨.bin .add (.t 49) (.c (.int .i64 1)), (some 50), none, []⟩ :: L144_31) T L (rdy h) K := rfl
def L144_33 : List AStep := [⟨.mov (.t 11), (some 5), none, []⟩]
theorem v144_33 : wpS P L144_33 T L (rdy h) K = wpS P ([⟨.mov (.t 11), (some 5), none, []⟩]) T L (rdy h) K := rfl
def L144_34 : List AStep := ⟨.mov (.t 5), (some 10), none, []⟩ :: ⟨.bin .add (.t 10) (.c (.int .i64 1)), (some 11), none, []⟩ :: L144_33
theorem v144_34 : wpS P L144_34 T L (rdy h) K = wpS P (⟨.mov (.t 5), (some 10), none, []⟩ :: ⟨.bin .add (.t 10) (.c (.int .i64 1)), (some 11), none, []⟩ :: L144_33) T L (rdy h) K := rfl
def L144_35 : List AStep := [⟨.mov (.t 1), (some 51), none, []⟩, ⟨.mov (.t 51), (some 4), none, []⟩]
theorem v144_35 : wpS P L144_35 T L (rdy h) K = wpS P ([⟨.mov (.t 1), (some 51), none, []⟩, ⟨.mov (.t 51), (some 4), none, []⟩]) T L (rdy h) K := rfl
def C144_0 : ACode := .cond (.t 9) .skip (.exit 0)
theorem u144_0 : wpC P C144_0 T L (rdy h) Q = wpC P (.cond (.t 9) .skip (.exit 0)) T L (rdy h) Q := rfl
def C144_1 : ACode := .seq (.reg L144_3) C144_0
theorem u144_1 : wpC P C144_1 T L (rdy h) Q = wpC P (.seq (.reg L144_3) C144_0) T L (rdy h) Q := rfl
def C144_2 : ACode := .seq (.reg L144_8) .ret
theorem u144_2 : wpC P C144_2 T L (rdy h) Q = wpC P (.seq (.reg L144_8) .ret) T L (rdy h) Q := rfl
def C144_3 : ACode := .cond (.t 19) C144_2 .skip
theorem u144_3 : wpC P C144_3 T L (rdy h) Q = wpC P (.cond (.t 19) C144_2 .skip) T L (rdy h) Q := rfl
def C144_4 : ACode := .seq (.reg L144_7) C144_3
theorem u144_4 : wpC P C144_4 T L (rdy h) Q = wpC P (.seq (.reg L144_7) C144_3) T L (rdy h) Q := rfl
def C144_5 : ACode := .seq (.reg L144_15) .ret
theorem u144_5 : wpC P C144_5 T L (rdy h) Q = wpC P (.seq (.reg L144_15) .ret) T L (rdy h) Q := rfl
def C144_6 : ACode := .cond (.t 28) C144_5 .skip
theorem u144_6 : wpC P C144_6 T L (rdy h) Q = wpC P (.cond (.t 28) C144_5 .skip) T L (rdy h) Q := rfl
def C144_7 : ACode := .seq (.reg L144_14) C144_6
theorem u144_7 : wpC P C144_7 T L (rdy h) Q = wpC P (.seq (.reg L144_14) C144_6) T L (rdy h) Q := rfl
def C144_8 : ACode := .seq (.reg L144_23) .ret
theorem u144_8 : wpC P C144_8 T L (rdy h) Q = wpC P (.seq (.reg L144_23) .ret) T L (rdy h) Q := rfl
def C144_9 : ACode := .cond (.t 39) C144_8 .skip
theorem u144_9 : wpC P C144_9 T L (rdy h) Q = wpC P (.cond (.t 39) C144_8 .skip) T L (rdy h) Q := rfl
def C144_10 : ACode := .seq (.reg L144_22) C144_9
theorem u144_10 : wpC P C144_10 T L (rdy h) Q = wpC P (.seq (.reg L144_22) C144_9) T L (rdy h) Q := rfl
def C144_11 : ACode := .seq (.reg L144_30) .ret
theorem u144_11 : wpC P C144_11 T L (rdy h) Q = wpC P (.seq (.reg L144_30) .ret) T L (rdy h) Q := rfl
def C144_12 : ACode := .cond (.t 48) C144_11 .skip
theorem u144_12 : wpC P C144_12 T L (rdy h) Q = wpC P (.cond (.t 48) C144_11 .skip) T L (rdy h) Q := rfl
def C144_13 : ACode := .seq (.reg L144_29) C144_12
theorem u144_13 : wpC P C144_13 T L (rdy h) Q = wpC P (.seq (.reg L144_29) C144_12) T L (rdy h) Q := rfl
def C144_14 : ACode := .seq C144_13 (.reg L144_32)
theorem u144_14 : wpC P C144_14 T L (rdy h) Q = wpC P (.seq C144_13 (.reg L144_32)) T L (rdy h) Q := rfl
def C144_15 : ACode := .seq (.reg L144_25) C144_14
theorem u144_15 : wpC P C144_15 T L (rdy h) Q = wpC P (.seq (.reg L144_25) C144_14) T L (rdy h) Q := rfl
def C144_16 : ACode := .seq C144_10 C144_15
theorem u144_16 : wpC P C144_16 T L (rdy h) Q = wpC P (.seq C144_10 C144_15) T L (rdy h) Q := rfl
def C144_17 : ACode := .seq (.reg L144_17) C144_16
theorem u144_17 : wpC P C144_17 T L (rdy h) Q = wpC P (.seq (.reg L144_17) C144_16) T L (rdy h) Q := rfl
def C144_18 : ACode := .seq C144_7 C144_17
theorem u144_18 : wpC P C144_18 T L (rdy h) Q = wpC P (.seq C144_7 C144_17) T L (rdy h) Q := rfl
def C144_19 : ACode := .seq (.reg L144_10) C144_18
theorem u144_19 : wpC P C144_19 T L (rdy h) Q = wpC P (.seq (.reg L144_10) C144_18) T L (rdy h) Q := rfl
def C144_20 : ACode := .seq C144_4 C144_19
theorem u144_20 : wpC P C144_20 T L (rdy h) Q = wpC P (.seq C144_4 C144_19) T L (rdy h) Q := rfl
def C144_21 : ACode := .block 1 C144_20
theorem u144_21 : wpC P C144_21 T L (rdy h) Q = wpC P (.block 1 C144_20) T L (rdy h) Q := rfl
def C144_22 : ACode := .seq C144_21 (.reg L144_34)
theorem u144_22 : wpC P C144_22 T L (rdy h) Q = wpC P (.seq C144_21 (.reg L144_34)) T L (rdy h) Q := rfl
def C144_23 : ACode := .seq C144_1 C144_22
theorem u144_23 : wpC P C144_23 T L (rdy h) Q = wpC P (.seq C144_1 C144_22) T L (rdy h) Q := rfl
def C144_24 : ACode := .block 0 (.loop C144_23)
theorem u144_24 : wpC P C144_24 T L (rdy h) Q = wpC P (.block 0 (.loop C144_23)) T L (rdy h) Q := rfl
def C144_25 : ACode := .seq (.reg L144_1) C144_24
theorem u144_25 : wpC P C144_25 T L (rdy h) Q = wpC P (.seq (.reg L144_1) C144_24) T L (rdy h) Q := rfl
def C144_26 : ACode := .seq (.reg L144_35) .ret
theorem u144_26 : wpC P C144_26 T L (rdy h) Q = wpC P (.seq (.reg L144_35) .ret) T L (rdy h) Q := rfl
def C144_27 : ACode := .seq C144_25 C144_26
theorem u144_27 : wpC P C144_27 T L (rdy h) Q = wpC P (.seq C144_25 C144_26) T L (rdy h) Q := rfl
def C144_28 : ACode := .seq (.reg L144_0) C144_27
theorem u144_28 : wpC P C144_28 T L (rdy h) Q = wpC P (.seq (.reg L144_0) C144_27) T L (rdy h) Q := rfl
def F144 : AFunc := ⟨52, [.tmp 4], C144_28⟩
theorem cF144 : compB Try.prog 144 = some F144 := by kernel_rfl
end
attribute [local go_sem ↓] u144_0 u144_1 u144_2 u144_3 u144_4 u144_5 u144_6 u144_7 u144_8 u144_9 u144_10 u144_11 u144_12 u144_13 u144_14 u144_15 u144_16 u144_17 u144_18 u144_19 u144_20 u144_21 u144_22 u144_23 u144_24 u144_25 u144_26 u144_27 u144_28 v144_0 v144_1 v144_2 v144_3 v144_4 v144_5 v144_6 v144_7 v144_8 v144_9 v144_10 v144_11 v144_12 v144_13 v144_14 v144_15 v144_16 v144_17 v144_18 v144_19 v144_20 v144_21 v144_22 v144_23 v144_24 v144_25 v144_26 v144_27 v144_28 v144_29 v144_30 v144_31 v144_32 v144_33 v144_34 v144_35
theorem c_heldParamS (n : Nat) (v : AV) (k : Int) (h : H) (hl : SlQ h v (markL mkQ 4 k n)) (k1 : 0 ≤ k) (k2 : k ≤ 2 ^ 40) (hn : n ≤ 2 ^ 30) :
    bm Try.prog 144 [v, .one (.int .i64 k)] h = some (ii (k + ((4 * n : Nat) : Int)), h) := by
  refine bm_eq cF144 ?_
  have hlen := hl.len
  rw [markL_len] at hlen
  simp +contextual (maxSteps := 2000000) only [go_sem, Nat.reduceEqDiff, reduceCtorEq, Nat.reduceAdd, Nat.reduceLeDiff, F144]
  refine wpC_loop (fun i T L h' => h' = h ∧ T 0 = .v v ∧ T 1 = .v (.one (.int .i64 (k + ((4 * i : Nat) : Int)))) ∧ T 5 = .v (.one (.int .i64 i))) n ?_ ?_ (Nat.zero_le _) ?_
  · rintro i T L h' hi ⟨rfl, t0, t1, t5⟩
    have hio : i < (markL mkQ 4 k n).length := by rw [markL_len]; exact hi
    have hat := markL_at hio
    have hia := hl.iaddr hio (kd := .i64)
    have hf : ∀ off : Nat, off + 1 ≤ 4 → _ := fun off ho => hl.fieldO (off := off) hio ho
    rw [hat] at hf
    have h0 := hl.field0 (c := .str (mtxt (k + ((4 * i : Nat) : Int)))) hio (by rw [hat]; rfl)
    have wr1 : IntKind.i64.wrap ((k + ((4 * i : Nat) : Int)) + 1) = (k + ((4 * i : Nat) : Int) + 1) := (i64_wrap (by omega) (by omega)).trans (by omega)
    have wr2 : IntKind.i64.wrap ((k + ((4 * i : Nat) : Int) + 1) + 1) = (k + ((4 * i : Nat) : Int) + 2) := (i64_wrap (by omega) (by omega)).trans (by omega)
    have wr3 : IntKind.i64.wrap ((k + ((4 * i : Nat) : Int) + 2) + 1) = (k + ((4 * i : Nat) : Int) + 3) := (i64_wrap (by omega) (by omega)).trans (by omega)
    have wr4 : IntKind.i64.wrap ((k + ((4 * i : Nat) : Int) + 3) + 1) = (k + ((4 * i : Nat) : Int) + 4) := (i64_wrap (by omega) (by omega)).trans (by omega)
    simp +contextual (maxSteps := 2000000) only [go_sem, Nat.reduceEqDiff, reduceCtorEq, Nat.reduceAdd, Nat.reduceLeDiff, t0, t1, t5, hlen, hia, hf, h0, lt_true hi, decide_true, mkQ, mBool, wr1, wr2, wr3, wr4, c_markText (k + ((4 * i : Nat) : Int)) _ (by omega), bin_rem (k := .i64) (a := (k + ((4 * i : Nat) : Int) + 2)) (b := 3) (by decide)]
    rw [show k + ((4 * (i + 1) : Nat) : Int) = (k + ((4 * i : Nat) : Int) + 4) by omega, wrap_next hi (by omega)]
    try exact ⟨rfl, rfl⟩
  · rintro T L h' ⟨rfl, t0, t1, t5⟩
    simp +contextual (maxSteps := 2000000) only [go_sem, Nat.reduceEqDiff, reduceCtorEq, Nat.reduceAdd, Nat.reduceLeDiff, t0, t1, t5, hlen, lt_false]
  · simp +contextual (maxSteps := 2000000) only [go_sem, Nat.reduceEqDiff, reduceCtorEq, Nat.reduceAdd, Nat.reduceLeDiff]
    simp
section
variable {P : Program} {T : Tb} {L : Lb} {h : H} {Q : PostC} {K : Post}
/-! laws.markTurnS -/
def L66_0 : List AStep := [⟨.mov (.c (.int .i64 0)), (some 4), none, []⟩]
theorem v66_0 : wpS P L66_0 T L (rdy h) K = wpS P ([⟨.mov (.c (.int .i64 0)), (some 4), none, []⟩]) T L (rdy h) K := rfl
def L66_1 : List AStep := [⟨.mov (.c (.int .i64 0)), (some 5), none, []⟩]
theorem v66_1 : wpS P L66_1 T L (rdy h) K = wpS P ([⟨.mov (.c (.int .i64 0)), (some 5), none, []⟩]) T L (rdy h) K := rfl
def L66_2 : List AStep := [⟨.len (.t 7), (some 8), none, []⟩, ⟨.bin .lss (.t 6) (.t 8), (some 9), none, []⟩]
theorem v66_2 : wpS P L66_2 T L (rdy h) K = wpS P ([⟨.len (.t 7), (some 8), none, []⟩, ⟨.bin .lss (.t 6) (.t 8), (some 9), none, []⟩]) T L (rdy h) K := rfl
def L66_3 : List AStep := ⟨.mov (.t 5), (some 6), none, []⟩ :: ⟨.mov (.t 0), (some 7), none, []⟩ :: L66_2
theorem v66_3 : wpS P L66_3 T L (rdy h) K = wpS P (⟨.mov (.t 5), (some 6), none, []⟩ :: ⟨.mov (.t 0), (some 7), none, []⟩ :: L66_2) T L (rdy h) K := rfl
def L66_4 : List AStep := [⟨.store 1 (.t 17) (.t 15), none, none, []⟩]
theorem v66_4 : wpS P L66_4 T L (rdy h) K = wpS P ([⟨.store 1 (.t 17) (.t 15), none, none, []⟩]) T L (rdy h) K := rfl
def L66_5 : List AStep := ⟨.iaddr 2 (.t 12) (.t 13), (some 16), none, []⟩ :: ⟨.faddr 0 (.t 16), (some 17), none, []⟩ :: L66_4
theorem v66_5 : wpS P L66_5 T L (rdy h) K = wpS P (⟨.iaddr 2 (.t 12) (.t 13), (some 16), none, []⟩ :: ⟨.faddr 0 (.t 16), (some 17), none, []⟩ :: L66_4) T L (rdy h) K := rfl
def L66_6 : List AStep := ⟨.mov (.t 1), (some 14), none, []⟩ :: ⟨.call 143 [(.t 14)], (some 15), none, []⟩ :: L66_5
theorem v66_6 : wpS P L66_6 T L (rdy h) K = wpS P (⟨.mov (.t 1), (some 14), none, []⟩ :: ⟨.call 143 [(.t 14)], (some 15), none, []⟩ :: L66_5) T L (rdy h) K := rfl
def L66_7 : List AStep := ⟨.mov (.t 0), (some 12), none, []⟩ :: ⟨.mov (.t 5), (some 13), none, []⟩ :: L66_6
theorem v66_7 : wpS P L66_7 T L (rdy h) K = wpS P (⟨.mov (.t 0), (some 12), none, []⟩ :: ⟨.mov (.t 5), (some 13), none, []⟩ :: L66_6) T L (rdy h) K := rfl
def L66_8 : List AStep := [⟨.mov (.t 19), (some 1), none, []⟩]
theorem v66_8 : wpS P L66_8 T L (rdy h) K = wpS P ([⟨.mov (.t 19), (some 1), none, []⟩]) T L (rdy h) K := rfl
def L66_9 : List AStep := ⟨.mov (.t 1), (some 18), none, []⟩ :: ⟨.bin .add (.t 18) (.c (.int .i64 1)), (some 19), none, []⟩ :: L66_8
theorem v66_9 : wpS P L66_9 T L (rdy h) K = wpS P (⟨.mov (.t 1), (some 18), none, []⟩ :: ⟨.bin .add (.t 18) (.c (.int .i64 1)), (some 19), none, []⟩ :: L66_8) T L (rdy h) K := rfl
def L66_10 : List AStep := [⟨.store 1 (.t 25) (.t 23), none, none, []⟩]
theorem v66_10 : wpS P L66_10 T L (rdy h) K = wpS P ([⟨.store 1 (.t 25) (.t 23), none, none, []⟩]) T L (rdy h) K := rfl
def L66_11 : List AStep := ⟨.iaddr 2 (.t 20) (.t 21), (some 24), none, []⟩ :: ⟨.faddr 1 (.t 24), (some 25), none, []⟩ :: L66_10
theorem v66_11 : wpS P L66_11 T L (rdy h) K = wpS P (⟨.iaddr 2 (.t 20) (.t 21), (some 24), none, []⟩ :: ⟨.faddr 1 (.t 24), (some 25), none, []⟩ :: L66_10) T L (rdy h) K := rfl
def L66_12 : List AStep := ⟨.mov (.t 1), (some 22), none, []⟩ :: ⟨.call 143 [(.t 22)], (some 23), none, []⟩ :: L66_11
theorem v66_12 : wpS P L66_12 T L (rdy h) K = wpS P (⟨.mov (.t 1), (some 22), none, []⟩ :: ⟨.call 143 [(.t 22)], (some 23), none, []⟩ :: L66_11) T L (rdy h) K := rfl
def L66_13 : List AStep := ⟨.mov (.t 0), (some 20), none, []⟩ :: ⟨.mov (.t 5), (some 21), none, []⟩ :: L66_12
theorem v66_13 : wpS P L66_13 T L (rdy h) K = wpS P (⟨.mov (.t 0), (some 20), none, []⟩ :: ⟨.mov (.t 5), (some 21), none, []⟩ :: L66_12) T L (rdy h) K := rfl
def L66_14 : List AStep := [⟨.mov (.t 27), (some 1), none, []⟩]
theorem v66_14 : wpS P L66_14 T L (rdy h) K = wpS P ([⟨.mov (.t 27), (some 1), none, []⟩]) T L (rdy h) K := rfl
def L66_15 : List AStep := ⟨.mov (.t 1), (some 26), none, []⟩ :: ⟨.bin .add (.t 26) (.c (.int .i64 1)), (some 27), none, []⟩ :: L66_14
theorem v66_15 : wpS P L66_15 T L (rdy h) K = wpS P (⟨.mov (.t 1), (some 26), none, []⟩ :: ⟨.bin .add (.t 26) (.c (.int .i64 1)), (some 27), none, []⟩ :: L66_14) T L (rdy h) K := rfl
def L66_16 : List AStep := [⟨.mov (.t 11), (some 5), none, []⟩]
theorem v66_16 : wpS P L66_16 T L (rdy h) K = wpS P ([⟨.mov (.t 11), (some 5), none, []⟩]) T L (rdy h) K := rfl
def L66_17 : List AStep := ⟨.mov (.t 5), (some 10), none, []⟩ :: ⟨.bin .add (.t 10) (.c (.int .i64 1)), (some 11), none, []⟩ :: L66_16
theorem v66_17 : wpS P L66_17 T L (rdy h) K = wpS P (⟨.mov (.t 5), (some 10), none, []⟩ :: ⟨.bin .add (.t 10) (.c (.int .i64 1)), (some 11), none, []⟩ :: L66_16) T L (rdy h) K := rfl
def L66_18 : List AStep := [⟨.mov (.t 1), (some 28), none, []⟩, ⟨.mov (.t 28), (some 4), none, []⟩]
theorem v66_18 : wpS P L66_18 T L (rdy h) K = wpS P ([⟨.mov (.t 1), (some 28), none, []⟩, ⟨.mov (.t 28), (some 4), none, []⟩]) T L (rdy h) K := rfl
def C66_0 : ACode := .cond (.t 9) .skip (.exit 0)
theorem u66_0 : wpC P C66_0 T L (rdy h) Q = wpC P (.cond (.t 9) .skip (.exit 0)) T L (rdy h) Q := rfl
def C66_1 : ACode := .seq (.reg L66_3) C66_0
theorem u66_1 : wpC P C66_1 T L (rdy h) Q = wpC P (.seq (.reg L66_3) C66_0) T L (rdy h) Q := rfl
def C66_2 : ACode := .seq (.reg L66_13) (.reg L66_15)
theorem u66_2 : wpC P C66_2 T L (rdy h) Q = wpC P (.seq (.reg L66_13) (.reg L66_15)) T L (rdy h) Q := rfl
def C66_3 : ACode := .seq (.reg L66_9) C66_2
theorem u66_3 : wpC P C66_3 T L (rdy h) Q = wpC P (.seq (.reg L66_9) C66_2) T L (rdy h) Q := rfl
def C66_4 : ACode := .seq (.reg L66_7) C66_3
theorem u66_4 : wpC P C66_4 T L (rdy h) Q = wpC P (.seq (.reg L66_7) C66_3) T L (rdy h) Q := rfl
def C66_5 : ACode := .block 1 C66_4
theorem u66_5 : wpC P C66_5 T L (rdy h) Q = wpC P (.block 1 C66_4) T L (rdy h) Q := rfl
def C66_6 : ACode := .seq C66_5 (.reg L66_17)
theorem u66_6 : wpC P C66_6 T L (rdy h) Q = wpC P (.seq C66_5 (.reg L66_17)) T L (rdy h) Q := rfl
def C66_7 : ACode := .seq C66_1 C66_6
theorem u66_7 : wpC P C66_7 T L (rdy h) Q = wpC P (.seq C66_1 C66_6) T L (rdy h) Q := rfl
def C66_8 : ACode := .block 0 (.loop C66_7)
theorem u66_8 : wpC P C66_8 T L (rdy h) Q = wpC P (.block 0 (.loop C66_7)) T L (rdy h) Q := rfl
def C66_9 : ACode := .seq (.reg L66_1) C66_8
theorem u66_9 : wpC P C66_9 T L (rdy h) Q = wpC P (.seq (.reg L66_1) C66_8) T L (rdy h) Q := rfl
def C66_10 : ACode := .seq (.reg L66_18) .ret
theorem u66_10 : wpC P C66_10 T L (rdy h) Q = wpC P (.seq (.reg L66_18) .ret) T L (rdy h) Q := rfl
def C66_11 : ACode := .seq C66_9 C66_10
theorem u66_11 : wpC P C66_11 T L (rdy h) Q = wpC P (.seq C66_9 C66_10) T L (rdy h) Q := rfl
def C66_12 : ACode := .seq (.reg L66_0) C66_11
theorem u66_12 : wpC P C66_12 T L (rdy h) Q = wpC P (.seq (.reg L66_0) C66_11) T L (rdy h) Q := rfl
def F66 : AFunc := ⟨29, [.tmp 4], C66_12⟩
theorem cF66 : compB Try.prog 66 = some F66 := by kernel_rfl
end
attribute [local go_sem ↓] u66_0 u66_1 u66_2 u66_3 u66_4 u66_5 u66_6 u66_7 u66_8 u66_9 u66_10 u66_11 u66_12 v66_0 v66_1 v66_2 v66_3 v66_4 v66_5 v66_6 v66_7 v66_8 v66_9 v66_10 v66_11 v66_12 v66_13 v66_14 v66_15 v66_16 v66_17 v66_18
theorem c_markTurnS (l : List Turn) (v : AV) (k : Int) (h0 h : H) (hl : NwT h0 h v l) (g : Grow h0 h) (k1 : 0 ≤ k) (k2 : k ≤ 2 ^ 40) (hn : l.length ≤ 2 ^ 30) :
    callK (bm Try.prog 66 [v, .one (.int .i64 k)] h) fun r h' => r = ii (k + ((2 * l.length : Nat) : Int)) ∧ Grow h0 h' ∧ NwT h0 h' v (markL mkT 2 k l.length) ∧ Stay v h h' := by
  refine bm_of cF66 ?_
  simp +contextual (maxSteps := 2000000) only [go_sem, Nat.reduceEqDiff, reduceCtorEq, Nat.reduceAdd, Nat.reduceLeDiff, F66]
  refine wpC_loop (fun i T L h' => Grow h0 h' ∧ T 0 = .v v ∧ T 1 = .v (.one (.int .i64 (k + ((2 * i : Nat) : Int)))) ∧ T 5 = .v (.one (.int .i64 i)) ∧ NwT h0 h' v (markT mkT 2 k l i) ∧ Stay v h h') l.length ?_ ?_ (Nat.zero_le _) ?_
  · rintro i T L h' hi ⟨g, t0, t1, t5, no, st⟩
    have hlen : (markT mkT 2 k l i).length = l.length := markT_len (by omega)
    have hio : i < (markT mkT 2 k l i).length := by omega
    have hln := no.length
    rw [hlen] at hln
    have hia := no.iaddr hio (kd := .i64)
    have wr1 : IntKind.i64.wrap ((k + ((2 * i : Nat) : Int)) + 1) = (k + ((2 * i : Nat) : Int) + 1) := (i64_wrap (by omega) (by omega)).trans (by omega)
    have wr2 : IntKind.i64.wrap ((k + ((2 * i : Nat) : Int) + 1) + 1) = (k + ((2 * i : Nat) : Int) + 2) := (i64_wrap (by omega) (by omega)).trans (by omega)
    simp +contextual (maxSteps := 2000000) only [go_sem, Nat.reduceEqDiff, reduceCtorEq, Nat.reduceAdd, Nat.reduceLeDiff, t0, t1, t5, hln, hia, lt_true hi, wr1, wr2, c_markText (k + ((2 * i : Nat) : Int)) _ (by omega), c_markText (k + ((2 * i : Nat) : Int) + 1) _ (by omega)]
    refine wp_set (x := (⟨mtxt (k + ((2 * i : Nat) : Int)), (markT mkT 2 k l i)[i].to⟩ : Turn)) (off := 0) (vs := [.str (mtxt (k + ((2 * i : Nat) : Int)))]) lenT no (by first | exact hio | (simp only [List.length_set]; exact hio)) rfl (by simp [encT, List.getElem_set_self]) (Nat.le_of_ble_eq_true rfl) g ?_
    intro h2 g2 n2 s2
    try rw [List.set_set] at n2
    simp +contextual (maxSteps := 2000000) only [go_sem, Nat.reduceEqDiff, reduceCtorEq, Nat.reduceAdd, Nat.reduceLeDiff, t0, t1, t5, hln, hia, wr1, wr2, c_markText (k + ((2 * i : Nat) : Int)) _ (by omega), c_markText (k + ((2 * i : Nat) : Int) + 1) _ (by omega)]
    refine wp_set (x := (⟨mtxt (k + ((2 * i : Nat) : Int)), mtxt (k + ((2 * i : Nat) : Int) + 1)⟩ : Turn)) (off := 1) (vs := [.str (mtxt (k + ((2 * i : Nat) : Int) + 1))]) lenT n2 (by first | exact hio | (simp only [List.length_set]; exact hio)) rfl (by simp [encT, List.getElem_set_self]) (Nat.le_of_ble_eq_true rfl) g2 ?_
    intro h3 g3 n3 s3
    try rw [List.set_set] at n3
    simp +contextual (maxSteps := 2000000) only [go_sem, Nat.reduceEqDiff, reduceCtorEq, Nat.reduceAdd, Nat.reduceLeDiff, t0, t1, t5, hln, hia, wr1, wr2, c_markText (k + ((2 * i : Nat) : Int)) _ (by omega), c_markText (k + ((2 * i : Nat) : Int) + 1) _ (by omega)]
    have e : (markT mkT 2 k l i).set i (mkT (k + ((2 * i : Nat) : Int))) = markT mkT 2 k l (i + 1) := markT_set hi
    have n4 : NwT h0 h3 v (markT mkT 2 k l (i + 1)) := by rw [← e]; exact n3
    refine ⟨g3, by rw [show k + ((2 * (i + 1) : Nat) : Int) = (k + ((2 * i : Nat) : Int) + 2) by omega], by rw [wrap_next hi (by omega)], n4, ((st.trans s2).trans s3)⟩
  · rintro T L h' ⟨g, t0, t1, t5, no, st⟩
    have hln := no.length
    rw [markT_len (Nat.le_refl _)] at hln
    simp +contextual (maxSteps := 2000000) only [go_sem, Nat.reduceEqDiff, reduceCtorEq, Nat.reduceAdd, Nat.reduceLeDiff, t0, t1, t5, hln, lt_false]
    rw [markT_all] at no
    exact gcK_of ⟨rfl, g, no, st⟩ (fun _ gg => ⟨rfl, ‹Grow h0 h›, no.back hl gg, (Grow.refl h).stay v⟩)
  · simp +contextual (maxSteps := 2000000) only [go_sem, Nat.reduceEqDiff, reduceCtorEq, Nat.reduceAdd, Nat.reduceLeDiff]
    exact ⟨g, by simp, rfl, by rw [markT_zero]; exact hl, (Grow.refl h).stay v⟩
end Go.Proofs.Ytnphlonhogcedaa.Am
