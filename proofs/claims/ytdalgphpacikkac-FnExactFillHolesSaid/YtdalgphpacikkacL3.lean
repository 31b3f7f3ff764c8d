/- Contracts of the laws: copies, marks, and what is held of them. -/
import Derived.Test.YtdalgphpacikkacDat
namespace Go.Proofs.Ytdalgphpacikkac.Am
open Go
set_option maxRecDepth 100000
set_option maxHeartbeats 4000000
set_option linter.unusedSimpArgs false
set_option linter.unusedVariables false
attribute [local go_sem ↓] bv_t bv_c ev_t ev_c put_same put_ne put_none kill_at pro_at lb_same lb_ne start_zero start_succ wpC_seq wpC_reg wpC_cond wpC_block wpC_skip wpC_exit wpC_ret thenQ_normal thenQ_exit thenQ_ret inBlk_normal inBlk_exit inBlk_ret wpS_nil wpS_step wpS_again wpS_guard wpO_mov wpO_load wpO_faddr wpO_nilCheck wpO_pick wpO_build wpO_bin wpO_eqb wpO_eqst wpO_eqnil wpO_not wpO_conv wpO_bytesStr wpO_iaddr wpO_idxStr wpO_field wpO_extract wpO_len wpO_lenStr wpO_cap wpO_min wpO_slice wpO_sliceStr wpO_alloc wpO_box wpO_store wpO_call wpO_callv wpO_mkfn wpO_buildSlice wpO_mkslice wpO_append wpO_appz proA_nil proA_cons tmpX_nil tmpX_tmp tmpX_cell doneB_normal doneB_ret agK_cons agK_nil agK_guard agG_tt agG_ff agG_tf agG_ft agG_undef pureB_load results_one results_two results_nil resBs_cons resBs_nil resB_tmp resB_cell
attribute [local go_sem] kill_v kill_lp_ne kill_lp_same pro_v pro_lp_same pro_lp_ne av_v av_lp optB_some optX_some valX_eq ldX_lp ldX_v faX_lp faX_v ncX_lp ncX_ptr ncX_fn boxK_one boxK_agg stL_some stK_lp_one stK_lp_agg stK_v_one stK_v_agg proM_v proM_lp callG_mk callVG_mk callvK_fn fnG_mk ptrsA_nil ptrsA_cons callH_some whenA_true whenA_false guardH_tt guardH_ff guardH_tf guardH_ft guardH_undef agV_one agV_agg lenO_sl lenStrO_str notO_bool pickO_bool convO_int eqbO_bool eqnilO_sl extractO_tup capO_sl minO_int loadL_one loadL_all storeL_eq fillA_nil fillA_one fillA_agg nat_ge neg_ge nat_lt neg_lt buildO bin_add bin_sub bin_mul bin_eql bin_neq bin_lss bin_leq bin_gtr bin_geq str_eql str_neq str_lss str_leq str_gtr str_geq retK_some endK_mk gcK_same gcK_int gcK_bool tupO_one tupO_agg rdy_self ib ii Option.map_none Option.map_some Option.some.injEq exists_eq_left' exists_eq_left ne_eq not_false_eq_true if_true if_false List.map_cons List.map_nil List.getElem?_cons_zero List.getElem?_cons_succ List.length_cons List.length_nil List.take_succ_cons List.take_zero List.take_nil List.drop_succ_cons List.drop_zero List.drop_nil List.cons_append List.nil_append List.append_nil List.set_cons_zero List.set_cons_succ Nat.zero_add forall_const true_and and_true and_self Bool.false_eq_true false_implies true_implies implies_true Bool.not_true Bool.not_false Bool.not_eq_true' Bool.not_eq_false' beq_self_eq_true Bool.bne_true Bool.bne_false
attribute [local go_sem] lenI lenS lenP lenQ lenB lenL lenT encI_0 encS_0 encP_0 encP_1 encQ_0 encQ_1 encQ_2 encQ_3 encB_0 encB_1 encL_0 encL_1 encT_0 encT_1
attribute [local go_sem low] whenA_bool guardH_bool
def encU (n : Int) : List CV := [.int .u8 n]
/-! laws.markText -/
def L105_0 : List AStep := [⟨.mov (.c (.str (strOfNums []))), (some 2), none, []⟩]
theorem v105_0 : VS L105_0.eq_1 := rfl
def L105_1 : List AStep := [⟨.mov (.t 0), (some 4), none, []⟩, ⟨.bin .leq (.t 4) (.c (.int .i64 0)), (some 5), none, []⟩]
theorem v105_1 : VS L105_1.eq_1 := rfl
def L105_2 : List AStep := [⟨.mov (.c (.str (strOfNums [109, 48]))), (some 2), none, []⟩]
theorem v105_2 : VS L105_2.eq_1 := rfl
def L105_3 : List AStep := [⟨.mov (.c (.str (strOfNums []))), (some 3), none, []⟩]
theorem v105_3 : VS L105_3.eq_1 := rfl
def L105_4 : List AStep := [⟨.mov (.t 0), (some 6), none, []⟩, ⟨.bin .gtr (.t 6) (.c (.int .i64 0)), (some 7), none, []⟩]
theorem v105_4 : VS L105_4.eq_1 := rfl
def L105_5 : List AStep := [⟨.mov (.t 15), (some 3), none, []⟩]
theorem v105_5 : VS L105_5.eq_1 := rfl
def L105_6 : List AStep := ⟨.mov (.t 3), (some 14), none, []⟩ :: ⟨.bin .add (.t 13) (.t 14), (some 15), none, []⟩ :: L105_5
theorem v105_6 : VS L105_6.eq_1 := rfl
def L105_7 : List AStep := ⟨.buildSlice 5 1 [(.int .u8 0)] [(0, 1, (.t 11))], (some 12), none, []⟩ :: ⟨.bytesStr (.t 12), (some 13), none, []⟩ :: L105_6
theorem v105_7 : VS L105_7.eq_1 := rfl
def L105_8 : List AStep := ⟨.bin .add (.c (.int .i64 48)) (.t 9), (some 10), none, []⟩ :: ⟨.conv .u8 (.t 10), (some 11), none, []⟩ :: L105_7
theorem v105_8 : VS L105_8.eq_1 := rfl
def L105_9 : List AStep := ⟨.mov (.t 0), (some 8), none, []⟩ :: ⟨.bin .rem (.t 8) (.c (.int .i64 10)), (some 9), none, []⟩ :: L105_8
theorem v105_9 : VS L105_9.eq_1 := rfl
def L105_10 : List AStep := [⟨.mov (.t 17), (some 0), none, []⟩]
theorem v105_10 : VS L105_10.eq_1 := rfl
def L105_11 : List AStep := ⟨.mov (.t 0), (some 16), none, []⟩ :: ⟨.bin .quo (.t 16) (.c (.int .i64 10)), (some 17), none, []⟩ :: L105_10
theorem v105_11 : VS L105_11.eq_1 := rfl
def L105_12 : List AStep := [⟨.mov (.t 19), (some 2), none, []⟩]
theorem v105_12 : VS L105_12.eq_1 := rfl
def L105_13 : List AStep := ⟨.mov (.t 3), (some 18), none, []⟩ :: ⟨.bin .add (.c (.str (strOfNums [109]))) (.t 18), (some 19), none, []⟩ :: L105_12
theorem v105_13 : VS L105_13.eq_1 := rfl
def C105_0 : ACode := .seq (.reg L105_2) .ret
theorem u105_0 : VC C105_0.eq_1 := rfl
def C105_1 : ACode := .cond (.t 5) C105_0 .skip
theorem u105_1 : VC C105_1.eq_1 := rfl
def C105_2 : ACode := .seq (.reg L105_1) C105_1
theorem u105_2 : VC C105_2.eq_1 := rfl
def C105_3 : ACode := .cond (.t 7) .skip (.exit 0)
theorem u105_3 : VC C105_3.eq_1 := rfl
def C105_4 : ACode := .seq (.reg L105_4) C105_3
theorem u105_4 : VC C105_4.eq_1 := rfl
def C105_5 : ACode := .seq (.reg L105_9) (.reg L105_11)
theorem u105_5 : VC C105_5.eq_1 := rfl
def C105_6 : ACode := .block 1 C105_5
theorem u105_6 : VC C105_6.eq_1 := rfl
def C105_7 : ACode := .seq C105_4 C105_6
theorem u105_7 : VC C105_7.eq_1 := rfl
def C105_8 : ACode := .block 0 (.loop C105_7)
theorem u105_8 : VC C105_8.eq_1 := rfl
def C105_9 : ACode := .seq (.reg L105_13) .ret
theorem u105_9 : VC C105_9.eq_1 := rfl
def C105_10 : ACode := .seq C105_8 C105_9
theorem u105_10 : VC C105_10.eq_1 := rfl
def C105_11 : ACode := .seq (.reg L105_3) C105_10
theorem u105_11 : VC C105_11.eq_1 := rfl
def C105_12 : ACode := .seq C105_2 C105_11
theorem u105_12 : VC C105_12.eq_1 := rfl
def C105_13 : ACode := .seq (.reg L105_0) C105_12
theorem u105_13 : VC C105_13.eq_1 := rfl
def F105 : AFunc := ⟨20, [.tmp 2], C105_13⟩
theorem cF105 : compB Try.prog 105 = some F105 := by kernel_rfl
attribute [local go_sem ↓] u105_0 u105_1 u105_2 u105_3 u105_4 u105_5 u105_6 u105_7 u105_8 u105_9 u105_10 u105_11 u105_12 u105_13 v105_0 v105_1 v105_2 v105_3 v105_4 v105_5 v105_6 v105_7 v105_8 v105_9 v105_10 v105_11 v105_12 v105_13
theorem c_markText (k : Int) (h : H) (h1 : k < 2 ^ 60) : bm Try.prog 105 [.one (.int .i64 k)] h = some (.one (.str (mtxt k)), h) := by
  by_cases hk : k ≤ 0
  · refine bm_eq cF105 ?_
    simp +contextual (maxSteps := 2000000) only [go_sem, Nat.reduceEqDiff, reduceCtorEq, Nat.reduceAdd, Nat.reduceLeDiff, F105, decide_eq_true hk]
    unfold mtxt
    rw [if_pos hk]
  obtain ⟨n, rfl⟩ : ∃ n : Nat, k = n := ⟨k.toNat, by omega⟩
  have key : callK (bm Try.prog 105 [.one (.int .i64 n)] h) fun v h' => v = .one (.str (mtxt n)) ∧ h' = h := by
    refine bm_of cF105 ?_
    simp +contextual (maxSteps := 2000000) only [go_sem, Nat.reduceEqDiff, reduceCtorEq, Nat.reduceAdd, Nat.reduceLeDiff, F105, decide_eq_false hk]
    refine wpC_while (fun m T L h' => Grow h h' ∧ T 0 = .v (.one (.int .i64 m)) ∧ ∃ s, T 3 = .v (.one (.str s)) ∧ mDig m s = mDig n (strOfNums []) ∧ s.size + m ≤ n) ?_ ?_ (m := n)
    · rintro m T L h' ⟨g, t0, s, t3, e1, e2⟩
      by_cases hm : m = 0
      · subst hm
        have e3 : mDig 0 s = s := by unfold mDig; simp
        rw [e3] at e1
        simp +contextual (maxSteps := 2000000) only [go_sem, Nat.reduceEqDiff, reduceCtorEq, Nat.reduceAdd, Nat.reduceLeDiff, t0, t3, show decide (((0 : Nat) : Int) > 0) = false from rfl]
        have e4 : (strOfNums [109]).size = 1 := strOfNums_size _
        simp +contextual (maxSteps := 2000000) only [go_sem, Nat.reduceEqDiff, reduceCtorEq, Nat.reduceAdd, Nat.reduceLeDiff, str_add (s := strOfNums [109]) (t := s) (by rw [e4]; omega)]
        refine gcR_of g rfl ⟨?_, rfl⟩
        unfold mtxt
        rw [if_neg hk, e1]
        rfl
      · have e5 : mDig m s = mDig (m / 10) (strOfNums [digit m] ++ s) := by rw [mDig, dif_neg hm]
        simp +contextual (maxSteps := 2000000) only [go_sem, Nat.reduceEqDiff, reduceCtorEq, Nat.reduceAdd, Nat.reduceLeDiff, t0, t3, decide_eq_true (show ((m : Nat) : Int) > 0 by omega), bin_rem (k := .i64) (a := (m : Int)) (b := 10) (by decide), bin_quo (k := .i64) (a := (m : Int)) (b := 10) (by decide)]
        refine wp_lit (enc := encU) (k := 1) [digit m] rfl rfl ?_
        intro h2 v g2 n2 _
        have hb := bytes_at (n2.sl (fun _ => rfl)) (by simp)
        have e4 : (strOfNums [digit m]).size = 1 := strOfNums_size _
        simp +contextual (maxSteps := 2000000) only [go_sem, Nat.reduceEqDiff, reduceCtorEq, Nat.reduceAdd, Nat.reduceLeDiff, hb, t0, t3, str_add (s := strOfNums [digit m]) (t := s) (by rw [e4]; omega), bin_quo (k := .i64) (a := (m : Int)) (b := 10) (by decide)]
        refine ⟨m / 10, by omega, g.trans g2, ?_, _, rfl, ?_, ?_⟩
        · rw [show (m : Int).tdiv 10 = ((m / 10 : Nat) : Int) by rw [Int.tdiv_eq_ediv_of_nonneg (by omega)]; omega, wrap_nat (by omega)]
        · rw [← e5, e1]
        · rw [ByteArray.size_append, e4]
          omega
    · simp +contextual (maxSteps := 2000000) only [go_sem, Nat.reduceEqDiff, reduceCtorEq, Nat.reduceAdd, Nat.reduceLeDiff]
      exact ⟨Grow.refl h, _, rfl, rfl, by rw [strOfNums_size]; simp⟩
  obtain ⟨v, h', e1, rfl, rfl⟩ := key
  exact e1
/-! laws.toPair -/
def L94_0 : List AStep := [⟨.box 124 (.t 0), (some 1), none, []⟩, ⟨.alloc 106 [(.str (strOfNums [])), (.int .i64 0)], (some 2), none, []⟩]
theorem v94_0 : VS L94_0.eq_1 := rfl
def L94_1 : List AStep := [⟨.alloc 106 [(.str (strOfNums [])), (.int .i64 0)], (some 3), none, []⟩]
theorem v94_1 : VS L94_1.eq_1 := rfl
def L94_2 : List AStep := [⟨.faddr 0 (.t 3), (some 6), none, []⟩, ⟨.store 1 (.t 6) (.t 5), none, none, []⟩]
theorem v94_2 : VS L94_2.eq_1 := rfl
def L94_3 : List AStep := ⟨.faddr 0 (.t 1), (some 4), none, []⟩ :: ⟨.load 1 false (.t 4), (some 5), none, []⟩ :: L94_2
theorem v94_3 : VS L94_3.eq_1 := rfl
def L94_4 : List AStep := [⟨.faddr 1 (.t 3), (some 9), none, []⟩, ⟨.store 1 (.t 9) (.t 8), none, none, []⟩]
theorem v94_4 : VS L94_4.eq_1 := rfl
def L94_5 : List AStep := ⟨.faddr 1 (.t 1), (some 7), none, []⟩ :: ⟨.load 1 false (.t 7), (some 8), none, []⟩ :: L94_4
theorem v94_5 : VS L94_5.eq_1 := rfl
def L94_6 : List AStep := [⟨.load 2 true (.t 3), (some 10), none, []⟩, ⟨.store 2 (.t 2) (.t 10), none, none, []⟩]
theorem v94_6 : VS L94_6.eq_1 := rfl
def C94_0 : ACode := .seq (.reg L94_6) .ret
theorem u94_0 : VC C94_0.eq_1 := rfl
def C94_1 : ACode := .seq (.reg L94_5) C94_0
theorem u94_1 : VC C94_1.eq_1 := rfl
def C94_2 : ACode := .seq (.reg L94_3) C94_1
theorem u94_2 : VC C94_2.eq_1 := rfl
def C94_3 : ACode := .seq (.reg L94_1) C94_2
theorem u94_3 : VC C94_3.eq_1 := rfl
def C94_4 : ACode := .seq (.reg L94_0) C94_3
theorem u94_4 : VC C94_4.eq_1 := rfl
def F94 : AFunc := ⟨11, [.cell 2 2 true], C94_4⟩
theorem cF94 : compB Try.prog 94 = some F94 := by kernel_rfl
attribute [local go_sem ↓] u94_0 u94_1 u94_2 u94_3 u94_4 v94_0 v94_1 v94_2 v94_3 v94_4 v94_5 v94_6
theorem c_toPair (p : Pair) (h : H) : bm Try.prog 94 [.agg (encP p)] h = some (.agg (encP p), h) := by
  refine bm_eq cF94 ?_
  simp +contextual (maxSteps := 2000000) only [go_sem, Nat.reduceEqDiff, reduceCtorEq, Nat.reduceAdd, Nat.reduceLeDiff, F94, encP]
/-! laws.toPlace -/
def L93_0 : List AStep := [⟨.box 132 (.t 0), (some 1), none, []⟩, ⟨.alloc 86 [(.bool false), (.int .i64 0)], (some 2), none, []⟩]
theorem v93_0 : VS L93_0.eq_1 := rfl
def L93_1 : List AStep := [⟨.alloc 86 [(.bool false), (.int .i64 0)], (some 3), none, []⟩]
theorem v93_1 : VS L93_1.eq_1 := rfl
def L93_2 : List AStep := [⟨.faddr 0 (.t 3), (some 6), none, []⟩, ⟨.store 1 (.t 6) (.t 5), none, none, []⟩]
theorem v93_2 : VS L93_2.eq_1 := rfl
def L93_3 : List AStep := ⟨.faddr 0 (.t 1), (some 4), none, []⟩ :: ⟨.load 1 false (.t 4), (some 5), none, []⟩ :: L93_2
theorem v93_3 : VS L93_3.eq_1 := rfl
def L93_4 : List AStep := [⟨.faddr 1 (.t 3), (some 9), none, []⟩, ⟨.store 1 (.t 9) (.t 8), none, none, []⟩]
theorem v93_4 : VS L93_4.eq_1 := rfl
def L93_5 : List AStep := ⟨.faddr 1 (.t 1), (some 7), none, []⟩ :: ⟨.load 1 false (.t 7), (some 8), none, []⟩ :: L93_4
theorem v93_5 : VS L93_5.eq_1 := rfl
def L93_6 : List AStep := [⟨.load 2 true (.t 3), (some 10), none, []⟩, ⟨.store 2 (.t 2) (.t 10), none, none, []⟩]
theorem v93_6 : VS L93_6.eq_1 := rfl
def C93_0 : ACode := .seq (.reg L93_6) .ret
theorem u93_0 : VC C93_0.eq_1 := rfl
def C93_1 : ACode := .seq (.reg L93_5) C93_0
theorem u93_1 : VC C93_1.eq_1 := rfl
def C93_2 : ACode := .seq (.reg L93_3) C93_1
theorem u93_2 : VC C93_2.eq_1 := rfl
def C93_3 : ACode := .seq (.reg L93_1) C93_2
theorem u93_3 : VC C93_3.eq_1 := rfl
def C93_4 : ACode := .seq (.reg L93_0) C93_3
theorem u93_4 : VC C93_4.eq_1 := rfl
def F93 : AFunc := ⟨11, [.cell 2 2 true], C93_4⟩
theorem cF93 : compB Try.prog 93 = some F93 := by kernel_rfl
attribute [local go_sem ↓] u93_0 u93_1 u93_2 u93_3 u93_4 v93_0 v93_1 v93_2 v93_3 v93_4 v93_5 v93_6
theorem c_toPlace (p : Place) (h : H) : bm Try.prog 93 [.agg (encL p)] h = some (.agg (encL p), h) := by
  refine bm_eq cF93 ?_
  simp +contextual (maxSteps := 2000000) only [go_sem, Nat.reduceEqDiff, reduceCtorEq, Nat.reduceAdd, Nat.reduceLeDiff, F93, encL]
/-! laws.toIntS -/
def L47_0 : List AStep := [⟨.mov (.c (.sl none 0 (some 0))), (some 2), none, []⟩]
theorem v47_0 : VS L47_0.eq_1 := rfl
def L47_1 : List AStep := [⟨.mkslice 3 8 [(.int .i64 0)] (.t 6) (.t 6), (some 7), none, []⟩, ⟨.mov (.t 7), (some 3), none, []⟩]
theorem v47_1 : VS L47_1.eq_1 := rfl
def L47_2 : List AStep := ⟨.mov (.t 0), (some 5), none, []⟩ :: ⟨.len (.t 5), (some 6), none, []⟩ :: L47_1
theorem v47_2 : VS L47_2.eq_1 := rfl
def L47_3 : List AStep := [⟨.mov (.c (.int .i64 0)), (some 4), none, []⟩]
theorem v47_3 : VS L47_3.eq_1 := rfl
def L47_4 : List AStep := [⟨.len (.t 9), (some 10), none, []⟩, ⟨.bin .lss (.t 8) (.t 10), (some 11), none, []⟩]
theorem v47_4 : VS L47_4.eq_1 := rfl
def L47_5 : List AStep := ⟨.mov (.t 4), (some 8), none, []⟩ :: ⟨.mov (.t 0), (some 9), none, []⟩ :: L47_4
theorem v47_5 : VS L47_5.eq_1 := rfl
def L47_6 : List AStep := [⟨.iaddr 1 (.t 14) (.t 15), (some 20), none, []⟩, ⟨.store 1 (.t 20) (.t 19), none, none, []⟩]
theorem v47_6 : VS L47_6.eq_1 := rfl
def L47_7 : List AStep := ⟨.iaddr 1 (.t 16) (.t 17), (some 18), none, []⟩ :: ⟨.load 1 false (.t 18), (some 19), none, []⟩ :: L47_6
theorem v47_7 : VS L47_7.eq_1 := rfl
def L47_8 : List AStep := ⟨.mov (.t 0), (some 16), none, []⟩ :: ⟨.mov (.t 4), (some 17), none, []⟩ :: L47_7
theorem v47_8 : VS L47_8.eq_1 := rfl
def L47_9 : List AStep := ⟨.mov (.t 3), (some 14), none, []⟩ :: ⟨.mov (.t 4), (some 15), none, []⟩ :: L47_8
theorem v47_9 : VS L47_9.eq_1 := rfl
def L47_10 : List AStep := [⟨.mov (.t 13), (some 4), none, []⟩]
theorem v47_10 : VS L47_10.eq_1 := rfl
def L47_11 : List AStep := ⟨.mov (.t 4), (some 12), none, []⟩ :: ⟨.bin .add (.t 12) (.c (.int .i64 1)), (some 13), none, []⟩ :: L47_10
theorem v47_11 : VS L47_11.eq_1 := rfl
def L47_12 : List AStep := [⟨.mov (.t 3), (some 21), none, []⟩, ⟨.mov (.t 21), (some 2), none, []⟩]
theorem v47_12 : VS L47_12.eq_1 := rfl
def C47_0 : ACode := .cond (.t 11) .skip (.exit 0)
theorem u47_0 : VC C47_0.eq_1 := rfl
def C47_1 : ACode := .seq (.reg L47_5) C47_0
theorem u47_1 : VC C47_1.eq_1 := rfl
def C47_2 : ACode := .block 1 (.reg L47_9)
theorem u47_2 : VC C47_2.eq_1 := rfl
def C47_3 : ACode := .seq C47_2 (.reg L47_11)
theorem u47_3 : VC C47_3.eq_1 := rfl
def C47_4 : ACode := .seq C47_1 C47_3
theorem u47_4 : VC C47_4.eq_1 := rfl
def C47_5 : ACode := .block 0 (.loop C47_4)
theorem u47_5 : VC C47_5.eq_1 := rfl
def C47_6 : ACode := .seq (.reg L47_3) C47_5
theorem u47_6 : VC C47_6.eq_1 := rfl
def C47_7 : ACode := .seq (.reg L47_12) .ret
theorem u47_7 : VC C47_7.eq_1 := rfl
def C47_8 : ACode := .seq C47_6 C47_7
theorem u47_8 : VC C47_8.eq_1 := rfl
def C47_9 : ACode := .seq (.reg L47_2) C47_8
theorem u47_9 : VC C47_9.eq_1 := rfl
def C47_10 : ACode := .seq (.reg L47_0) C47_9
theorem u47_10 : VC C47_10.eq_1 := rfl
def F47 : AFunc := ⟨22, [.tmp 2], C47_10⟩
theorem cF47 : compB Try.prog 47 = some F47 := by kernel_rfl
attribute [local go_sem ↓] u47_0 u47_1 u47_2 u47_3 u47_4 u47_5 u47_6 u47_7 u47_8 u47_9 u47_10 v47_0 v47_1 v47_2 v47_3 v47_4 v47_5 v47_6 v47_7 v47_8 v47_9 v47_10 v47_11 v47_12
theorem c_toIntS {t1 : Nat} (l : List Int) (v : AV) (h : H) (hl : Sl encI 1 t1 h v l) (hn : l.length ≤ 1048576) : callK (bm Try.prog 47 [v] h) fun r h' => Grow h h' ∧ NwI h h' r l := by
  refine bm_of cF47 ?_
  simp +contextual (maxSteps := 2000000) only [go_sem, Nat.reduceEqDiff, reduceCtorEq, Nat.reduceAdd, Nat.reduceLeDiff, F47, hl.len]
  refine wp_make (enc := encI) (k := 1) (0 : Int) rfl (by omega) (by omega) ?_
  intro h1 o g1 n1 _
  simp +contextual (maxSteps := 2000000) only [go_sem, Nat.reduceEqDiff, reduceCtorEq, Nat.reduceAdd, Nat.reduceLeDiff]
  refine wpC_loop (fun i T L h' => Grow h h' ∧ T 0 = .v v ∧ T 3 = .v o ∧ T 4 = .v (.one (.int .i64 i)) ∧ NwI h h' o (fillL l (0 : Int) i)) l.length ?_ ?_ (Nat.zero_le _) ?_
  · rintro i T L h' hi ⟨g, t0, t3, t4, no⟩
    have hl := (‹Sl encI 1 t1 h v l›).grow g
    have hio : i < (fillL l (0 : Int) i).length := by rw [fillL_len (by omega)]; exact hi
    simp +contextual (maxSteps := 2000000) only [go_sem, Nat.reduceEqDiff, reduceCtorEq, Nat.reduceAdd, Nat.reduceLeDiff, t0, t3, t4, hl.len, hl.iaddr hi, hl.oneO hi, no.iaddr hio, lt_true hi]
    refine wp_setE (x := l[i]) lenI no hio rfl rfl g ?_
    intro h2 g2 n2 _
    simp +contextual (maxSteps := 2000000) only [go_sem, Nat.reduceEqDiff, reduceCtorEq, Nat.reduceAdd, Nat.reduceLeDiff, t0, t3, t4]
    rw [fillL_set hi] at n2
    exact ⟨g2, by rw [wrap_next hi (by omega)], n2⟩
  · rintro T L h' ⟨g, t0, t3, t4, no⟩
    have hl := (‹Sl encI 1 t1 h v l›).grow g
    simp +contextual (maxSteps := 2000000) only [go_sem, Nat.reduceEqDiff, reduceCtorEq, Nat.reduceAdd, Nat.reduceLeDiff, t0, t3, t4, hl.len, lt_false]
    rw [fillL_all] at no
    exact gcK_of ⟨g, no⟩ (fun hs _ => ⟨Grow.refl h, no.scalar hs h⟩)
  · simp +contextual (maxSteps := 2000000) only [go_sem, Nat.reduceEqDiff, reduceCtorEq, Nat.reduceAdd, Nat.reduceLeDiff]
    exact ⟨g1, rfl, by rw [fillL_zero]; exact n1⟩
/-! laws.toPairS -/
def L46_0 : List AStep := [⟨.mov (.c (.sl none 0 (some 0))), (some 2), none, []⟩]
theorem v46_0 : VS L46_0.eq_1 := rfl
def L46_1 : List AStep := [⟨.mkslice 106 24 [(.str (strOfNums [])), (.int .i64 0)] (.t 6) (.t 6), (some 7), none, []⟩, ⟨.mov (.t 7), (some 3), none, []⟩]
theorem v46_1 : VS L46_1.eq_1 := rfl
def L46_2 : List AStep := ⟨.mov (.t 0), (some 5), none, []⟩ :: ⟨.len (.t 5), (some 6), none, []⟩ :: L46_1
theorem v46_2 : VS L46_2.eq_1 := rfl
def L46_3 : List AStep := [⟨.mov (.c (.int .i64 0)), (some 4), none, []⟩]
theorem v46_3 : VS L46_3.eq_1 := rfl
def L46_4 : List AStep := [⟨.len (.t 9), (some 10), none, []⟩, ⟨.bin .lss (.t 8) (.t 10), (some 11), none, []⟩]
theorem v46_4 : VS L46_4.eq_1 := rfl
def L46_5 : List AStep := ⟨.mov (.t 4), (some 8), none, []⟩ :: ⟨.mov (.t 0), (some 9), none, []⟩ :: L46_4
theorem v46_5 : VS L46_5.eq_1 := rfl
def L46_6 : List AStep := [⟨.store 2 (.t 21) (.t 20), none, none, []⟩]
theorem v46_6 : VS L46_6.eq_1 := rfl
def L46_7 : List AStep := ⟨.call 94 [(.t 19)], (some 20), none, []⟩ :: ⟨.iaddr 2 (.t 14) (.t 15), (some 21), none, []⟩ :: L46_6
theorem v46_7 : VS L46_7.eq_1 := rfl
def L46_8 : List AStep := ⟨.iaddr 2 (.t 16) (.t 17), (some 18), none, []⟩ :: ⟨.load 2 true (.t 18), (some 19), none, []⟩ :: L46_7
theorem v46_8 : VS L46_8.eq_1 := rfl
def L46_9 : List AStep := ⟨.mov (.t 0), (some 16), none, []⟩ :: ⟨.mov (.t 4), (some 17), none, []⟩ :: L46_8
theorem v46_9 : VS L46_9.eq_1 := rfl
def L46_10 : List AStep := ⟨.mov (.t 3), (some 14), none, []⟩ :: ⟨.mov (.t 4), (some 15), none, []⟩ :: L46_9
theorem v46_10 : VS L46_10.eq_1 := rfl
def L46_11 : List AStep := [⟨.mov (.t 13), (some 4), none, []⟩]
theorem v46_11 : VS L46_11.eq_1 := rfl
def L46_12 : List AStep := ⟨.mov (.t 4), (some 12), none, []⟩ :: ⟨.bin .add (.t 12) (.c (.int .i64 1)), (some 13), none, []⟩ :: L46_11
theorem v46_12 : VS L46_12.eq_1 := rfl
def L46_13 : List AStep := [⟨.mov (.t 3), (some 22), none, []⟩, ⟨.mov (.t 22), (some 2), none, []⟩]
theorem v46_13 : VS L46_13.eq_1 := rfl
def C46_0 : ACode := .cond (.t 11) .skip (.exit 0)
theorem u46_0 : VC C46_0.eq_1 := rfl
def C46_1 : ACode := .seq (.reg L46_5) C46_0
theorem u46_1 : VC C46_1.eq_1 := rfl
def C46_2 : ACode := .block 1 (.reg L46_10)
theorem u46_2 : VC C46_2.eq_1 := rfl
def C46_3 : ACode := .seq C46_2 (.reg L46_12)
theorem u46_3 : VC C46_3.eq_1 := rfl
def C46_4 : ACode := .seq C46_1 C46_3
theorem u46_4 : VC C46_4.eq_1 := rfl
def C46_5 : ACode := .block 0 (.loop C46_4)
theorem u46_5 : VC C46_5.eq_1 := rfl
def C46_6 : ACode := .seq (.reg L46_3) C46_5
theorem u46_6 : VC C46_6.eq_1 := rfl
def C46_7 : ACode := .seq (.reg L46_13) .ret
theorem u46_7 : VC C46_7.eq_1 := rfl
def C46_8 : ACode := .seq C46_6 C46_7
theorem u46_8 : VC C46_8.eq_1 := rfl
def C46_9 : ACode := .seq (.reg L46_2) C46_8
theorem u46_9 : VC C46_9.eq_1 := rfl
def C46_10 : ACode := .seq (.reg L46_0) C46_9
theorem u46_10 : VC C46_10.eq_1 := rfl
def F46 : AFunc := ⟨23, [.tmp 2], C46_10⟩
theorem cF46 : compB Try.prog 46 = some F46 := by kernel_rfl
attribute [local go_sem ↓] u46_0 u46_1 u46_2 u46_3 u46_4 u46_5 u46_6 u46_7 u46_8 u46_9 u46_10 v46_0 v46_1 v46_2 v46_3 v46_4 v46_5 v46_6 v46_7 v46_8 v46_9 v46_10 v46_11 v46_12 v46_13
theorem c_toPairS {t1 : Nat} (l : List Pair) (v : AV) (h : H) (hl : Sl encP 2 t1 h v l) (hn : l.length ≤ 1048576) : callK (bm Try.prog 46 [v] h) fun r h' => Grow h h' ∧ NwP h h' r l := by
  refine bm_of cF46 ?_
  simp +contextual (maxSteps := 2000000) only [go_sem, Nat.reduceEqDiff, reduceCtorEq, Nat.reduceAdd, Nat.reduceLeDiff, F46, hl.len]
  refine wp_make (enc := encP) (k := 2) (⟨(strOfNums []), 0⟩ : Pair) rfl (by omega) (by omega) ?_
  intro h1 o g1 n1 _
  simp +contextual (maxSteps := 2000000) only [go_sem, Nat.reduceEqDiff, reduceCtorEq, Nat.reduceAdd, Nat.reduceLeDiff]
  refine wpC_loop (fun i T L h' => Grow h h' ∧ T 0 = .v v ∧ T 3 = .v o ∧ T 4 = .v (.one (.int .i64 i)) ∧ NwP h h' o (fillL l (⟨(strOfNums []), 0⟩ : Pair) i)) l.length ?_ ?_ (Nat.zero_le _) ?_
  · rintro i T L h' hi ⟨g, t0, t3, t4, no⟩
    have hl := (‹Sl encP 2 t1 h v l›).grow g
    have hio : i < (fillL l (⟨(strOfNums []), 0⟩ : Pair) i).length := by rw [fillL_len (by omega)]; exact hi
    simp +contextual (maxSteps := 2000000) only [go_sem, Nat.reduceEqDiff, reduceCtorEq, Nat.reduceAdd, Nat.reduceLeDiff, t0, t3, t4, hl.len, hl.iaddr hi, hl.whole hi, no.iaddr hio, lt_true hi, c_toPair]
    refine wp_setE (x := l[i]) lenP no hio rfl rfl g ?_
    intro h2 g2 n2 _
    simp +contextual (maxSteps := 2000000) only [go_sem, Nat.reduceEqDiff, reduceCtorEq, Nat.reduceAdd, Nat.reduceLeDiff, t0, t3, t4]
    rw [fillL_set hi] at n2
    exact ⟨g2, by rw [wrap_next hi (by omega)], n2⟩
  · rintro T L h' ⟨g, t0, t3, t4, no⟩
    have hl := (‹Sl encP 2 t1 h v l›).grow g
    simp +contextual (maxSteps := 2000000) only [go_sem, Nat.reduceEqDiff, reduceCtorEq, Nat.reduceAdd, Nat.reduceLeDiff, t0, t3, t4, hl.len, lt_false]
    rw [fillL_all] at no
    exact gcK_of ⟨g, no⟩ (fun hs _ => ⟨Grow.refl h, no.scalar hs h⟩)
  · simp +contextual (maxSteps := 2000000) only [go_sem, Nat.reduceEqDiff, reduceCtorEq, Nat.reduceAdd, Nat.reduceLeDiff]
    exact ⟨g1, rfl, by rw [fillL_zero]; exact n1⟩
/-! laws.toPlaceS -/
def L45_0 : List AStep := [⟨.mov (.c (.sl none 0 (some 0))), (some 2), none, []⟩]
theorem v45_0 : VS L45_0.eq_1 := rfl
def L45_1 : List AStep := [⟨.mkslice 86 16 [(.bool false), (.int .i64 0)] (.t 6) (.t 6), (some 7), none, []⟩, ⟨.mov (.t 7), (some 3), none, []⟩]
theorem v45_1 : VS L45_1.eq_1 := rfl
def L45_2 : List AStep := ⟨.mov (.t 0), (some 5), none, []⟩ :: ⟨.len (.t 5), (some 6), none, []⟩ :: L45_1
theorem v45_2 : VS L45_2.eq_1 := rfl
def L45_3 : List AStep := [⟨.mov (.c (.int .i64 0)), (some 4), none, []⟩]
theorem v45_3 : VS L45_3.eq_1 := rfl
def L45_4 : List AStep := [⟨.len (.t 9), (some 10), none, []⟩, ⟨.bin .lss (.t 8) (.t 10), (some 11), none, []⟩]
theorem v45_4 : VS L45_4.eq_1 := rfl
def L45_5 : List AStep := ⟨.mov (.t 4), (some 8), none, []⟩ :: ⟨.mov (.t 0), (some 9), none, []⟩ :: L45_4
theorem v45_5 : VS L45_5.eq_1 := rfl
def L45_6 : List AStep := [⟨.store 2 (.t 21) (.t 20), none, none, []⟩]
theorem v45_6 : VS L45_6.eq_1 := rfl
def L45_7 : List AStep := ⟨.call 93 [(.t 19)], (some 20), none, []⟩ :: ⟨.iaddr 2 (.t 14) (.t 15), (some 21), none, []⟩ :: L45_6
theorem v45_7 : VS L45_7.eq_1 := rfl
def L45_8 : List AStep := ⟨.iaddr 2 (.t 16) (.t 17), (some 18), none, []⟩ :: ⟨.load 2 true (.t 18), (some 19), none, []⟩ :: L45_7
theorem v45_8 : VS L45_8.eq_1 := rfl
def L45_9 : List AStep := ⟨.mov (.t 0), (some 16), none, []⟩ :: ⟨.mov (.t 4), (some 17), none, []⟩ :: L45_8
theorem v45_9 : VS L45_9.eq_1 := rfl
def L45_10 : List AStep := ⟨.mov (.t 3), (some 14), none, []⟩ :: ⟨.mov (.t 4), (some 15), none, []⟩ :: L45_9
theorem v45_10 : VS L45_10.eq_1 := rfl
def L45_11 : List AStep := [⟨.mov (.t 13), (some 4), none, []⟩]
theorem v45_11 : VS L45_11.eq_1 := rfl
def L45_12 : List AStep := ⟨.mov (.t 4), (some 12), none, []⟩ :: ⟨.bin .add (.t 12) (.c (.int .i64 1)), (some 13), none, []⟩ :: L45_11
theorem v45_12 : VS L45_12.eq_1 := rfl
def L45_13 : List AStep := [⟨.mov (.t 3), (some 22), none, []⟩, ⟨.mov (.t 22), (some 2), none, []⟩]
theorem v45_13 : VS L45_13.eq_1 := rfl
def C45_0 : ACode := .cond (.t 11) .skip (.exit 0)
theorem u45_0 : VC C45_0.eq_1 := rfl
def C45_1 : ACode := .seq (.reg L45_5) C45_0
theorem u45_1 : VC C45_1.eq_1 := rfl
def C45_2 : ACode := .block 1 (.reg L45_10)
theorem u45_2 : VC C45_2.eq_1 := rfl
def C45_3 : ACode := .seq C45_2 (.reg L45_12)
theorem u45_3 : VC C45_3.eq_1 := rfl
def C45_4 : ACode := .seq C45_1 C45_3
theorem u45_4 : VC C45_4.eq_1 := rfl
def C45_5 : ACode := .block 0 (.loop C45_4)
theorem u45_5 : VC C45_5.eq_1 := rfl
def C45_6 : ACode := .seq (.reg L45_3) C45_5
theorem u45_6 : VC C45_6.eq_1 := rfl
def C45_7 : ACode := .seq (.reg L45_13) .ret
theorem u45_7 : VC C45_7.eq_1 := rfl
def C45_8 : ACode := .seq C45_6 C45_7
theorem u45_8 : VC C45_8.eq_1 := rfl
def C45_9 : ACode := .seq (.reg L45_2) C45_8
theorem u45_9 : VC C45_9.eq_1 := rfl
def C45_10 : ACode := .seq (.reg L45_0) C45_9
theorem u45_10 : VC C45_10.eq_1 := rfl
def F45 : AFunc := ⟨23, [.tmp 2], C45_10⟩
theorem cF45 : compB Try.prog 45 = some F45 := by kernel_rfl
attribute [local go_sem ↓] u45_0 u45_1 u45_2 u45_3 u45_4 u45_5 u45_6 u45_7 u45_8 u45_9 u45_10 v45_0 v45_1 v45_2 v45_3 v45_4 v45_5 v45_6 v45_7 v45_8 v45_9 v45_10 v45_11 v45_12 v45_13
theorem c_toPlaceS {t1 : Nat} (l : List Place) (v : AV) (h : H) (hl : Sl encL 2 t1 h v l) (hn : l.length ≤ 1048576) : callK (bm Try.prog 45 [v] h) fun r h' => Grow h h' ∧ NwL h h' r l := by
  refine bm_of cF45 ?_
  simp +contextual (maxSteps := 2000000) only [go_sem, Nat.reduceEqDiff, reduceCtorEq, Nat.reduceAdd, Nat.reduceLeDiff, F45, hl.len]
  refine wp_make (enc := encL) (k := 2) (⟨false, 0⟩ : Place) rfl (by omega) (by omega) ?_
  intro h1 o g1 n1 _
  simp +contextual (maxSteps := 2000000) only [go_sem, Nat.reduceEqDiff, reduceCtorEq, Nat.reduceAdd, Nat.reduceLeDiff]
  refine wpC_loop (fun i T L h' => Grow h h' ∧ T 0 = .v v ∧ T 3 = .v o ∧ T 4 = .v (.one (.int .i64 i)) ∧ NwL h h' o (fillL l (⟨false, 0⟩ : Place) i)) l.length ?_ ?_ (Nat.zero_le _) ?_
  · rintro i T L h' hi ⟨g, t0, t3, t4, no⟩
    have hl := (‹Sl encL 2 t1 h v l›).grow g
    have hio : i < (fillL l (⟨false, 0⟩ : Place) i).length := by rw [fillL_len (by omega)]; exact hi
    simp +contextual (maxSteps := 2000000) only [go_sem, Nat.reduceEqDiff, reduceCtorEq, Nat.reduceAdd, Nat.reduceLeDiff, t0, t3, t4, hl.len, hl.iaddr hi, hl.whole hi, no.iaddr hio, lt_true hi, c_toPlace]
    refine wp_setE (x := l[i]) lenL no hio rfl rfl g ?_
    intro h2 g2 n2 _
    simp +contextual (maxSteps := 2000000) only [go_sem, Nat.reduceEqDiff, reduceCtorEq, Nat.reduceAdd, Nat.reduceLeDiff, t0, t3, t4]
    rw [fillL_set hi] at n2
    exact ⟨g2, by rw [wrap_next hi (by omega)], n2⟩
  · rintro T L h' ⟨g, t0, t3, t4, no⟩
    have hl := (‹Sl encL 2 t1 h v l›).grow g
    simp +contextual (maxSteps := 2000000) only [go_sem, Nat.reduceEqDiff, reduceCtorEq, Nat.reduceAdd, Nat.reduceLeDiff, t0, t3, t4, hl.len, lt_false]
    rw [fillL_all] at no
    exact gcK_of ⟨g, no⟩ (fun hs _ => ⟨Grow.refl h, no.scalar hs h⟩)
  · simp +contextual (maxSteps := 2000000) only [go_sem, Nat.reduceEqDiff, reduceCtorEq, Nat.reduceAdd, Nat.reduceLeDiff]
    exact ⟨g1, rfl, by rw [fillL_zero]; exact n1⟩
/-! laws.markIntS -/
def L56_0 : List AStep := [⟨.mov (.c (.int .i64 0)), (some 4), none, []⟩]
theorem v56_0 : VS L56_0.eq_1 := rfl
def L56_1 : List AStep := [⟨.mov (.c (.int .i64 0)), (some 5), none, []⟩]
theorem v56_1 : VS L56_1.eq_1 := rfl
def L56_2 : List AStep := [⟨.len (.t 7), (some 8), none, []⟩, ⟨.bin .lss (.t 6) (.t 8), (some 9), none, []⟩]
theorem v56_2 : VS L56_2.eq_1 := rfl
def L56_3 : List AStep := ⟨.mov (.t 5), (some 6), none, []⟩ :: ⟨.mov (.t 0), (some 7), none, []⟩ :: L56_2
theorem v56_3 : VS L56_3.eq_1 := rfl
def L56_4 : List AStep := [⟨.store 1 (.t 15) (.t 14), none, none, []⟩]
theorem v56_4 : VS L56_4.eq_1 := rfl
def L56_5 : List AStep := ⟨.mov (.t 1), (some 14), none, []⟩ :: ⟨.iaddr 1 (.t 12) (.t 13), (some 15), none, []⟩ :: L56_4
theorem v56_5 : VS L56_5.eq_1 := rfl
def L56_6 : List AStep := ⟨.mov (.t 0), (some 12), none, []⟩ :: ⟨.mov (.t 5), (some 13), none, []⟩ :: L56_5
theorem v56_6 : VS L56_6.eq_1 := rfl
def L56_7 : List AStep := [⟨.mov (.t 17), (some 1), none, []⟩]
theorem v56_7 : VS L56_7.eq_1 := rfl
def L56_8 : List AStep := ⟨.mov (.t 1), (some 16), none, []⟩ :: ⟨.bin .add (.t 16) (.c (.int .i64 1)), (some 17), none, []⟩ :: L56_7
theorem v56_8 : VS L56_8.eq_1 := rfl
def L56_9 : List AStep := [⟨.mov (.t 11), (some 5), none, []⟩]
theorem v56_9 : VS L56_9.eq_1 := rfl
def L56_10 : List AStep := ⟨.mov (.t 5), (some 10), none, []⟩ :: ⟨.bin .add (.t 10) (.c (.int .i64 1)), (some 11), none, []⟩ :: L56_9
theorem v56_10 : VS L56_10.eq_1 := rfl
def L56_11 : List AStep := [⟨.mov (.t 1), (some 18), none, []⟩, ⟨.mov (.t 18), (some 4), none, []⟩]
theorem v56_11 : VS L56_11.eq_1 := rfl
def C56_0 : ACode := .cond (.t 9) .skip (.exit 0)
theorem u56_0 : VC C56_0.eq_1 := rfl
def C56_1 : ACode := .seq (.reg L56_3) C56_0
theorem u56_1 : VC C56_1.eq_1 := rfl
def C56_2 : ACode := .seq (.reg L56_6) (.reg L56_8)
theorem u56_2 : VC C56_2.eq_1 := rfl
def C56_3 : ACode := .block 1 C56_2
theorem u56_3 : VC C56_3.eq_1 := rfl
def C56_4 : ACode := .seq C56_3 (.reg L56_10)
theorem u56_4 : VC C56_4.eq_1 := rfl
def C56_5 : ACode := .seq C56_1 C56_4
theorem u56_5 : VC C56_5.eq_1 := rfl
def C56_6 : ACode := .block 0 (.loop C56_5)
theorem u56_6 : VC C56_6.eq_1 := rfl
def C56_7 : ACode := .seq (.reg L56_1) C56_6
theorem u56_7 : VC C56_7.eq_1 := rfl
def C56_8 : ACode := .seq (.reg L56_11) .ret
theorem u56_8 : VC C56_8.eq_1 := rfl
def C56_9 : ACode := .seq C56_7 C56_8
theorem u56_9 : VC C56_9.eq_1 := rfl
def C56_10 : ACode := .seq (.reg L56_0) C56_9
theorem u56_10 : VC C56_10.eq_1 := rfl
def F56 : AFunc := ⟨19, [.tmp 4], C56_10⟩
theorem cF56 : compB Try.prog 56 = some F56 := by kernel_rfl
attribute [local go_sem ↓] u56_0 u56_1 u56_2 u56_3 u56_4 u56_5 u56_6 u56_7 u56_8 u56_9 u56_10 v56_0 v56_1 v56_2 v56_3 v56_4 v56_5 v56_6 v56_7 v56_8 v56_9 v56_10 v56_11
theorem c_markIntS (l : List Int) (v : AV) (k : Int) (h0 h : H) (hl : NwI h0 h v l) (g : Grow h0 h) (k1 : 0 ≤ k) (k2 : k ≤ 2 ^ 40) (hn : l.length ≤ 2 ^ 30) :
    callK (bm Try.prog 56 [v, .one (.int .i64 k)] h) fun r h' => r = ii (k + ((1 * l.length : Nat) : Int)) ∧ Grow h0 h' ∧ NwI h0 h' v (markL mkI 1 k l.length) ∧ Stay v h h' := by
  refine bm_of cF56 ?_
  simp +contextual (maxSteps := 2000000) only [go_sem, Nat.reduceEqDiff, reduceCtorEq, Nat.reduceAdd, Nat.reduceLeDiff, F56]
  refine wpC_loop (fun i T L h' => Grow h0 h' ∧ T 0 = .v v ∧ T 1 = .v (.one (.int .i64 (k + ((1 * i : Nat) : Int)))) ∧ T 5 = .v (.one (.int .i64 i)) ∧ NwI h0 h' v (markT mkI 1 k l i) ∧ Stay v h h') l.length ?_ ?_ (Nat.zero_le _) ?_
  · rintro i T L h' hi ⟨g, t0, t1, t5, no, st⟩
    have hlen : (markT mkI 1 k l i).length = l.length := markT_len (by omega)
    have hio : i < (markT mkI 1 k l i).length := by omega
    have hln := no.length
    rw [hlen] at hln
    have hia := no.iaddr hio (kd := .i64)
    have wr1 : IntKind.i64.wrap ((k + ((1 * i : Nat) : Int)) + 1) = (k + ((1 * i : Nat) : Int) + 1) := (i64_wrap (by omega) (by omega)).trans (by omega)
    simp +contextual (maxSteps := 2000000) only [go_sem, Nat.reduceEqDiff, reduceCtorEq, Nat.reduceAdd, Nat.reduceLeDiff, t0, t1, t5, hln, hia, lt_true hi, wr1]
    refine wp_setE (x := (k + ((1 * i : Nat) : Int))) lenI no hio rfl rfl g ?_
    intro h2 g2 n2 s2
    simp +contextual (maxSteps := 2000000) only [go_sem, Nat.reduceEqDiff, reduceCtorEq, Nat.reduceAdd, Nat.reduceLeDiff, t0, t1, t5, hln, hia, wr1]
    have e : (markT mkI 1 k l i).set i (mkI (k + ((1 * i : Nat) : Int))) = markT mkI 1 k l (i + 1) := markT_set hi
    have n3 : NwI h0 h2 v (markT mkI 1 k l (i + 1)) := by rw [← e]; exact n2
    refine ⟨g2, by rw [show k + ((1 * (i + 1) : Nat) : Int) = (k + ((1 * i : Nat) : Int) + 1) by omega], by rw [wrap_next hi (by omega)], n3, (st.trans s2)⟩
  · rintro T L h' ⟨g, t0, t1, t5, no, st⟩
    have hln := no.length
    rw [markT_len (Nat.le_refl _)] at hln
    simp +contextual (maxSteps := 2000000) only [go_sem, Nat.reduceEqDiff, reduceCtorEq, Nat.reduceAdd, Nat.reduceLeDiff, t0, t1, t5, hln, lt_false]
    rw [markT_all] at no
    exact gcK_of ⟨rfl, g, no, st⟩ (fun _ gg => ⟨rfl, ‹Grow h0 h›, no.back hl gg, (Grow.refl h).stay v⟩)
  · simp +contextual (maxSteps := 2000000) only [go_sem, Nat.reduceEqDiff, reduceCtorEq, Nat.reduceAdd, Nat.reduceLeDiff]
    exact ⟨g, by simp, rfl, by rw [markT_zero]; exact hl, (Grow.refl h).stay v⟩
/-! laws.heldIntS -/
def L57_0 : List AStep := [⟨.mov (.c (.int .i64 0)), (some 4), none, []⟩]
theorem v57_0 : VS L57_0.eq_1 := rfl
def L57_1 : List AStep := [⟨.mov (.c (.int .i64 0)), (some 5), none, []⟩]
theorem v57_1 : VS L57_1.eq_1 := rfl
def L57_2 : List AStep := [⟨.len (.t 7), (some 8), none, []⟩, ⟨.bin .lss (.t 6) (.t 8), (some 9), none, []⟩]
theorem v57_2 : VS L57_2.eq_1 := rfl
def L57_3 : List AStep := ⟨.mov (.t 5), (some 6), none, []⟩ :: ⟨.mov (.t 0), (some 7), none, []⟩ :: L57_2
theorem v57_3 : VS L57_3.eq_1 := rfl
def L57_4 : List AStep := [⟨.mov (.t 1), (some 16), none, []⟩, ⟨.bin .neq (.t 15) (.t 16), (some 17), none, []⟩]
theorem v57_4 : VS L57_4.eq_1 := rfl
def L57_5 : List AStep := ⟨.iaddr 1 (.t 12) (.t 13), (some 14), none, []⟩ :: ⟨.load 1 false (.t 14), (some 15), none, []⟩ :: L57_4
theorem v57_5 : VS L57_5.eq_1 := rfl
def L57_6 : List AStep := ⟨.mov (.t 0), (some 12), none, []⟩ :: ⟨.mov (.t 5), (some 13), none, []⟩ :: L57_5
theorem v57_6 : VS L57_6.eq_1 := rfl
def L57_7 : List AStep := [⟨.mov (.c (.int .i64 (-1))), (some 4), none, []⟩]
theorem v57_7 : VS L57_7.eq_1 := rfl
def L57_8 : List AStep := [⟨.mov (.t 19), (some 1), none, []⟩]
theorem v57_8 : VS L57_8.eq_1 := rfl
def L57_9 : List AStep := ⟨.mov (.t 1), (some 18), none, []⟩ :: ⟨.bin .add (.t 18) (.c (.int .i64 1)), (some 19), none, []⟩ :: L57_8
theorem v57_9 : VS L57_9.eq_1 := rfl
def L57_10 : List AStep := [⟨.mov (.t 11), (some 5), none, []⟩]
theorem v57_10 : VS L57_10.eq_1 := rfl
def L57_11 : List AStep := ⟨.mov (.t 5), (some 10), none, []⟩ :: ⟨.bin .add (.t 10) (.c (.int .i64 1)), (some 11), none, []⟩ :: L57_10
theorem v57_11 : VS L57_11.eq_1 := rfl
def L57_12 : List AStep := [⟨.mov (.t 1), (some 20), none, []⟩, ⟨.mov (.t 20), (some 4), none, []⟩]
theorem v57_12 : VS L57_12.eq_1 := rfl
def C57_0 : ACode := .cond (.t 9) .skip (.exit 0)
theorem u57_0 : VC C57_0.eq_1 := rfl
def C57_1 : ACode := .seq (.reg L57_3) C57_0
theorem u57_1 : VC C57_1.eq_1 := rfl
def C57_2 : ACode := .seq (.reg L57_7) .ret
theorem u57_2 : VC C57_2.eq_1 := rfl
def C57_3 : ACode := .cond (.t 17) C57_2 .skip
theorem u57_3 : VC C57_3.eq_1 := rfl
def C57_4 : ACode := .seq (.reg L57_6) C57_3
theorem u57_4 : VC C57_4.eq_1 := rfl
def C57_5 : ACode := .seq C57_4 (.reg L57_9)
theorem u57_5 : VC C57_5.eq_1 := rfl
def C57_6 : ACode := .block 1 C57_5
theorem u57_6 : VC C57_6.eq_1 := rfl
def C57_7 : ACode := .seq C57_6 (.reg L57_11)
theorem u57_7 : VC C57_7.eq_1 := rfl
def C57_8 : ACode := .seq C57_1 C57_7
theorem u57_8 : VC C57_8.eq_1 := rfl
def C57_9 : ACode := .block 0 (.loop C57_8)
theorem u57_9 : VC C57_9.eq_1 := rfl
def C57_10 : ACode := .seq (.reg L57_1) C57_9
theorem u57_10 : VC C57_10.eq_1 := rfl
def C57_11 : ACode := .seq (.reg L57_12) .ret
theorem u57_11 : VC C57_11.eq_1 := rfl
def C57_12 : ACode := .seq C57_10 C57_11
theorem u57_12 : VC C57_12.eq_1 := rfl
def C57_13 : ACode := .seq (.reg L57_0) C57_12
theorem u57_13 : VC C57_13.eq_1 := rfl
def F57 : AFunc := ⟨21, [.tmp 4], C57_13⟩
theorem cF57 : compB Try.prog 57 = some F57 := by kernel_rfl
attribute [local go_sem ↓] u57_0 u57_1 u57_2 u57_3 u57_4 u57_5 u57_6 u57_7 u57_8 u57_9 u57_10 u57_11 u57_12 u57_13 v57_0 v57_1 v57_2 v57_3 v57_4 v57_5 v57_6 v57_7 v57_8 v57_9 v57_10 v57_11 v57_12
theorem c_heldIntS (n : Nat) (v : AV) (k : Int) (h : H) (hl : SlI h v (markL mkI 1 k n)) (k1 : 0 ≤ k) (k2 : k ≤ 2 ^ 40) (hn : n ≤ 2 ^ 30) :
    bm Try.prog 57 [v, .one (.int .i64 k)] h = some (ii (k + ((1 * n : Nat) : Int)), h) := by
  refine bm_eq cF57 ?_
  have hlen := hl.len
  rw [markL_len] at hlen
  simp +contextual (maxSteps := 2000000) only [go_sem, Nat.reduceEqDiff, reduceCtorEq, Nat.reduceAdd, Nat.reduceLeDiff, F57]
  refine wpC_loop (fun i T L h' => h' = h ∧ T 0 = .v v ∧ T 1 = .v (.one (.int .i64 (k + ((1 * i : Nat) : Int)))) ∧ T 5 = .v (.one (.int .i64 i))) n ?_ ?_ (Nat.zero_le _) ?_
  · rintro i T L h' hi ⟨rfl, t0, t1, t5⟩
    have hio : i < (markL mkI 1 k n).length := by rw [markL_len]; exact hi
    have hat := markL_at hio
    have hia := hl.iaddr hio (kd := .i64)
    have hf : ∀ off : Nat, off + 1 ≤ 1 → _ := fun off ho => hl.fieldO (off := off) hio ho
    rw [hat] at hf
    have h0 := hl.field0 (c := .int .i64 (k + ((1 * i : Nat) : Int))) hio (by rw [hat]; rfl)
    have wr1 : IntKind.i64.wrap ((k + ((1 * i : Nat) : Int)) + 1) = (k + ((1 * i : Nat) : Int) + 1) := (i64_wrap (by omega) (by omega)).trans (by omega)
    simp +contextual (maxSteps := 2000000) only [go_sem, Nat.reduceEqDiff, reduceCtorEq, Nat.reduceAdd, Nat.reduceLeDiff, t0, t1, t5, hlen, hia, hf, h0, lt_true hi, decide_true, mkI, mBool, wr1]
    rw [show k + ((1 * (i + 1) : Nat) : Int) = (k + ((1 * i : Nat) : Int) + 1) by omega, wrap_next hi (by omega)]
    try exact ⟨rfl, rfl⟩
  · rintro T L h' ⟨rfl, t0, t1, t5⟩
    simp +contextual (maxSteps := 2000000) only [go_sem, Nat.reduceEqDiff, reduceCtorEq, Nat.reduceAdd, Nat.reduceLeDiff, t0, t1, t5, hlen, lt_false]
  · simp +contextual (maxSteps := 2000000) only [go_sem, Nat.reduceEqDiff, reduceCtorEq, Nat.reduceAdd, Nat.reduceLeDiff]
    simp
/-! laws.markPairS -/
def L55_0 : List AStep := [⟨.mov (.c (.int .i64 0)), (some 4), none, []⟩]
theorem v55_0 : VS L55_0.eq_1 := rfl
def L55_1 : List AStep := [⟨.mov (.c (.int .i64 0)), (some 5), none, []⟩]
theorem v55_1 : VS L55_1.eq_1 := rfl
def L55_2 : List AStep := [⟨.len (.t 7), (some 8), none, []⟩, ⟨.bin .lss (.t 6) (.t 8), (some 9), none, []⟩]
theorem v55_2 : VS L55_2.eq_1 := rfl
def L55_3 : List AStep := ⟨.mov (.t 5), (some 6), none, []⟩ :: ⟨.mov (.t 0), (some 7), none, []⟩ :: L55_2
theorem v55_3 : VS L55_3.eq_1 := rfl
def L55_4 : List AStep := [⟨.store 1 (.t 17) (.t 15), none, none, []⟩]
theorem v55_4 : VS L55_4.eq_1 := rfl
def L55_5 : List AStep := ⟨.iaddr 2 (.t 12) (.t 13), (some 16), none, []⟩ :: ⟨.faddr 0 (.t 16), (some 17), none, []⟩ :: L55_4
theorem v55_5 : VS L55_5.eq_1 := rfl
def L55_6 : List AStep := ⟨.mov (.t 1), (some 14), none, []⟩ :: ⟨.call 105 [(.t 14)], (some 15), none, []⟩ :: L55_5
theorem v55_6 : VS L55_6.eq_1 := rfl
def L55_7 : List AStep := ⟨.mov (.t 0), (some 12), none, []⟩ :: ⟨.mov (.t 5), (some 13), none, []⟩ :: L55_6
theorem v55_7 : VS L55_7.eq_1 := rfl
def L55_8 : List AStep := [⟨.mov (.t 19), (some 1), none, []⟩]
theorem v55_8 : VS L55_8.eq_1 := rfl
def L55_9 : List AStep := ⟨.mov (.t 1), (some 18), none, []⟩ :: ⟨.bin .add (.t 18) (.c (.int .i64 1)), (some 19), none, []⟩ :: L55_8
theorem v55_9 : VS L55_9.eq_1 := rfl
def L55_10 : List AStep := [⟨.faddr 1 (.t 23), (some 24), none, []⟩, ⟨.store 1 (.t 24) (.t 22), none, none, []⟩]
theorem v55_10 : VS L55_10.eq_1 := rfl
def L55_11 : List AStep := ⟨.mov (.t 1), (some 22), none, []⟩ :: ⟨.iaddr 2 (.t 20) (.t 21), (some 23), none, []⟩ :: L55_10
theorem v55_11 : VS L55_11.eq_1 := rfl
def L55_12 : List AStep := ⟨.mov (.t 0), (some 20), none, []⟩ :: ⟨.mov (.t 5), (some 21), none, []⟩ :: L55_11
theorem v55_12 : VS L55_12.eq_1 := rfl
def L55_13 : List AStep := [⟨.mov (.t 26), (some 1), none, []⟩]
theorem v55_13 : VS L55_13.eq_1 := rfl
def L55_14 : List AStep := ⟨.mov (.t 1), (some 25), none, []⟩ :: ⟨.bin .add (.t 25) (.c (.int .i64 1)), (some 26), none, []⟩ :: L55_13
theorem v55_14 : VS L55_14.eq_1 := rfl
def L55_15 : List AStep := [⟨.mov (.t 11), (some 5), none, []⟩]
theorem v55_15 : VS L55_15.eq_1 := rfl
def L55_16 : List AStep := ⟨.mov (.t 5), (some 10), none, []⟩ :: ⟨.bin .add (.t 10) (.c (.int .i64 1)), (some 11), none, []⟩ :: L55_15
theorem v55_16 : VS L55_16.eq_1 := rfl
def L55_17 : List AStep := [⟨.mov (.t 1), (some 27), none, []⟩, ⟨.mov (.t 27), (some 4), none, []⟩]
theorem v55_17 : VS L55_17.eq_1 := rfl
def C55_0 : ACode := .cond (.t 9) .skip (.exit 0)
theorem u55_0 : VC C55_0.eq_1 := rfl
def C55_1 : ACode := .seq (.reg L55_3) C55_0
theorem u55_1 : VC C55_1.eq_1 := rfl
def C55_2 : ACode := .seq (.reg L55_12) (.reg L55_14)
theorem u55_2 : VC C55_2.eq_1 := rfl
def C55_3 : ACode := .seq (.reg L55_9) C55_2
theorem u55_3 : VC C55_3.eq_1 := rfl
def C55_4 : ACode := .seq (.reg L55_7) C55_3
theorem u55_4 : VC C55_4.eq_1 := rfl
def C55_5 : ACode := .block 1 C55_4
theorem u55_5 : VC C55_5.eq_1 := rfl
def C55_6 : ACode := .seq C55_5 (.reg L55_16)
theorem u55_6 : VC C55_6.eq_1 := rfl
def C55_7 : ACode := .seq C55_1 C55_6
theorem u55_7 : VC C55_7.eq_1 := rfl
def C55_8 : ACode := .block 0 (.loop C55_7)
theorem u55_8 : VC C55_8.eq_1 := rfl
def C55_9 : ACode := .seq (.reg L55_1) C55_8
theorem u55_9 : VC C55_9.eq_1 := rfl
def C55_10 : ACode := .seq (.reg L55_17) .ret
theorem u55_10 : VC C55_10.eq_1 := rfl
def C55_11 : ACode := .seq C55_9 C55_10
theorem u55_11 : VC C55_11.eq_1 := rfl
def C55_12 : ACode := .seq (.reg L55_0) C55_11
theorem u55_12 : VC C55_12.eq_1 := rfl
def F55 : AFunc := ⟨28, [.tmp 4], C55_12⟩
theorem cF55 : compB Try.prog 55 = some F55 := by kernel_rfl
attribute [local go_sem ↓] u55_0 u55_1 u55_2 u55_3 u55_4 u55_5 u55_6 u55_7 u55_8 u55_9 u55_10 u55_11 u55_12 v55_0 v55_1 v55_2 v55_3 v55_4 v55_5 v55_6 v55_7 v55_8 v55_9 v55_10 v55_11 v55_12 v55_13 v55_14 v55_15 v55_16 v55_17
theorem c_markPairS (l : List Pair) (v : AV) (k : Int) (h0 h : H) (hl : NwP h0 h v l) (g : Grow h0 h) (k1 : 0 ≤ k) (k2 : k ≤ 2 ^ 40) (hn : l.length ≤ 2 ^ 30) :
    callK (bm Try.prog 55 [v, .one (.int .i64 k)] h) fun r h' => r = ii (k + ((2 * l.length : Nat) : Int)) ∧ Grow h0 h' ∧ NwP h0 h' v (markL mkP 2 k l.length) ∧ Stay v h h' := by
  refine bm_of cF55 ?_
  simp +contextual (maxSteps := 2000000) only [go_sem, Nat.reduceEqDiff, reduceCtorEq, Nat.reduceAdd, Nat.reduceLeDiff, F55]
  refine wpC_loop (fun i T L h' => Grow h0 h' ∧ T 0 = .v v ∧ T 1 = .v (.one (.int .i64 (k + ((2 * i : Nat) : Int)))) ∧ T 5 = .v (.one (.int .i64 i)) ∧ NwP h0 h' v (markT mkP 2 k l i) ∧ Stay v h h') l.length ?_ ?_ (Nat.zero_le _) ?_
  · rintro i T L h' hi ⟨g, t0, t1, t5, no, st⟩
    have hlen : (markT mkP 2 k l i).length = l.length := markT_len (by omega)
    have hio : i < (markT mkP 2 k l i).length := by omega
    have hln := no.length
    rw [hlen] at hln
    have hia := no.iaddr hio (kd := .i64)
    have wr1 : IntKind.i64.wrap ((k + ((2 * i : Nat) : Int)) + 1) = (k + ((2 * i : Nat) : Int) + 1) := (i64_wrap (by omega) (by omega)).trans (by omega)
    have wr2 : IntKind.i64.wrap ((k + ((2 * i : Nat) : Int) + 1) + 1) = (k + ((2 * i : Nat) : Int) + 2) := (i64_wrap (by omega) (by omega)).trans (by omega)
    simp +contextual (maxSteps := 2000000) only [go_sem, Nat.reduceEqDiff, reduceCtorEq, Nat.reduceAdd, Nat.reduceLeDiff, t0, t1, t5, hln, hia, lt_true hi, wr1, wr2, c_markText (k + ((2 * i : Nat) : Int)) _ (by omega)]
    refine wp_set (x := (⟨mtxt (k + ((2 * i : Nat) : Int)), (markT mkP 2 k l i)[i].value⟩ : Pair)) (off := 0) (vs := [.str (mtxt (k + ((2 * i : Nat) : Int)))]) lenP no (by first | exact hio | (simp only [List.length_set]; exact hio)) rfl (by simp [encP, List.getElem_set_self]) (Nat.le_of_ble_eq_true rfl) g ?_
    intro h2 g2 n2 s2
    try rw [List.set_set] at n2
    simp +contextual (maxSteps := 2000000) only [go_sem, Nat.reduceEqDiff, reduceCtorEq, Nat.reduceAdd, Nat.reduceLeDiff, t0, t1, t5, hln, hia, wr1, wr2, c_markText (k + ((2 * i : Nat) : Int)) _ (by omega)]
    refine wp_set (x := (⟨mtxt (k + ((2 * i : Nat) : Int)), (k + ((2 * i : Nat) : Int) + 1)⟩ : Pair)) (off := 1) (vs := [.int .i64 (k + ((2 * i : Nat) : Int) + 1)]) lenP n2 (by first | exact hio | (simp only [List.length_set]; exact hio)) rfl (by simp [encP, List.getElem_set_self]) (Nat.le_of_ble_eq_true rfl) g2 ?_
    intro h3 g3 n3 s3
    try rw [List.set_set] at n3
    simp +contextual (maxSteps := 2000000) only [go_sem, Nat.reduceEqDiff, reduceCtorEq, Nat.reduceAdd, Nat.reduceLeDiff, t0, t1, t5, hln, hia, wr1, wr2, c_markText (k + ((2 * i : Nat) : Int)) _ (by omega)]
    have e : (markT mkP 2 k l i).set i (mkP (k + ((2 * i : Nat) : Int))) = markT mkP 2 k l (i + 1) := markT_set hi
    have n4 : NwP h0 h3 v (markT mkP 2 k l (i + 1)) := by rw [← e]; exact n3
    refine ⟨g3, by rw [show k + ((2 * (i + 1) : Nat) : Int) = (k + ((2 * i : Nat) : Int) + 2) by omega], by rw [wrap_next hi (by omega)], n4, ((st.trans s2).trans s3)⟩
  · rintro T L h' ⟨g, t0, t1, t5, no, st⟩
    have hln := no.length
    rw [markT_len (Nat.le_refl _)] at hln
    simp +contextual (maxSteps := 2000000) only [go_sem, Nat.reduceEqDiff, reduceCtorEq, Nat.reduceAdd, Nat.reduceLeDiff, t0, t1, t5, hln, lt_false]
    rw [markT_all] at no
    exact gcK_of ⟨rfl, g, no, st⟩ (fun _ gg => ⟨rfl, ‹Grow h0 h›, no.back hl gg, (Grow.refl h).stay v⟩)
  · simp +contextual (maxSteps := 2000000) only [go_sem, Nat.reduceEqDiff, reduceCtorEq, Nat.reduceAdd, Nat.reduceLeDiff]
    exact ⟨g, by simp, rfl, by rw [markT_zero]; exact hl, (Grow.refl h).stay v⟩
/-! laws.heldPairS -/
def L58_0 : List AStep := [⟨.mov (.c (.int .i64 0)), (some 4), none, []⟩]
theorem v58_0 : VS L58_0.eq_1 := rfl
def L58_1 : List AStep := [⟨.mov (.c (.int .i64 0)), (some 5), none, []⟩]
theorem v58_1 : VS L58_1.eq_1 := rfl
def L58_2 : List AStep := [⟨.len (.t 7), (some 8), none, []⟩, ⟨.bin .lss (.t 6) (.t 8), (some 9), none, []⟩]
theorem v58_2 : VS L58_2.eq_1 := rfl
def L58_3 : List AStep := ⟨.mov (.t 5), (some 6), none, []⟩ :: ⟨.mov (.t 0), (some 7), none, []⟩ :: L58_2
theorem v58_3 : VS L58_3.eq_1 := rfl
def L58_4 : List AStep := [⟨.call 105 [(.t 17)], (some 18), none, [(.load 1 false (.t 15), (some 16), none)]⟩, ⟨.bin .neq (.t 16) (.t 18), (some 19), none, []⟩]
theorem v58_4 : VS L58_4.eq_1 := rfl
def L58_5 : List AStep := ⟨.load 1 false (.t 15), (some 16), none, []⟩ :: ⟨.mov (.t 1), (some 17), none, []⟩ :: L58_4
theorem v58_5 : VS L58_5.eq_1 := rfl
def L58_6 : List AStep := ⟨.iaddr 2 (.t 12) (.t 13), (some 14), none, []⟩ :: ⟨.faddr 0 (.t 14), (some 15), none, []⟩ :: L58_5
theorem v58_6 : VS L58_6.eq_1 := rfl
def L58_7 : List AStep := ⟨.mov (.t 0), (some 12), none, []⟩ :: ⟨.mov (.t 5), (some 13), none, []⟩ :: L58_6
theorem v58_7 : VS L58_7.eq_1 := rfl
def L58_8 : List AStep := [⟨.mov (.c (.int .i64 (-1))), (some 4), none, []⟩]
theorem v58_8 : VS L58_8.eq_1 := rfl
def L58_9 : List AStep := [⟨.mov (.t 21), (some 1), none, []⟩]
theorem v58_9 : VS L58_9.eq_1 := rfl
def L58_10 : List AStep := ⟨.mov (.t 1), (some 20), none, []⟩ :: ⟨.bin .add (.t 20) (.c (.int .i64 1)), (some 21), none, []⟩ :: L58_9
theorem v58_10 : VS L58_10.eq_1 := rfl
def L58_11 : List AStep := [⟨.bin .neq (.t 26) (.t 27), (some 28), none, []⟩]
theorem v58_11 : VS L58_11.eq_1 := rfl
def L58_12 : List AStep := ⟨.load 1 false (.t 25), (some 26), none, []⟩ :: ⟨.mov (.t 1), (some 27), none, []⟩ :: L58_11
theorem v58_12 : VS L58_12.eq_1 := rfl
def L58_13 : List AStep := ⟨.iaddr 2 (.t 22) (.t 23), (some 24), none, []⟩ :: ⟨.faddr 1 (.t 24), (some 25), none, []⟩ :: L58_12
theorem v58_13 : VS L58_13.eq_1 := rfl
def L58_14 : List AStep := ⟨.mov (.t 0), (some 22), none, []⟩ :: ⟨.mov (.t 5), (some 23), none, []⟩ :: L58_13
theorem v58_14 : VS L58_14.eq_1 := rfl
def L58_15 : List AStep := [⟨.mov (.c (.int .i64 (-1))), (some 4), none, []⟩]
theorem v58_15 : VS L58_15.eq_1 := rfl
def L58_16 : List AStep := [⟨.mov (.t 30), (some 1), none, []⟩]
theorem v58_16 : VS L58_16.eq_1 := rfl
def L58_17 : List AStep := ⟨.mov (.t 1), (some 29), none, []⟩ :: ⟨.bin .add (.t 29) (.c (.int .i64 1)), (some 30), none, []⟩ :: L58_16
theorem v58_17 : VS L58_17.eq_1 := rfl
def L58_18 : List AStep := [⟨.mov (.t 11), (some 5), none, []⟩]
theorem v58_18 : VS L58_18.eq_1 := rfl
def L58_19 : List AStep := ⟨.mov (.t 5), (some 10), none, []⟩ :: ⟨.bin .add (.t 10) (.c (.int .i64 1)), (some 11), none, []⟩ :: L58_18
theorem v58_19 : VS L58_19.eq_1 := rfl
def L58_20 : List AStep := [⟨.mov (.t 1), (some 31), none, []⟩, ⟨.mov (.t 31), (some 4), none, []⟩]
theorem v58_20 : VS L58_20.eq_1 := rfl
def C58_0 : ACode := .cond (.t 9) .skip (.exit 0)
theorem u58_0 : VC C58_0.eq_1 := rfl
def C58_1 : ACode := .seq (.reg L58_3) C58_0
theorem u58_1 : VC C58_1.eq_1 := rfl
def C58_2 : ACode := .seq (.reg L58_8) .ret
theorem u58_2 : VC C58_2.eq_1 := rfl
def C58_3 : ACode := .cond (.t 19) C58_2 .skip
theorem u58_3 : VC C58_3.eq_1 := rfl
def C58_4 : ACode := .seq (.reg L58_7) C58_3
theorem u58_4 : VC C58_4.eq_1 := rfl
def C58_5 : ACode := .seq (.reg L58_15) .ret
theorem u58_5 : VC C58_5.eq_1 := rfl
def C58_6 : ACode := .cond (.t 28) C58_5 .skip
theorem u58_6 : VC C58_6.eq_1 := rfl
def C58_7 : ACode := .seq (.reg L58_14) C58_6
theorem u58_7 : VC C58_7.eq_1 := rfl
def C58_8 : ACode := .seq C58_7 (.reg L58_17)
theorem u58_8 : VC C58_8.eq_1 := rfl
def C58_9 : ACode := .seq (.reg L58_10) C58_8
theorem u58_9 : VC C58_9.eq_1 := rfl
def C58_10 : ACode := .seq C58_4 C58_9
theorem u58_10 : VC C58_10.eq_1 := rfl
def C58_11 : ACode := .block 1 C58_10
theorem u58_11 : VC C58_11.eq_1 := rfl
def C58_12 : ACode := .seq C58_11 (.reg L58_19)
theorem u58_12 : VC C58_12.eq_1 := rfl
def C58_13 : ACode := .seq C58_1 C58_12
theorem u58_13 : VC C58_13.eq_1 := rfl
def C58_14 : ACode := .block 0 (.loop C58_13)
theorem u58_14 : VC C58_14.eq_1 := rfl
def C58_15 : ACode := .seq (.reg L58_1) C58_14
theorem u58_15 : VC C58_15.eq_1 := rfl
def C58_16 : ACode := .seq (.reg L58_20) .ret
theorem u58_16 : VC C58_16.eq_1 := rfl
def C58_17 : ACode := .seq C58_15 C58_16
theorem u58_17 : VC C58_17.eq_1 := rfl
def C58_18 : ACode := .seq (.reg L58_0) C58_17
theorem u58_18 : VC C58_18.eq_1 := rfl
def F58 : AFunc := ⟨32, [.tmp 4], C58_18⟩
theorem cF58 : compB Try.prog 58 = some F58 := by kernel_rfl
attribute [local go_sem ↓] u58_0 u58_1 u58_2 u58_3 u58_4 u58_5 u58_6 u58_7 u58_8 u58_9 u58_10 u58_11 u58_12 u58_13 u58_14 u58_15 u58_16 u58_17 u58_18 v58_0 v58_1 v58_2 v58_3 v58_4 v58_5 v58_6 v58_7 v58_8 v58_9 v58_10 v58_11 v58_12 v58_13 v58_14 v58_15 v58_16 v58_17 v58_18 v58_19 v58_20
theorem c_heldPairS (n : Nat) (v : AV) (k : Int) (h : H) (hl : SlP h v (markL mkP 2 k n)) (k1 : 0 ≤ k) (k2 : k ≤ 2 ^ 40) (hn : n ≤ 2 ^ 30) :
    bm Try.prog 58 [v, .one (.int .i64 k)] h = some (ii (k + ((2 * n : Nat) : Int)), h) := by
  refine bm_eq cF58 ?_
  have hlen := hl.len
  rw [markL_len] at hlen
  simp +contextual (maxSteps := 2000000) only [go_sem, Nat.reduceEqDiff, reduceCtorEq, Nat.reduceAdd, Nat.reduceLeDiff, F58]
  refine wpC_loop (fun i T L h' => h' = h ∧ T 0 = .v v ∧ T 1 = .v (.one (.int .i64 (k + ((2 * i : Nat) : Int)))) ∧ T 5 = .v (.one (.int .i64 i))) n ?_ ?_ (Nat.zero_le _) ?_
  · rintro i T L h' hi ⟨rfl, t0, t1, t5⟩
    have hio : i < (markL mkP 2 k n).length := by rw [markL_len]; exact hi
    have hat := markL_at hio
    have hia := hl.iaddr hio (kd := .i64)
    have hf : ∀ off : Nat, off + 1 ≤ 2 → _ := fun off ho => hl.fieldO (off := off) hio ho
    rw [hat] at hf
    have h0 := hl.field0 (c := .str (mtxt (k + ((2 * i : Nat) : Int)))) hio (by rw [hat]; rfl)
    have wr1 : IntKind.i64.wrap ((k + ((2 * i : Nat) : Int)) + 1) = (k + ((2 * i : Nat) : Int) + 1) := (i64_wrap (by omega) (by omega)).trans (by omega)
    have wr2 : IntKind.i64.wrap ((k + ((2 * i : Nat) : Int) + 1) + 1) = (k + ((2 * i : Nat) : Int) + 2) := (i64_wrap (by omega) (by omega)).trans (by omega)
    simp +contextual (maxSteps := 2000000) only [go_sem, Nat.reduceEqDiff, reduceCtorEq, Nat.reduceAdd, Nat.reduceLeDiff, t0, t1, t5, hlen, hia, hf, h0, lt_true hi, decide_true, mkP, mBool, wr1, wr2, c_markText (k + ((2 * i : Nat) : Int)) _ (by omega)]
    rw [show k + ((2 * (i + 1) : Nat) : Int) = (k + ((2 * i : Nat) : Int) + 2) by omega, wrap_next hi (by omega)]
    try exact ⟨rfl, rfl⟩
  · rintro T L h' ⟨rfl, t0, t1, t5⟩
    simp +contextual (maxSteps := 2000000) only [go_sem, Nat.reduceEqDiff, reduceCtorEq, Nat.reduceAdd, Nat.reduceLeDiff, t0, t1, t5, hlen, lt_false]
  · simp +contextual (maxSteps := 2000000) only [go_sem, Nat.reduceEqDiff, reduceCtorEq, Nat.reduceAdd, Nat.reduceLeDiff]
    simp
/-! laws.markPlaceS -/
def L54_0 : List AStep := [⟨.mov (.c (.int .i64 0)), (some 4), none, []⟩]
theorem v54_0 : VS L54_0.eq_1 := rfl
def L54_1 : List AStep := [⟨.mov (.c (.int .i64 0)), (some 5), none, []⟩]
theorem v54_1 : VS L54_1.eq_1 := rfl
def L54_2 : List AStep := [⟨.len (.t 7), (some 8), none, []⟩, ⟨.bin .lss (.t 6) (.t 8), (some 9), none, []⟩]
theorem v54_2 : VS L54_2.eq_1 := rfl
def L54_3 : List AStep := ⟨.mov (.t 5), (some 6), none, []⟩ :: ⟨.mov (.t 0), (some 7), none, []⟩ :: L54_2
theorem v54_3 : VS L54_3.eq_1 := rfl
def L54_4 : List AStep := [⟨.faddr 0 (.t 17), (some 18), none, []⟩, ⟨.store 1 (.t 18) (.t 16), none, none, []⟩]
theorem v54_4 : VS L54_4.eq_1 := rfl
def L54_5 : List AStep := ⟨.bin .eql (.t 15) (.c (.int .i64 0)), (some 16), none, []⟩ :: ⟨.iaddr 2 (.t 12) (.t 13), (some 17), none, []⟩ :: L54_4
theorem v54_5 : VS L54_5.eq_1 := rfl
def L54_6 : List AStep := ⟨.mov (.t 1), (some 14), none, []⟩ :: ⟨.bin .rem (.t 14) (.c (.int .i64 3)), (some 15), none, []⟩ :: L54_5
theorem v54_6 : VS L54_6.eq_1 := rfl
def L54_7 : List AStep := ⟨.mov (.t 0), (some 12), none, []⟩ :: ⟨.mov (.t 5), (some 13), none, []⟩ :: L54_6
theorem v54_7 : VS L54_7.eq_1 := rfl
def L54_8 : List AStep := [⟨.mov (.t 20), (some 1), none, []⟩]
theorem v54_8 : VS L54_8.eq_1 := rfl
def L54_9 : List AStep := ⟨.mov (.t 1), (some 19), none, []⟩ :: ⟨.bin .add (.t 19) (.c (.int .i64 1)), (some 20), none, []⟩ :: L54_8
theorem v54_9 : VS L54_9.eq_1 := rfl
def L54_10 : List AStep := [⟨.faddr 1 (.t 24), (some 25), none, []⟩, ⟨.store 1 (.t 25) (.t 23), none, none, []⟩]
theorem v54_10 : VS L54_10.eq_1 := rfl
def L54_11 : List AStep := ⟨.mov (.t 1), (some 23), none, []⟩ :: ⟨.iaddr 2 (.t 21) (.t 22), (some 24), none, []⟩ :: L54_10
theorem v54_11 : VS L54_11.eq_1 := rfl
def L54_12 : List AStep := ⟨.mov (.t 0), (some 21), none, []⟩ :: ⟨.mov (.t 5), (some 22), none, []⟩ :: L54_11
theorem v54_12 : VS L54_12.eq_1 := rfl
def L54_13 : List AStep := [⟨.mov (.t 27), (some 1), none, []⟩]
theorem v54_13 : VS L54_13.eq_1 := rfl
def L54_14 : List AStep := ⟨.mov (.t 1), (some 26), none, []⟩ :: ⟨.bin .add (.t 26) (.c (.int .i64 1)), (some 27), none, []⟩ :: L54_13
theorem v54_14 : VS L54_14.eq_1 := rfl
def L54_15 : List AStep := [⟨.mov (.t 11), (some 5), none, []⟩]
theorem v54_15 : VS L54_15.eq_1 := rfl
def L54_16 : List AStep := ⟨.mov (.t 5), (some 10), none, []⟩ :: ⟨.bin .add (.t 10) (.c (.int .i64 1)), (some 11), none, []⟩ :: L54_15
theorem v54_16 : VS L54_16.eq_1 := rfl
def L54_17 : List AStep := [⟨.mov (.t 1), (some 28), none, []⟩, ⟨.mov (.t 28), (some 4), none, []⟩]
theorem v54_17 : VS L54_17.eq_1 := rfl
def C54_0 : ACode := .cond (.t 9) .skip (.exit 0)
theorem u54_0 : VC C54_0.eq_1 := rfl
def C54_1 : ACode := .seq (.reg L54_3) C54_0
theorem u54_1 : VC C54_1.eq_1 := rfl
def C54_2 : ACode := .seq (.reg L54_12) (.reg L54_14)
theorem u54_2 : VC C54_2.eq_1 := rfl
def C54_3 : ACode := .seq (.reg L54_9) C54_2
theorem u54_3 : VC C54_3.eq_1 := rfl
def C54_4 : ACode := .seq (.reg L54_7) C54_3
theorem u54_4 : VC C54_4.eq_1 := rfl
def C54_5 : ACode := .block 1 C54_4
theorem u54_5 : VC C54_5.eq_1 := rfl
def C54_6 : ACode := .seq C54_5 (.reg L54_16)
theorem u54_6 : VC C54_6.eq_1 := rfl
def C54_7 : ACode := .seq C54_1 C54_6
theorem u54_7 : VC C54_7.eq_1 := rfl
def C54_8 : ACode := .block 0 (.loop C54_7)
theorem u54_8 : VC C54_8.eq_1 := rfl
def C54_9 : ACode := .seq (.reg L54_1) C54_8
theorem u54_9 : VC C54_9.eq_1 := rfl
def C54_10 : ACode := .seq (.reg L54_17) .ret
theorem u54_10 : VC C54_10.eq_1 := rfl
def C54_11 : ACode := .seq C54_9 C54_10
theorem u54_11 : VC C54_11.eq_1 := rfl
def C54_12 : ACode := .seq (.reg L54_0) C54_11
theorem u54_12 : VC C54_12.eq_1 := rfl
def F54 : AFunc := ⟨29, [.tmp 4], C54_12⟩
theorem cF54 : compB Try.prog 54 = some F54 := by kernel_rfl
attribute [local go_sem ↓] u54_0 u54_1 u54_2 u54_3 u54_4 u54_5 u54_6 u54_7 u54_8 u54_9 u54_10 u54_11 u54_12 v54_0 v54_1 v54_2 v54_3 v54_4 v54_5 v54_6 v54_7 v54_8 v54_9 v54_10 v54_11 v54_12 v54_13 v54_14 v54_15 v54_16 v54_17
theorem c_markPlaceS (l : List Place) (v : AV) (k : Int) (h0 h : H) (hl : NwL h0 h v l) (g : Grow h0 h) (k1 : 0 ≤ k) (k2 : k ≤ 2 ^ 40) (hn : l.length ≤ 2 ^ 30) :
    callK (bm Try.prog 54 [v, .one (.int .i64 k)] h) fun r h' => r = ii (k + ((2 * l.length : Nat) : Int)) ∧ Grow h0 h' ∧ NwL h0 h' v (markL mkL 2 k l.length) ∧ Stay v h h' := by
  refine bm_of cF54 ?_
  simp +contextual (maxSteps := 2000000) only [go_sem, Nat.reduceEqDiff, reduceCtorEq, Nat.reduceAdd, Nat.reduceLeDiff, F54]
  refine wpC_loop (fun i T L h' => Grow h0 h' ∧ T 0 = .v v ∧ T 1 = .v (.one (.int .i64 (k + ((2 * i : Nat) : Int)))) ∧ T 5 = .v (.one (.int .i64 i)) ∧ NwL h0 h' v (markT mkL 2 k l i) ∧ Stay v h h') l.length ?_ ?_ (Nat.zero_le _) ?_
  · rintro i T L h' hi ⟨g, t0, t1, t5, no, st⟩
    have hlen : (markT mkL 2 k l i).length = l.length := markT_len (by omega)
    have hio : i < (markT mkL 2 k l i).length := by omega
    have hln := no.length
    rw [hlen] at hln
    have hia := no.iaddr hio (kd := .i64)
    have wr1 : IntKind.i64.wrap ((k + ((2 * i : Nat) : Int)) + 1) = (k + ((2 * i : Nat) : Int) + 1) := (i64_wrap (by omega) (by omega)).trans (by omega)
    have wr2 : IntKind.i64.wrap ((k + ((2 * i : Nat) : Int) + 1) + 1) = (k + ((2 * i : Nat) : Int) + 2) := (i64_wrap (by omega) (by omega)).trans (by omega)
    simp +contextual (maxSteps := 2000000) only [go_sem, Nat.reduceEqDiff, reduceCtorEq, Nat.reduceAdd, Nat.reduceLeDiff, t0, t1, t5, hln, hia, lt_true hi, wr1, wr2, bin_rem (k := .i64) (a := (k + ((2 * i : Nat) : Int))) (b := 3) (by decide)]
    refine wp_set (x := (⟨mBool (k + ((2 * i : Nat) : Int)), (markT mkL 2 k l i)[i].value⟩ : Place)) (off := 0) (vs := [.bool (mBool (k + ((2 * i : Nat) : Int)))]) lenL no (by first | exact hio | (simp only [List.length_set]; exact hio)) rfl (by simp [encL, List.getElem_set_self]) (Nat.le_of_ble_eq_true rfl) g ?_
    intro h2 g2 n2 s2
    try rw [List.set_set] at n2
    simp +contextual (maxSteps := 2000000) only [go_sem, Nat.reduceEqDiff, reduceCtorEq, Nat.reduceAdd, Nat.reduceLeDiff, t0, t1, t5, hln, hia, wr1, wr2, bin_rem (k := .i64) (a := (k + ((2 * i : Nat) : Int))) (b := 3) (by decide)]
    refine wp_set (x := (⟨mBool (k + ((2 * i : Nat) : Int)), (k + ((2 * i : Nat) : Int) + 1)⟩ : Place)) (off := 1) (vs := [.int .i64 (k + ((2 * i : Nat) : Int) + 1)]) lenL n2 (by first | exact hio | (simp only [List.length_set]; exact hio)) rfl (by simp [encL, List.getElem_set_self]) (Nat.le_of_ble_eq_true rfl) g2 ?_
    intro h3 g3 n3 s3
    try rw [List.set_set] at n3
    simp +contextual (maxSteps := 2000000) only [go_sem, Nat.reduceEqDiff, reduceCtorEq, Nat.reduceAdd, Nat.reduceLeDiff, t0, t1, t5, hln, hia, wr1, wr2, bin_rem (k := .i64) (a := (k + ((2 * i : Nat) : Int))) (b := 3) (by decide)]
    have e : (markT mkL 2 k l i).set i (mkL (k + ((2 * i : Nat) : Int))) = markT mkL 2 k l (i + 1) := markT_set hi
    have n4 : NwL h0 h3 v (markT mkL 2 k l (i + 1)) := by rw [← e]; exact n3
    refine ⟨g3, by rw [show k + ((2 * (i + 1) : Nat) : Int) = (k + ((2 * i : Nat) : Int) + 2) by omega], by rw [wrap_next hi (by omega)], n4, ((st.trans s2).trans s3)⟩
  · rintro T L h' ⟨g, t0, t1, t5, no, st⟩
    have hln := no.length
    rw [markT_len (Nat.le_refl _)] at hln
    simp +contextual (maxSteps := 2000000) only [go_sem, Nat.reduceEqDiff, reduceCtorEq, Nat.reduceAdd, Nat.reduceLeDiff, t0, t1, t5, hln, lt_false]
    rw [markT_all] at no
    exact gcK_of ⟨rfl, g, no, st⟩ (fun _ gg => ⟨rfl, ‹Grow h0 h›, no.back hl gg, (Grow.refl h).stay v⟩)
  · simp +contextual (maxSteps := 2000000) only [go_sem, Nat.reduceEqDiff, reduceCtorEq, Nat.reduceAdd, Nat.reduceLeDiff]
    exact ⟨g, by simp, rfl, by rw [markT_zero]; exact hl, (Grow.refl h).stay v⟩
end Go.Proofs.Ytdalgphpacikkac.Am
