/- Contracts of the laws: copies, marks, and what is held of them. -/
import Derived.Test.YtnphlonhogcedaaDat
namespace Go.Proofs.Ytnphlonhogcedaa.Am
open Go
set_option maxRecDepth 100000
set_option maxHeartbeats 4000000
set_option linter.unusedSimpArgs false
set_option linter.unusedVariables false
attribute [local go_sem ↓] bv_t bv_c ev_t ev_c put_same put_ne put_none kill_at pro_at lb_same lb_ne start_zero start_succ wpC_seq wpC_reg wpC_cond wpC_block wpC_skip wpC_exit wpC_ret thenQ_normal thenQ_exit thenQ_ret inBlk_normal inBlk_exit inBlk_ret wpS_nil wpS_step wpS_again wpS_guard wpO_mov wpO_load wpO_faddr wpO_nilCheck wpO_pick wpO_build wpO_bin wpO_eqb wpO_eqst wpO_eqnil wpO_not wpO_conv wpO_bytesStr wpO_iaddr wpO_idxStr wpO_field wpO_extract wpO_len wpO_lenStr wpO_cap wpO_min wpO_slice wpO_sliceStr wpO_alloc wpO_box wpO_store wpO_call wpO_callv wpO_mkfn wpO_buildSlice wpO_mkslice wpO_append wpO_appz proA_nil proA_cons tmpX_nil tmpX_tmp tmpX_cell doneB_normal doneB_ret agK_cons agK_nil agK_guard agG_tt agG_ff agG_tf agG_ft agG_undef pureB_load results_one results_two results_nil resBs_cons resBs_nil resB_tmp resB_cell
attribute [local go_sem] kill_v kill_lp_ne kill_lp_same pro_v pro_lp_same pro_lp_ne av_v av_lp optB_some optX_some valX_eq ldX_lp ldX_v faX_lp faX_v ncX_lp ncX_ptr ncX_fn boxK_one boxK_agg stL_some stK_lp_one stK_lp_agg stK_v_one stK_v_agg proM_v proM_lp callG_mk callVG_mk callvK_fn fnG_mk ptrsA_nil ptrsA_cons callH_some whenA_true whenA_false guardH_tt guardH_ff guardH_tf guardH_ft guardH_undef agV_one agV_agg lenO_sl lenStrO_str notO_bool pickO_bool convO_int eqbO_bool eqnilO_sl extractO_tup capO_sl minO_int loadL_one loadL_all storeL_eq fillA_nil fillA_one fillA_agg nat_ge neg_ge nat_lt neg_lt buildO bin_add bin_sub bin_mul bin_eql bin_neq bin_lss bin_leq bin_gtr bin_geq str_eql str_neq str_lss str_leq str_gtr str_geq retK_some endK_mk gcK_same gcK_int gcK_bool tupO_one tupO_agg rdy_self ib ii Option.map_none Option.map_some Option.some.injEq exists_eq_left' exists_eq_left ne_eq not_false_eq_true if_true if_false List.map_cons List.map_nil List.getElem?_cons_zero List.getElem?_cons_succ List.length_cons List.length_nil List.take_succ_cons List.take_zero List.take_nil List.drop_succ_cons List.drop_zero List.drop_nil List.cons_append List.nil_append List.append_nil List.set_cons_zero List.set_cons_succ Nat.zero_add forall_const true_and and_true and_self Bool.false_eq_true false_implies true_implies implies_true Bool.not_true Bool.not_false Bool.not_eq_true' Bool.not_eq_false' beq_self_eq_true Bool.bne_true Bool.bne_false
attribute [local go_sem] lenI lenS lenP lenQ lenB lenL lenT encI_0 encS_0 encP_0 encP_1 encQ_0 encQ_1 encQ_2 encQ_3 encB_0 encB_1 encL_0 encL_1 encT_0 encT_1
attribute [local go_sem low] whenA_bool guardH_bool
def encU (n : Int) : List CV := [.int .u8 n]
/-! laws.markText -/
def L143_0 : List AStep := [⟨.mov (.c (.str (strOfNums []))), (some 2), none, []⟩]
theorem v143_0 : VS L143_0.eq_1 := rfl
def L143_1 : List AStep := [⟨.mov (.t 0), (some 4), none, []⟩, ⟨.bin .leq (.t 4) (.c (.int .i64 0)), (some 5), none, []⟩]
theorem v143_1 : VS L143_1.eq_1 := rfl
def L143_2 : List AStep := [⟨.mov (.c (.str (strOfNums [109, 48]))), (some 2), none, []⟩]
theorem v143_2 : VS L143_2.eq_1 := rfl
def L143_3 : List AStep := [⟨.mov (.c (.str (strOfNums []))), (some 3), none, []⟩]
theorem v143_3 : VS L143_3.eq_1 := rfl
def L143_4 : List AStep := [⟨.mov (.t 0), (some 6), none, []⟩, ⟨.bin .gtr (.t 6) (.c (.int .i64 0)), (some 7), none, []⟩]
theorem v143_4 : VS L143_4.eq_1 := rfl
def L143_5 : List AStep := [⟨.mov (.t 15), (some 3), none, []⟩]
theorem v143_5 : VS L143_5.eq_1 := rfl
def L143_6 : List AStep := ⟨.mov (.t 3), (some 14), none, []⟩ :: ⟨.bin .add (.t 13) (.t 14), (some 15), none, []⟩ :: L143_5
theorem v143_6 : VS L143_6.eq_1 := rfl
def L143_7 : List AStep := ⟨.buildSlice 5 1 [(.int .u8 0)] [(0, 1, (.t 11))], (some 12), none, []⟩ :: ⟨.bytesStr (.t 12), (some 13), none, []⟩ :: L143_6
theorem v143_7 : VS L143_7.eq_1 := rfl
def L143_8 : List AStep := ⟨.bin .add (.c (.int .i64 48)) (.t 9), (some 10), none, []⟩ :: ⟨.conv .u8 (.t 10), (some 11), none, []⟩ :: L143_7
theorem v143_8 : VS L143_8.eq_1 := rfl
def L143_9 : List AStep := ⟨.mov (.t 0), (some 8), none, []⟩ :: ⟨.bin .rem (.t 8) (.c (.int .i64 10)), (some 9), none, []⟩ :: L143_8
theorem v143_9 : VS L143_9.eq_1 := rfl
def L143_10 : List AStep := [⟨.mov (.t 17), (some 0), none, []⟩]
theorem v143_10 : VS L143_10.eq_1 := rfl
def L143_11 : List AStep := ⟨.mov (.t 0), (some 16), none, []⟩ :: ⟨.bin .quo (.t 16) (.c (.int .i64 10)), (some 17), none, []⟩ :: L143_10
theorem v143_11 : VS L143_11.eq_1 := rfl
def L143_12 : List AStep := [⟨.mov (.t 19), (some 2), none, []⟩]
theorem v143_12 : VS L143_12.eq_1 := rfl
def L143_13 : List AStep := ⟨.mov (.t 3), (some 18), none, []⟩ :: ⟨.bin .add (.c (.str (strOfNums [109]))) (.t 18), (some 19), none, []⟩ :: L143_12
theorem v143_13 : VS L143_13.eq_1 := rfl
def C143_0 : ACode := .seq (.reg L143_2) .ret
theorem u143_0 : VC C143_0.eq_1 := rfl
def C143_1 : ACode := .cond (.t 5) C143_0 .skip
theorem u143_1 : VC C143_1.eq_1 := rfl
def C143_2 : ACode := .seq (.reg L143_1) C143_1
theorem u143_2 : VC C143_2.eq_1 := rfl
def C143_3 : ACode := .cond (.t 7) .skip (.exit 0)
theorem u143_3 : VC C143_3.eq_1 := rfl
def C143_4 : ACode := .seq (.reg L143_4) C143_3
theorem u143_4 : VC C143_4.eq_1 := rfl
def C143_5 : ACode := .seq (.reg L143_9) (.reg L143_11)
theorem u143_5 : VC C143_5.eq_1 := rfl
def C143_6 : ACode := .block 1 C143_5
theorem u143_6 : VC C143_6.eq_1 := rfl
def C143_7 : ACode := .seq C143_4 C143_6
theorem u143_7 : VC C143_7.eq_1 := rfl
def C143_8 : ACode := .block 0 (.loop C143_7)
theorem u143_8 : VC C143_8.eq_1 := rfl
def C143_9 : ACode := .seq (.reg L143_13) .ret
theorem u143_9 : VC C143_9.eq_1 := rfl
def C143_10 : ACode := .seq C143_8 C143_9
theorem u143_10 : VC C143_10.eq_1 := rfl
def C143_11 : ACode := .seq (.reg L143_3) C143_10
theorem u143_11 : VC C143_11.eq_1 := rfl
def C143_12 : ACode := .seq C143_2 C143_11
theorem u143_12 : VC C143_12.eq_1 := rfl
def C143_13 : ACode := .seq (.reg L143_0) C143_12
theorem u143_13 : VC C143_13.eq_1 := rfl
def F143 : AFunc := ⟨20, [.tmp 2], C143_13⟩
theorem cF143 : compB Try.prog 143 = some F143 := by kernel_rfl
attribute [local go_sem ↓] u143_0 u143_1 u143_2 u143_3 u143_4 u143_5 u143_6 u143_7 u143_8 u143_9 u143_10 u143_11 u143_12 u143_13 v143_0 v143_1 v143_2 v143_3 v143_4 v143_5 v143_6 v143_7 v143_8 v143_9 v143_10 v143_11 v143_12 v143_13
theorem c_markText (k : Int) (h : H) (h1 : k < 2 ^ 60) : bm Try.prog 143 [.one (.int .i64 k)] h = some (.one (.str (mtxt k)), h) := by
  by_cases hk : k ≤ 0
  · refine bm_eq cF143 ?_
    simp +contextual (maxSteps := 2000000) only [go_sem, Nat.reduceEqDiff, reduceCtorEq, Nat.reduceAdd, Nat.reduceLeDiff, F143, decide_eq_true hk]
    unfold mtxt
    rw [if_pos hk]
  obtain ⟨n, rfl⟩ : ∃ n : Nat, k = n := ⟨k.toNat, by omega⟩
  have key : callK (bm Try.prog 143 [.one (.int .i64 n)] h) fun v h' => v = .one (.str (mtxt n)) ∧ h' = h := by
    refine bm_of cF143 ?_
    simp +contextual (maxSteps := 2000000) only [go_sem, Nat.reduceEqDiff, reduceCtorEq, Nat.reduceAdd, Nat.reduceLeDiff, F143, decide_eq_false hk]
    refine wpC_while (fun m T L h' => Grow h h' ∧ T 0 = .v (.one (.int .i64 m)) ∧ ∃ s, T 3 = .v (.one (.str s)) ∧ mDig m s = mDig n (strOfNums []) ∧ s.size + m ≤ n) ?_ ?_ (m := n)
    · rintro m T L h' ⟨g, t0, s, t3, e1, e2⟩
      by_cases hm : m = 0
      · subst hm
        have e3 : mDig 0 s = s := by unfold mDig; simp
        rw [e3] at e1
        simp +contextual (maxSteps := 2000000) only [go_sem, Nat.reduceEqDiff, reduceCtorEq, Nat.reduceAdd, Nat.reduceLeDiff, t0, t3, show decide (((0 : Nat) : Int) > 0) = false from rfl]
        have e4 : (strOfNums [109]).size = 1 := strOfNums_size _
        simp +contextual (maxSteps := 2000000) only [go_sem, Nat.reduceEqDiff, reduceCtorEq, Nat.reduceAdd, Nat.reduceLeDiff, str_add (s := strOfNums [109]) (t := s) (by rw [e4]; omega)]
        refine gcR_of g rfl ⟨?_, rfl⟩
        unfold mtxt
        rw [if_neg hk, e1]
        rfl
      · have e5 : mDig m s = mDig (m / 10) (strOfNums [digit m] ++ s) := by rw [mDig, dif_neg hm]
        simp +contextual (maxSteps := 2000000) only [go_sem, Nat.reduceEqDiff, reduceCtorEq, Nat.reduceAdd, Nat.reduceLeDiff, t0, t3, decide_eq_true (show ((m : Nat) : Int) > 0 by omega), bin_rem (k := .i64) (a := (m : Int)) (b := 10) (by decide), bin_quo (k := .i64) (a := (m : Int)) (b := 10) (by decide)]
        refine wp_lit (enc := encU) (k := 1) [digit m] rfl rfl ?_
        intro h2 v g2 n2 _
        have hb := bytes_at (n2.sl (fun _ => rfl)) (by simp)
        have e4 : (strOfNums [digit m]).size = 1 := strOfNums_size _
        simp +contextual (maxSteps := 2000000) only [go_sem, Nat.reduceEqDiff, reduceCtorEq, Nat.reduceAdd, Nat.reduceLeDiff, hb, t0, t3, str_add (s := strOfNums [digit m]) (t := s) (by rw [e4]; omega), bin_quo (k := .i64) (a := (m : Int)) (b := 10) (by decide)]
        refine ⟨m / 10, by omega, g.trans g2, ?_, _, rfl, ?_, ?_⟩
        · rw [show (m : Int).tdiv 10 = ((m / 10 : Nat) : Int) by rw [Int.tdiv_eq_ediv_of_nonneg (by omega)]; omega, wrap_nat (by omega)]
        · rw [← e5, e1]
        · rw [ByteArray.size_append, e4]
          omega
    · simp +contextual (maxSteps := 2000000) only [go_sem, Nat.reduceEqDiff, reduceCtorEq, Nat.reduceAdd, Nat.reduceLeDiff]
      exact ⟨Grow.refl h, _, rfl, rfl, by rw [strOfNums_size]; simp⟩
  obtain ⟨v, h', e1, rfl, rfl⟩ := key
  exact e1
/-! laws.toPair -/
def L184_0 : List AStep := [⟨.box 194 (.t 0), (some 1), none, []⟩, ⟨.alloc 86 [(.str (strOfNums [])), (.int .i64 0)], (some 2), none, []⟩]
theorem v184_0 : VS L184_0.eq_1 := rfl
def L184_1 : List AStep := [⟨.alloc 86 [(.str (strOfNums [])), (.int .i64 0)], (some 3), none, []⟩]
theorem v184_1 : VS L184_1.eq_1 := rfl
def L184_2 : List AStep := [⟨.faddr 0 (.t 3), (some 6), none, []⟩, ⟨.store 1 (.t 6) (.t 5), none, none, []⟩]
theorem v184_2 : VS L184_2.eq_1 := rfl
def L184_3 : List AStep := ⟨.faddr 0 (.t 1), (some 4), none, []⟩ :: ⟨.load 1 false (.t 4), (some 5), none, []⟩ :: L184_2
theorem v184_3 : VS L184_3.eq_1 := rfl
def L184_4 : List AStep := [⟨.faddr 1 (.t 3), (some 9), none, []⟩, ⟨.store 1 (.t 9) (.t 8), none, none, []⟩]
theorem v184_4 : VS L184_4.eq_1 := rfl
def L184_5 : List AStep := ⟨.faddr 1 (.t 1), (some 7), none, []⟩ :: ⟨.load 1 false (.t 7), (some 8), none, []⟩ :: L184_4
theorem v184_5 : VS L184_5.eq_1 := rfl
def L184_6 : List AStep := [⟨.load 2 true (.t 3), (some 10), none, []⟩, ⟨.store 2 (.t 2) (.t 10), none, none, []⟩]
theorem v184_6 : VS L184_6.eq_1 := rfl
def C184_0 : ACode := .seq (.reg L184_6) .ret
theorem u184_0 : VC C184_0.eq_1 := rfl
def C184_1 : ACode := .seq (.reg L184_5) C184_0
theorem u184_1 : VC C184_1.eq_1 := rfl
def C184_2 : ACode := .seq (.reg L184_3) C184_1
theorem u184_2 : VC C184_2.eq_1 := rfl
def C184_3 : ACode := .seq (.reg L184_1) C184_2
theorem u184_3 : VC C184_3.eq_1 := rfl
def C184_4 : ACode := .seq (.reg L184_0) C184_3
theorem u184_4 : VC C184_4.eq_1 := rfl
def F184 : AFunc := ⟨11, [.cell 2 2 true], C184_4⟩
theorem cF184 : compB Try.prog 184 = some F184 := by kernel_rfl
attribute [local go_sem ↓] u184_0 u184_1 u184_2 u184_3 u184_4 v184_0 v184_1 v184_2 v184_3 v184_4 v184_5 v184_6
theorem c_toPair (p : Pair) (h : H) : bm Try.prog 184 [.agg (encP p)] h = some (.agg (encP p), h) := by
  refine bm_eq cF184 ?_
  simp +contextual (maxSteps := 2000000) only [go_sem, Nat.reduceEqDiff, reduceCtorEq, Nat.reduceAdd, Nat.reduceLeDiff, F184, encP]
/-! laws.toPlace -/
def L197_0 : List AStep := [⟨.box 206 (.t 0), (some 1), none, []⟩, ⟨.alloc 83 [(.bool false), (.int .i64 0)], (some 2), none, []⟩]
theorem v197_0 : VS L197_0.eq_1 := rfl
def L197_1 : List AStep := [⟨.alloc 83 [(.bool false), (.int .i64 0)], (some 3), none, []⟩]
theorem v197_1 : VS L197_1.eq_1 := rfl
def L197_2 : List AStep := [⟨.faddr 0 (.t 3), (some 6), none, []⟩, ⟨.store 1 (.t 6) (.t 5), none, none, []⟩]
theorem v197_2 : VS L197_2.eq_1 := rfl
def L197_3 : List AStep := ⟨.faddr 0 (.t 1), (some 4), none, []⟩ :: ⟨.load 1 false (.t 4), (some 5), none, []⟩ :: L197_2
theorem v197_3 : VS L197_3.eq_1 := rfl
def L197_4 : List AStep := [⟨.faddr 1 (.t 3), (some 9), none, []⟩, ⟨.store 1 (.t 9) (.t 8), none, none, []⟩]
theorem v197_4 : VS L197_4.eq_1 := rfl
def L197_5 : List AStep := ⟨.faddr 1 (.t 1), (some 7), none, []⟩ :: ⟨.load 1 false (.t 7), (some 8), none, []⟩ :: L197_4
theorem v197_5 : VS L197_5.eq_1 := rfl
def L197_6 : List AStep := [⟨.load 2 true (.t 3), (some 10), none, []⟩, ⟨.store 2 (.t 2) (.t 10), none, none, []⟩]
theorem v197_6 : VS L197_6.eq_1 := rfl
def C197_0 : ACode := .seq (.reg L197_6) .ret
theorem u197_0 : VC C197_0.eq_1 := rfl
def C197_1 : ACode := .seq (.reg L197_5) C197_0
theorem u197_1 : VC C197_1.eq_1 := rfl
def C197_2 : ACode := .seq (.reg L197_3) C197_1
theorem u197_2 : VC C197_2.eq_1 := rfl
def C197_3 : ACode := .seq (.reg L197_1) C197_2
theorem u197_3 : VC C197_3.eq_1 := rfl
def C197_4 : ACode := .seq (.reg L197_0) C197_3
theorem u197_4 : VC C197_4.eq_1 := rfl
def F197 : AFunc := ⟨11, [.cell 2 2 true], C197_4⟩
theorem cF197 : compB Try.prog 197 = some F197 := by kernel_rfl
attribute [local go_sem ↓] u197_0 u197_1 u197_2 u197_3 u197_4 v197_0 v197_1 v197_2 v197_3 v197_4 v197_5 v197_6
theorem c_toPlace (p : Place) (h : H) : bm Try.prog 197 [.agg (encL p)] h = some (.agg (encL p), h) := by
  refine bm_eq cF197 ?_
  simp +contextual (maxSteps := 2000000) only [go_sem, Nat.reduceEqDiff, reduceCtorEq, Nat.reduceAdd, Nat.reduceLeDiff, F197, encL]
/-! laws.toPairS -/
def L108_0 : List AStep := [⟨.mov (.c (.sl none 0 (some 0))), (some 2), none, []⟩]
theorem v108_0 : VS L108_0.eq_1 := rfl
def L108_1 : List AStep := [⟨.mkslice 86 24 [(.str (strOfNums [])), (.int .i64 0)] (.t 6) (.t 6), (some 7), none, []⟩, ⟨.mov (.t 7), (some 3), none, []⟩]
theorem v108_1 : VS L108_1.eq_1 := rfl
def L108_2 : List AStep := ⟨.mov (.t 0), (some 5), none, []⟩ :: ⟨.len (.t 5), (some 6), none, []⟩ :: L108_1
theorem v108_2 : VS L108_2.eq_1 := rfl
def L108_3 : List AStep := [⟨.mov (.c (.int .i64 0)), (some 4), none, []⟩]
theorem v108_3 : VS L108_3.eq_1 := rfl
def L108_4 : List AStep := [⟨.len (.t 9), (some 10), none, []⟩, ⟨.bin .lss (.t 8) (.t 10), (some 11), none, []⟩]
theorem v108_4 : VS L108_4.eq_1 := rfl
def L108_5 : List AStep := ⟨.mov (.t 4), (some 8), none, []⟩ :: ⟨.mov (.t 0), (some 9), none, []⟩ :: L108_4
theorem v108_5 : VS L108_5.eq_1 := rfl
def L108_6 : List AStep := [⟨.store 2 (.t 21) (.t 20), none, none, []⟩]
theorem v108_6 : VS L108_6.eq_1 := rfl
def L108_7 : List AStep := ⟨.call 184 [(.t 19)], (some 20), none, []⟩ :: ⟨.iaddr 2 (.t 14) (.t 15), (some 21), none, []⟩ :: L108_6
theorem v108_7 : VS L108_7.eq_1 := rfl
def L108_8 : List AStep := ⟨.iaddr 2 (.t 16) (.t 17), (some 18), none, []⟩ :: ⟨.load 2 true (.t 18), (some 19), none, []⟩ :: L108_7
theorem v108_8 : VS L108_8.eq_1 := rfl
def L108_9 : List AStep := ⟨.mov (.t 0), (some 16), none, []⟩ :: ⟨.mov (.t 4), (some 17), none, []⟩ :: L108_8
theorem v108_9 : VS L108_9.eq_1 := rfl
def L108_10 : List AStep := ⟨.mov (.t 3), (some 14), none, []⟩ :: ⟨.mov (.t 4), (some 15), none, []⟩ :: L108_9
theorem v108_10 : VS L108_10.eq_1 := rfl
def L108_11 : List AStep := [⟨.mov (.t 13), (some 4), none, []⟩]
theorem v108_11 : VS L108_11.eq_1 := rfl
def L108_12 : List AStep := ⟨.mov (.t 4), (some 12), none, []⟩ :: ⟨.bin .add (.t 12) (.c (.int .i64 1)), (some 13), none, []⟩ :: L108_11
theorem v108_12 : VS L108_12.eq_1 := rfl
def L108_13 : List AStep := [⟨.mov (.t 3), (some 22), none, []⟩, ⟨.mov (.t 22), (some 2), none, []⟩]
theorem v108_13 : VS L108_13.eq_1 := rfl
def C108_0 : ACode := .cond (.t 11) .skip (.exit 0)
theorem u108_0 : VC C108_0.eq_1 := rfl
def C108_1 : ACode := .seq (.reg L108_5) C108_0
theorem u108_1 : VC C108_1.eq_1 := rfl
def C108_2 : ACode := .block 1 (.reg L108_10)
theorem u108_2 : VC C108_2.eq_1 := rfl
def C108_3 : ACode := .seq C108_2 (.reg L108_12)
theorem u108_3 : VC C108_3.eq_1 := rfl
def C108_4 : ACode := .seq C108_1 C108_3
theorem u108_4 : VC C108_4.eq_1 := rfl
def C108_5 : ACode := .block 0 (.loop C108_4)
theorem u108_5 : VC C108_5.eq_1 := rfl
def C108_6 : ACode := .seq (.reg L108_3) C108_5
theorem u108_6 : VC C108_6.eq_1 := rfl
def C108_7 : ACode := .seq (.reg L108_13) .ret
theorem u108_7 : VC C108_7.eq_1 := rfl
def C108_8 : ACode := .seq C108_6 C108_7
theorem u108_8 : VC C108_8.eq_1 := rfl
def C108_9 : ACode := .seq (.reg L108_2) C108_8
theorem u108_9 : VC C108_9.eq_1 := rfl
def C108_10 : ACode := .seq (.reg L108_0) C108_9
theorem u108_10 : VC C108_10.eq_1 := rfl
def F108 : AFunc := ⟨23, [.tmp 2], C108_10⟩
theorem cF108 : compB Try.prog 108 = some F108 := by kernel_rfl
attribute [local go_sem ↓] u108_0 u108_1 u108_2 u108_3 u108_4 u108_5 u108_6 u108_7 u108_8 u108_9 u108_10 v108_0 v108_1 v108_2 v108_3 v108_4 v108_5 v108_6 v108_7 v108_8 v108_9 v108_10 v108_11 v108_12 v108_13
theorem c_toPairS {t1 : Nat} (l : List Pair) (v : AV) (h : H) (hl : Sl encP 2 t1 h v l) (hn : l.length ≤ 1048576) : callK (bm Try.prog 108 [v] h) fun r h' => Grow h h' ∧ NwP h h' r l := by
  refine bm_of cF108 ?_
  simp +contextual (maxSteps := 2000000) only [go_sem, Nat.reduceEqDiff, reduceCtorEq, Nat.reduceAdd, Nat.reduceLeDiff, F108, hl.len]
  refine wp_make (enc := encP) (k := 2) (⟨(strOfNums []), 0⟩ : Pair) rfl (by omega) (by omega) ?_
  intro h1 o g1 n1 _
  simp +contextual (maxSteps := 2000000) only [go_sem, Nat.reduceEqDiff, reduceCtorEq, Nat.reduceAdd, Nat.reduceLeDiff]
  refine wpC_loop (fun i T L h' => Grow h h' ∧ T 0 = .v v ∧ T 3 = .v o ∧ T 4 = .v (.one (.int .i64 i)) ∧ NwP h h' o (fillL l (⟨(strOfNums []), 0⟩ : Pair) i)) l.length ?_ ?_ (Nat.zero_le _) ?_
  · rintro i T L h' hi ⟨g, t0, t3, t4, no⟩
    have hl := (‹Sl encP 2 t1 h v l›).grow g
    have hio : i < (fillL l (⟨(strOfNums []), 0⟩ : Pair) i).length := by rw [fillL_len (by omega)]; exact hi
    simp +contextual (maxSteps := 2000000) only [go_sem, Nat.reduceEqDiff, reduceCtorEq, Nat.reduceAdd, Nat.reduceLeDiff, t0, t3, t4, hl.len, hl.iaddr hi, hl.whole hi, no.iaddr hio, lt_true hi, c_toPair]
    refine wp_setE (x := l[i]) lenP no hio rfl rfl g ?_
    intro h2 g2 n2 _
    simp +contextual (maxSteps := 2000000) only [go_sem, Nat.reduceEqDiff, reduceCtorEq, Nat.reduceAdd, Nat.reduceLeDiff, t0, t3, t4]
    rw [fillL_set hi] at n2
    exact ⟨g2, by rw [wrap_next hi (by omega)], n2⟩
  · rintro T L h' ⟨g, t0, t3, t4, no⟩
    have hl := (‹Sl encP 2 t1 h v l›).grow g
    simp +contextual (maxSteps := 2000000) only [go_sem, Nat.reduceEqDiff, reduceCtorEq, Nat.reduceAdd, Nat.reduceLeDiff, t0, t3, t4, hl.len, lt_false]
    rw [fillL_all] at no
    exact gcK_of ⟨g, no⟩ (fun hs _ => ⟨Grow.refl h, no.scalar hs h⟩)
  · simp +contextual (maxSteps := 2000000) only [go_sem, Nat.reduceEqDiff, reduceCtorEq, Nat.reduceAdd, Nat.reduceLeDiff]
    exact ⟨g1, rfl, by rw [fillL_zero]; exact n1⟩
/-! laws.toPlaceS -/
def L131_0 : List AStep := [⟨.mov (.c (.sl none 0 (some 0))), (some 2), none, []⟩]
theorem v131_0 : VS L131_0.eq_1 := rfl
def L131_1 : List AStep := [⟨.mkslice 83 16 [(.bool false), (.int .i64 0)] (.t 6) (.t 6), (some 7), none, []⟩, ⟨.mov (.t 7), (some 3), none, []⟩]
theorem v131_1 : VS L131_1.eq_1 := rfl
def L131_2 : List AStep := ⟨.mov (.t 0), (some 5), none, []⟩ :: ⟨.len (.t 5), (some 6), none, []⟩ :: L131_1
theorem v131_2 : VS L131_2.eq_1 := rfl
def L131_3 : List AStep := [⟨.mov (.c (.int .i64 0)), (some 4), none, []⟩]
theorem v131_3 : VS L131_3.eq_1 := rfl
def L131_4 : List AStep := [⟨.len (.t 9), (some 10), none, []⟩, ⟨.bin .lss (.t 8) (.t 10), (some 11), none, []⟩]
theorem v131_4 : VS L131_4.eq_1 := rfl
def L131_5 : List AStep := ⟨.mov (.t 4), (some 8), none, []⟩ :: ⟨.mov (.t 0), (some 9), none, []⟩ :: L131_4
theorem v131_5 : VS L131_5.eq_1 := rfl
def L131_6 : List AStep := [⟨.store 2 (.t 21) (.t 20), none, none, []⟩]
theorem v131_6 : VS L131_6.eq_1 := rfl
def L131_7 : List AStep := ⟨.call 197 [(.t 19)], (some 20), none, []⟩ :: ⟨.iaddr 2 (.t 14) (.t 15), (some 21), none, []⟩ :: L131_6
theorem v131_7 : VS L131_7.eq_1 := rfl
def L131_8 : List AStep := ⟨.iaddr 2 (.t 16) (.t 17), (some 18), none, []⟩ :: ⟨.load 2 true (.t 18), (some 19), none, []⟩ :: L131_7
theorem v131_8 : VS L131_8.eq_1 := rfl
def L131_9 : List AStep := ⟨.mov (.t 0), (some 16), none, []⟩ :: ⟨.mov (.t 4), (some 17), none, []⟩ :: L131_8
theorem v131_9 : VS L131_9.eq_1 := rfl
def L131_10 : List AStep := ⟨.mov (.t 3), (some 14), none, []⟩ :: ⟨.mov (.t 4), (some 15), none, []⟩ :: L131_9
theorem v131_10 : VS L131_10.eq_1 := rfl
def L131_11 : List AStep := [⟨.mov (.t 13), (some 4), none, []⟩]
theorem v131_11 : VS L131_11.eq_1 := rfl
def L131_12 : List AStep := ⟨.mov (.t 4), (some 12), none, []⟩ :: ⟨.bin .add (.t 12) (.c (.int .i64 1)), (some 13), none, []⟩ :: L131_11
theorem v131_12 : VS L131_12.eq_1 := rfl
def L131_13 : List AStep := [⟨.mov (.t 3), (some 22), none, []⟩, ⟨.mov (.t 22), (some 2), none, []⟩]
theorem v131_13 : VS L131_13.eq_1 := rfl
def C131_0 : ACode := .cond (.t 11) .skip (.exit 0)
theorem u131_0 : VC C131_0.eq_1 := rfl
def C131_1 : ACode := .seq (.reg L131_5) C131_0
theorem u131_1 : VC C131_1.eq_1 := rfl
def C131_2 : ACode := .block 1 (.reg L131_10)
theorem u131_2 : VC C131_2.eq_1 := rfl
def C131_3 : ACode := .seq C131_2 (.reg L131_12)
theorem u131_3 : VC C131_3.eq_1 := rfl
def C131_4 : ACode := .seq C131_1 C131_3
theorem u131_4 : VC C131_4.eq_1 := rfl
def C131_5 : ACode := .block 0 (.loop C131_4)
theorem u131_5 : VC C131_5.eq_1 := rfl
def C131_6 : ACode := .seq (.reg L131_3) C131_5
theorem u131_6 : VC C131_6.eq_1 := rfl
def C131_7 : ACode := .seq (.reg L131_13) .ret
theorem u131_7 : VC C131_7.eq_1 := rfl
def C131_8 : ACode := .seq C131_6 C131_7
theorem u131_8 : VC C131_8.eq_1 := rfl
def C131_9 : ACode := .seq (.reg L131_2) C131_8
theorem u131_9 : VC C131_9.eq_1 := rfl
def C131_10 : ACode := .seq (.reg L131_0) C131_9
theorem u131_10 : VC C131_10.eq_1 := rfl
def F131 : AFunc := ⟨23, [.tmp 2], C131_10⟩
theorem cF131 : compB Try.prog 131 = some F131 := by kernel_rfl
attribute [local go_sem ↓] u131_0 u131_1 u131_2 u131_3 u131_4 u131_5 u131_6 u131_7 u131_8 u131_9 u131_10 v131_0 v131_1 v131_2 v131_3 v131_4 v131_5 v131_6 v131_7 v131_8 v131_9 v131_10 v131_11 v131_12 v131_13
theorem c_toPlaceS {t1 : Nat} (l : List Place) (v : AV) (h : H) (hl : Sl encL 2 t1 h v l) (hn : l.length ≤ 1048576) : callK (bm Try.prog 131 [v] h) fun r h' => Grow h h' ∧ NwL h h' r l := by
  refine bm_of cF131 ?_
  simp +contextual (maxSteps := 2000000) only [go_sem, Nat.reduceEqDiff, reduceCtorEq, Nat.reduceAdd, Nat.reduceLeDiff, F131, hl.len]
  refine wp_make (enc := encL) (k := 2) (⟨false, 0⟩ : Place) rfl (by omega) (by omega) ?_
  intro h1 o g1 n1 _
  simp +contextual (maxSteps := 2000000) only [go_sem, Nat.reduceEqDiff, reduceCtorEq, Nat.reduceAdd, Nat.reduceLeDiff]
  refine wpC_loop (fun i T L h' => Grow h h' ∧ T 0 = .v v ∧ T 3 = .v o ∧ T 4 = .v (.one (.int .i64 i)) ∧ NwL h h' o (fillL l (⟨false, 0⟩ : Place) i)) l.length ?_ ?_ (Nat.zero_le _) ?_
  · rintro i T L h' hi ⟨g, t0, t3, t4, no⟩
    have hl := (‹Sl encL 2 t1 h v l›).grow g
    have hio : i < (fillL l (⟨false, 0⟩ : Place) i).length := by rw [fillL_len (by omega)]; exact hi
    simp +contextual (maxSteps := 2000000) only [go_sem, Nat.reduceEqDiff, reduceCtorEq, Nat.reduceAdd, Nat.reduceLeDiff, t0, t3, t4, hl.len, hl.iaddr hi, hl.whole hi, no.iaddr hio, lt_true hi, c_toPlace]
    refine wp_setE (x := l[i]) lenL no hio rfl rfl g ?_
    intro h2 g2 n2 _
    simp +contextual (maxSteps := 2000000) only [go_sem, Nat.reduceEqDiff, reduceCtorEq, Nat.reduceAdd, Nat.reduceLeDiff, t0, t3, t4]
    rw [fillL_set hi] at n2
    exact ⟨g2, by rw [wrap_next hi (by omega)], n2⟩
  · rintro T L h' ⟨g, t0, t3, t4, no⟩
    have hl := (‹Sl encL 2 t1 h v l›).grow g
    simp +contextual (maxSteps := 2000000) only [go_sem, Nat.reduceEqDiff, reduceCtorEq, Nat.reduceAdd, Nat.reduceLeDiff, t0, t3, t4, hl.len, lt_false]
    rw [fillL_all] at no
    exact gcK_of ⟨g, no⟩ (fun hs _ => ⟨Grow.refl h, no.scalar hs h⟩)
  · simp +contextual (maxSteps := 2000000) only [go_sem, Nat.reduceEqDiff, reduceCtorEq, Nat.reduceAdd, Nat.reduceLeDiff]
    exact ⟨g1, rfl, by rw [fillL_zero]; exact n1⟩
/-! laws.markPairS -/
def L113_0 : List AStep := [⟨.mov (.c (.int .i64 0)), (some 4), none, []⟩]
theorem v113_0 : VS L113_0.eq_1 := rfl
def L113_1 : List AStep := [⟨.mov (.c (.int .i64 0)), (some 5), none, []⟩]
theorem v113_1 : VS L113_1.eq_1 := rfl
def L113_2 : List AStep := [⟨.len (.t 7), (some 8), none, []⟩, ⟨.bin .lss (.t 6) (.t 8), (some 9), none, []⟩]
theorem v113_2 : VS L113_2.eq_1 := rfl
def L113_3 : List AStep := ⟨.mov (.t 5), (some 6), none, []⟩ :: ⟨.mov (.t 0), (some 7), none, []⟩ :: L113_2
theorem v113_3 : VS L113_3.eq_1 := rfl
def L113_4 : List AStep := [⟨.store 1 (.t 17) (.t 15), none, none, []⟩]
theorem v113_4 : VS L113_4.eq_1 := rfl
def L113_5 : List AStep := ⟨.iaddr 2 (.t 12) (.t 13), (some 16), none, []⟩ :: ⟨.faddr 0 (.t 16), (some 17), none, []⟩ :: L113_4
theorem v113_5 : VS L113_5.eq_1 := rfl
def L113_6 : List AStep := ⟨.mov (.t 1), (some 14), none, []⟩ :: ⟨.call 143 [(.t 14)], (some 15), none, []⟩ :: L113_5
theorem v113_6 : VS L113_6.eq_1 := rfl
def L113_7 : List AStep := ⟨.mov (.t 0), (some 12), none, []⟩ :: ⟨.mov (.t 5), (some 13), none, []⟩ :: L113_6
theorem v113_7 : VS L113_7.eq_1 := rfl
def L113_8 : List AStep := [⟨.mov (.t 19), (some 1), none, []⟩]
theorem v113_8 : VS L113_8.eq_1 := rfl
def L113_9 : List AStep := ⟨.mov (.t 1), (some 18), none, []⟩ :: ⟨.bin .add (.t 18) (.c (.int .i64 1)), (some 19), none, []⟩ :: L113_8
theorem v113_9 : VS L113_9.eq_1 := rfl
def L113_10 : List AStep := [⟨.faddr 1 (.t 23), (some 24), none, []⟩, ⟨.store 1 (.t 24) (.t 22), none, none, []⟩]
theorem v113_10 : VS L113_10.eq_1 := rfl
def L113_11 : List AStep := ⟨.mov (.t 1), (some 22), none, []⟩ :: ⟨.iaddr 2 (.t 20) (.t 21), (some 23), none, []⟩ :: L113_10
theorem v113_11 : VS L113_11.eq_1 := rfl
def L113_12 : List AStep := ⟨.mov (.t 0), (some 20), none, []⟩ :: ⟨.mov (.t 5), (some 21), none, []⟩ :: L113_11
theorem v113_12 : VS L113_12.eq_1 := rfl
def L113_13 : List AStep := [⟨.mov (.t 26), (some 1), none, []⟩]
theorem v113_13 : VS L113_13.eq_1 := rfl
def L113_14 : List AStep := ⟨.mov (.t 1), (some 25), none, []⟩ :: ⟨.bin .add (.t 25) (.c (.int .i64 1)), (some 26), none, []⟩ :: L113_13
theorem v113_14 : VS L113_14.eq_1 := rfl
def L113_15 : List AStep := [⟨.mov (.t 11), (some 5), none, []⟩]
theorem v113_15 : VS L113_15.eq_1 := rfl
def L113_16 : List AStep := ⟨.mov (.t 5), (some 10), none, []⟩ :: ⟨.bin .add (.t 10) (.c (.int .i64 1)), (some 11), none, []⟩ :: L113_15
theorem v113_16 : VS L113_16.eq_1 := rfl
def L113_17 : List AStep := [⟨.mov (.t 1), (some 27), none, []⟩, ⟨.mov (.t 27), (some 4), none, []⟩]
theorem v113_17 : VS L113_17.eq_1 := rfl
def C113_0 : ACode := .cond (.t 9) .skip (.exit 0)
theorem u113_0 : VC C113_0.eq_1 := rfl
def C113_1 : ACode := .seq (.reg L113_3) C113_0
theorem u113_1 : VC C113_1.eq_1 := rfl
def C113_2 : ACode := .seq (.reg L113_12) (.reg L113_14)
theorem u113_2 : VC C113_2.eq_1 := rfl
def C113_3 : ACode := .seq (.reg L113_9) C113_2
theorem u113_3 : VC C113_3.eq_1 := rfl
def C113_4 : ACode := .seq (.reg L113_7) C113_3
theorem u113_4 : VC C113_4.eq_1 := rfl
def C113_5 : ACode := .block 1 C113_4
theorem u113_5 : VC C113_5.eq_1 := rfl
def C113_6 : ACode := .seq C113_5 (.reg L113_16)
theorem u113_6 : VC C113_6.eq_1 := rfl
def C113_7 : ACode := .seq C113_1 C113_6
theorem u113_7 : VC C113_7.eq_1 := rfl
def C113_8 : ACode := .block 0 (.loop C113_7)
theorem u113_8 : VC C113_8.eq_1 := rfl
def C113_9 : ACode := .seq (.reg L113_1) C113_8
theorem u113_9 : VC C113_9.eq_1 := rfl
def C113_10 : ACode := .seq (.reg L113_17) .ret
theorem u113_10 : VC C113_10.eq_1 := rfl
def C113_11 : ACode := .seq C113_9 C113_10
theorem u113_11 : VC C113_11.eq_1 := rfl
def C113_12 : ACode := .seq (.reg L113_0) C113_11
theorem u113_12 : VC C113_12.eq_1 := rfl
def F113 : AFunc := ⟨28, [.tmp 4], C113_12⟩
theorem cF113 : compB Try.prog 113 = some F113 := by kernel_rfl
attribute [local go_sem ↓] u113_0 u113_1 u113_2 u113_3 u113_4 u113_5 u113_6 u113_7 u113_8 u113_9 u113_10 u113_11 u113_12 v113_0 v113_1 v113_2 v113_3 v113_4 v113_5 v113_6 v113_7 v113_8 v113_9 v113_10 v113_11 v113_12 v113_13 v113_14 v113_15 v113_16 v113_17
theorem c_markPairS (l : List Pair) (v : AV) (k : Int) (h0 h : H) (hl : NwP h0 h v l) (g : Grow h0 h) (k1 : 0 ≤ k) (k2 : k ≤ 2 ^ 40) (hn : l.length ≤ 2 ^ 30) :
    callK (bm Try.prog 113 [v, .one (.int .i64 k)] h) fun r h' => r = ii (k + ((2 * l.length : Nat) : Int)) ∧ Grow h0 h' ∧ NwP h0 h' v (markL mkP 2 k l.length) ∧ Stay v h h' := by
  refine bm_of cF113 ?_
  simp +contextual (maxSteps := 2000000) only [go_sem, Nat.reduceEqDiff, reduceCtorEq, Nat.reduceAdd, Nat.reduceLeDiff, F113]
  refine wpC_loop (fun i T L h' => Grow h0 h' ∧ T 0 = .v v ∧ T 1 = .v (.one (.int .i64 (k + ((2 * i : Nat) : Int)))) ∧ T 5 = .v (.one (.int .i64 i)) ∧ NwP h0 h' v (markT mkP 2 k l i) ∧ Stay v h h') l.length ?_ ?_ (Nat.zero_le _) ?_
  · rintro i T L h' hi ⟨g, t0, t1, t5, no, st⟩
    have hlen : (markT mkP 2 k l i).length = l.length := markT_len (by omega)
    have hio : i < (markT mkP 2 k l i).length := by omega
    have hln := no.length
    rw [hlen] at hln
    have hia := no.iaddr hio (kd := .i64)
    have wr1 : IntKind.i64.wrap ((k + ((2 * i : Nat) : Int)) + 1) = (k + ((2 * i : Nat) : Int) + 1) := (i64_wrap (by omega) (by omega)).trans (by omega)
    have wr2 : IntKind.i64.wrap ((k + ((2 * i : Nat) : Int) + 1) + 1) = (k + ((2 * i : Nat) : Int) + 2) := (i64_wrap (by omega) (by omega)).trans (by omega)
    simp +contextual (maxSteps := 2000000) only [go_sem, Nat.reduceEqDiff, reduceCtorEq, Nat.reduceAdd, Nat.reduceLeDiff, t0, t1, t5, hln, hia, lt_true hi, wr1, wr2, c_markText (k + ((2 * i : Nat) : Int)) _ (by omega)]
    refine wp_set (x := (⟨mtxt (k + ((2 * i : Nat) : Int)), (markT mkP 2 k l i)[i].value⟩ : Pair)) (off := 0) (vs := [.str (mtxt (k + ((2 * i : Nat) : Int)))]) lenP no (by first | exact hio | (simp only [List.length_set]; exact hio)) rfl (by simp [encP, List.getElem_set_self]) (Nat.le_of_ble_eq_true rfl) g ?_
    intro h2 g2 n2 s2
    try rw [List.set_set] at n2
    simp +contextual (maxSteps := 2000000) only [go_sem, Nat.reduceEqDiff, reduceCtorEq, Nat.reduceAdd, Nat.reduceLeDiff, t0, t1, t5, hln, hia, wr1, wr2, c_markText (k + ((2 * i : Nat) : Int)) _ (by omega)]
    refine wp_set (x := (⟨mtxt (k + ((2 * i : Nat) : Int)), (k + ((2 * i : Nat) : Int) + 1)⟩ : Pair)) (off := 1) (vs := [.int .i64 (k + ((2 * i : Nat) : Int) + 1)]) lenP n2 (by first | exact hio | (simp only [List.length_set]; exact hio)) rfl (by simp [encP, List.getElem_set_self]) (Nat.le_of_ble_eq_true rfl) g2 ?_
    intro h3 g3 n3 s3
    try rw [List.set_set] at n3
    simp +contextual (maxSteps := 2000000) only [go_sem, Nat.reduceEqDiff, reduceCtorEq, Nat.reduceAdd, Nat.reduceLeDiff, t0, t1, t5, hln, hia, wr1, wr2, c_markText (k + ((2 * i : Nat) : Int)) _ (by omega)]
    have e : (markT mkP 2 k l i).set i (mkP (k + ((2 * i : Nat) : Int))) = markT mkP 2 k l (i + 1) := markT_set hi
    have n4 : NwP h0 h3 v (markT mkP 2 k l (i + 1)) := by rw [← e]; exact n3
    refine ⟨g3, by rw [show k + ((2 * (i + 1) : Nat) : Int) = (k + ((2 * i : Nat) : Int) + 2) by omega], by rw [wrap_next hi (by omega)], n4, ((st.trans s2).trans s3)⟩
  · rintro T L h' ⟨g, t0, t1, t5, no, st⟩
    have hln := no.length
    rw [markT_len (Nat.le_refl _)] at hln
    simp +contextual (maxSteps := 2000000) only [go_sem, Nat.reduceEqDiff, reduceCtorEq, Nat.reduceAdd, Nat.reduceLeDiff, t0, t1, t5, hln, lt_false]
    rw [markT_all] at no
    exact gcK_of ⟨rfl, g, no, st⟩ (fun _ gg => ⟨rfl, ‹Grow h0 h›, no.back hl gg, (Grow.refl h).stay v⟩)
  · simp +contextual (maxSteps := 2000000) only [go_sem, Nat.reduceEqDiff, reduceCtorEq, Nat.reduceAdd, Nat.reduceLeDiff]
    exact ⟨g, by simp, rfl, by rw [markT_zero]; exact hl, (Grow.refl h).stay v⟩
/-! laws.heldPairS -/
def L120_0 : List AStep := [⟨.mov (.c (.int .i64 0)), (some 4), none, []⟩]
theorem v120_0 : VS L120_0.eq_1 := rfl
def L120_1 : List AStep := [⟨.mov (.c (.int .i64 0)), (some 5), none, []⟩]
theorem v120_1 : VS L120_1.eq_1 := rfl
def L120_2 : List AStep := [⟨.len (.t 7), (some 8), none, []⟩, ⟨.bin .lss (.t 6) (.t 8), (some 9), none, []⟩]
theorem v120_2 : VS L120_2.eq_1 := rfl
def L120_3 : List AStep := ⟨.mov (.t 5), (some 6), none, []⟩ :: ⟨.mov (.t 0), (some 7), none, []⟩ :: L120_2
theorem v120_3 : VS L120_3.eq_1 := rfl
def L120_4 : List AStep := [⟨.call 143 [(.t 17)], (some 18), none, [(.load 1 false (.t 15), (some 16), none)]⟩, ⟨.bin .neq (.t 16) (.t 18), (some 19), none, []⟩]
theorem v120_4 : VS L120_4.eq_1 := rfl
def L120_5 : List AStep := ⟨.load 1 false (.t 15), (some 16), none, []⟩ :: ⟨.mov (.t 1), (some 17), none, []⟩ :: L120_4
theorem v120_5 : VS L120_5.eq_1 := rfl
def L120_6 : List AStep := ⟨.iaddr 2 (.t 12) (.t 13), (some 14), none, []⟩ :: ⟨.faddr 0 (.t 14), (some 15), none, []⟩ :: L120_5
theorem v120_6 : VS L120_6.eq_1 := rfl
def L120_7 : List AStep := ⟨.mov (.t 0), (some 12), none, []⟩ :: ⟨.mov (.t 5), (some 13), none, []⟩ :: L120_6
theorem v120_7 : VS L120_7.eq_1 := rfl
def L120_8 : List AStep := [⟨.mov (.c (.int .i64 (-1))), (some 4), none, []⟩]
theorem v120_8 : VS L120_8.eq_1 := rfl
def L120_9 : List AStep := [⟨.mov (.t 21), (some 1), none, []⟩]
theorem v120_9 : VS L120_9.eq_1 := rfl
def L120_10 : List AStep := ⟨.mov (.t 1), (some 20), none, []⟩ :: ⟨.bin .add (.t 20) (.c (.int .i64 1)), (some 21), none, []⟩ :: L120_9
theorem v120_10 : VS L120_10.eq_1 := rfl
def L120_11 : List AStep := [⟨.bin .neq (.t 26) (.t 27), (some 28), none, []⟩]
theorem v120_11 : VS L120_11.eq_1 := rfl
def L120_12 : List AStep := ⟨.load 1 false (.t 25), (some 26), none, []⟩ :: ⟨.mov (.t 1), (some 27), none, []⟩ :: L120_11
theorem v120_12 : VS L120_12.eq_1 := rfl
def L120_13 : List AStep := ⟨.iaddr 2 (.t 22) (.t 23), (some 24), none, []⟩ :: ⟨.faddr 1 (.t 24), (some 25), none, []⟩ :: L120_12
theorem v120_13 : VS L120_13.eq_1 := rfl
def L120_14 : List AStep := ⟨.mov (.t 0), (some 22), none, []⟩ :: ⟨.mov (.t 5), (some 23), none, []⟩ :: L120_13
theorem v120_14 : VS L120_14.eq_1 := rfl
def L120_15 : List AStep := [⟨.mov (.c (.int .i64 (-1))), (some 4), none, []⟩]
theorem v120_15 : VS L120_15.eq_1 := rfl
def L120_16 : List AStep := [⟨.mov (.t 30), (some 1), none, []⟩]
theorem v120_16 : VS L120_16.eq_1 := rfl
def L120_17 : List AStep := ⟨.mov (.t 1), (some 29), none, []⟩ :: ⟨.bin .add (.t 29) (.c (.int .i64 1)), (some 30), none, []⟩ :: L120_16
theorem v120_17 : VS L120_17.eq_1 := rfl
def L120_18 : List AStep := [⟨.mov (.t 11), (some 5), none, []⟩]
theorem v120_18 : VS L120_18.eq_1 := rfl
def L120_19 : List AStep := ⟨.mov (.t 5), (some 10), none, []⟩ :: ⟨.bin .add (.t 10) (.c (.int .i64 1)), (some 11), none, []⟩ :: L120_18
theorem v120_19 : VS L120_19.eq_1 := rfl
def L120_20 : List AStep := [⟨.mov (.t 1), (some 31), none, []⟩, ⟨.mov (.t 31), (some 4), none, []⟩]
theorem v120_20 : VS L120_20.eq_1 := rfl
def C120_0 : ACode := .cond (.t 9) .skip (.exit 0)
theorem u120_0 : VC C120_0.eq_1 := rfl
def C120_1 : ACode := .seq (.reg L120_3) C120_0
theorem u120_1 : VC C120_1.eq_1 := rfl
def C120_2 : ACode := .seq (.reg L120_8) .ret
theorem u120_2 : VC C120_2.eq_1 := rfl
def C120_3 : ACode := .cond (.t 19) C120_2 .skip
theorem u120_3 : VC C120_3.eq_1 := rfl
def C120_4 : ACode := .seq (.reg L120_7) C120_3
theorem u120_4 : VC C120_4.eq_1 := rfl
def C120_5 : ACode := .seq (.reg L120_15) .ret
theorem u120_5 : VC C120_5.eq_1 := rfl
def C120_6 : ACode := .cond (.t 28) C120_5 .skip
theorem u120_6 : VC C120_6.eq_1 := rfl
def C120_7 : ACode := .seq (.reg L120_14) C120_6
theorem u120_7 : VC C120_7.eq_1 := rfl
def C120_8 : ACode := .seq C120_7 (.reg L120_17)
theorem u120_8 : VC C120_8.eq_1 := rfl
def C120_9 : ACode := .seq (.reg L120_10) C120_8
theorem u120_9 : VC C120_9.eq_1 := rfl
def C120_10 : ACode := .seq C120_4 C120_9
theorem u120_10 : VC C120_10.eq_1 := rfl
def C120_11 : ACode := .block 1 C120_10
theorem u120_11 : VC C120_11.eq_1 := rfl
def C120_12 : ACode := .seq C120_11 (.reg L120_19)
theorem u120_12 : VC C120_12.eq_1 := rfl
def C120_13 : ACode := .seq C120_1 C120_12
theorem u120_13 : VC C120_13.eq_1 := rfl
def C120_14 : ACode := .block 0 (.loop C120_13)
theorem u120_14 : VC C120_14.eq_1 := rfl
def C120_15 : ACode := .seq (.reg L120_1) C120_14
theorem u120_15 : VC C120_15.eq_1 := rfl
def C120_16 : ACode := .seq (.reg L120_20) .ret
theorem u120_16 : VC C120_16.eq_1 := rfl
def C120_17 : ACode := .seq C120_15 C120_16
theorem u120_17 : VC C120_17.eq_1 := rfl
def C120_18 : ACode := .seq (.reg L120_0) C120_17
theorem u120_18 : VC C120_18.eq_1 := rfl
def F120 : AFunc := ⟨32, [.tmp 4], C120_18⟩
theorem cF120 : compB Try.prog 120 = some F120 := by kernel_rfl
attribute [local go_sem ↓] u120_0 u120_1 u120_2 u120_3 u120_4 u120_5 u120_6 u120_7 u120_8 u120_9 u120_10 u120_11 u120_12 u120_13 u120_14 u120_15 u120_16 u120_17 u120_18 v120_0 v120_1 v120_2 v120_3 v120_4 v120_5 v120_6 v120_7 v120_8 v120_9 v120_10 v120_11 v120_12 v120_13 v120_14 v120_15 v120_16 v120_17 v120_18 v120_19 v120_20
theorem c_heldPairS (n : Nat) (v : AV) (k : Int) (h : H) (hl : SlP h v (markL mkP 2 k n)) (k1 : 0 ≤ k) (k2 : k ≤ 2 ^ 40) (hn : n ≤ 2 ^ 30) :
    bm Try.prog 120 [v, .one (.int .i64 k)] h = some (ii (k + ((2 * n : Nat) : Int)), h) := by
  refine bm_eq cF120 ?_
  have hlen := hl.len
  rw [markL_len] at hlen
  simp +contextual (maxSteps := 2000000) only [go_sem, Nat.reduceEqDiff, reduceCtorEq, Nat.reduceAdd, Nat.reduceLeDiff, F120]
  refine wpC_loop (fun i T L h' => h' = h ∧ T 0 = .v v ∧ T 1 = .v (.one (.int .i64 (k + ((2 * i : Nat) : Int)))) ∧ T 5 = .v (.one (.int .i64 i))) n ?_ ?_ (Nat.zero_le _) ?_
  · rintro i T L h' hi ⟨rfl, t0, t1, t5⟩
    have hio : i < (markL mkP 2 k n).length := by rw [markL_len]; exact hi
    have hat := markL_at hio
    have hia := hl.iaddr hio (kd := .i64)
    have hf : ∀ off : Nat, off + 1 ≤ 2 → _ := fun off ho => hl.fieldO (off := off) hio ho
    rw [hat] at hf
    have h0 := hl.field0 (c := .str (mtxt (k + ((2 * i : Nat) : Int)))) hio (by rw [hat]; rfl)
    have wr1 : IntKind.i64.wrap ((k + ((2 * i : Nat) : Int)) + 1) = (k + ((2 * i : Nat) : Int) + 1) := (i64_wrap (by omega) (by omega)).trans (by omega)
    have wr2 : IntKind.i64.wrap ((k + ((2 * i : Nat) : Int) + 1) + 1) = (k + ((2 * i : Nat) : Int) + 2) := (i64_wrap (by omega) (by omega)).trans (by omega)
    simp +contextual (maxSteps := 2000000) only [go_sem, Nat.reduceEqDiff, reduceCtorEq, Nat.reduceAdd, Nat.reduceLeDiff, t0, t1, t5, hlen, hia, hf, h0, lt_true hi, decide_true, mkP, mBool, wr1, wr2, c_markText (k + ((2 * i : Nat) : Int)) _ (by omega)]
    rw [show k + ((2 * (i + 1) : Nat) : Int) = (k + ((2 * i : Nat) : Int) + 2) by omega, wrap_next hi (by omega)]
    try exact ⟨rfl, rfl⟩
  · rintro T L h' ⟨rfl, t0, t1, t5⟩
    simp +contextual (maxSteps := 2000000) only [go_sem, Nat.reduceEqDiff, reduceCtorEq, Nat.reduceAdd, Nat.reduceLeDiff, t0, t1, t5, hlen, lt_false]
  · simp +contextual (maxSteps := 2000000) only [go_sem, Nat.reduceEqDiff, reduceCtorEq, Nat.reduceAdd, Nat.reduceLeDiff]
    simp
/-! laws.markPlaceS -/
def L133_0 : List AStep := [⟨.mov (.c (.int .i64 0)), (some 4), none, []⟩]
theorem v133_0 : VS L133_0.eq_1 := rfl
def L133_1 : List AStep := [⟨.mov (.c (.int .i64 0)), (some 5), none, []⟩]
theorem v133_1 : VS L133_1.eq_1 := rfl
def L133_2 : List AStep := [⟨.len (.t 7), (some 8), none, []⟩, ⟨.bin .lss (.t 6) (.t 8), (some 9), none, []⟩]
theorem v133_2 : VS L133_2.eq_1 := rfl
def L133_3 : List AStep := ⟨.mov (.t 5), (some 6), none, []⟩ :: ⟨.mov (.t 0), (some 7), none, []⟩ :: L133_2
theorem v133_3 : VS L133_3.eq_1 := rfl
def L133_4 : List AStep := [⟨.faddr 0 (.t 17), (some 18), none, []⟩, ⟨.store 1 (.t 18) (.t 16), none, none, []⟩]
theorem v133_4 : VS L133_4.eq_1 := rfl
def L133_5 : List AStep := ⟨.bin .eql (.t 15) (.c (.int .i64 0)), (some 16), none, []⟩ :: ⟨.iaddr 2 (.t 12) (.t 13), (some 17), none, []⟩ :: L133_4
theorem v133_5 : VS L133_5.eq_1 := rfl
def L133_6 : List AStep := ⟨.mov (.t 1), (some 14), none, []⟩ :: ⟨.bin .rem (.t 14) (.c (.int .i64 3)), (some 15), none, []⟩ :: L133_5
theorem v133_6 : VS L133_6.eq_1 := rfl
def L133_7 : List AStep := ⟨.mov (.t 0), (some 12), none, []⟩ :: ⟨.mov (.t 5), (some 13), none, []⟩ :: L133_6
theorem v133_7 : VS L133_7.eq_1 := rfl
def L133_8 : List AStep := [⟨.mov (.t 20), (some 1), none, []⟩]
theorem v133_8 : VS L133_8.eq_1 := rfl
def L133_9 : List AStep := ⟨.mov (.t 1), (some 19), none, []⟩ :: ⟨.bin .add (.t 19) (.c (.int .i64 1)), (some 20), none, []⟩ :: L133_8
theorem v133_9 : VS L133_9.eq_1 := rfl
def L133_10 : List AStep := [⟨.faddr 1 (.t 24), (some 25), none, []⟩, ⟨.store 1 (.t 25) (.t 23), none, none, []⟩]
theorem v133_10 : VS L133_10.eq_1 := rfl
def L133_11 : List AStep := ⟨.mov (.t 1), (some 23), none, []⟩ :: ⟨.iaddr 2 (.t 21) (.t 22), (some 24), none, []⟩ :: L133_10
theorem v133_11 : VS L133_11.eq_1 := rfl
def L133_12 : List AStep := ⟨.mov (.t 0), (some 21), none, []⟩ :: ⟨.mov (.t 5), (some 22), none, []⟩ :: L133_11
theorem v133_12 : VS L133_12.eq_1 := rfl
def L133_13 : List AStep := [⟨.mov (.t 27), (some 1), none, []⟩]
theorem v133_13 : VS L133_13.eq_1 := rfl
def L133_14 : List AStep := ⟨.mov (.t 1), (some 26), none, []⟩ :: ⟨.bin .add (.t 26) (.c (.int .i64 1)), (some 27), none, []⟩ :: L133_13
theorem v133_14 : VS L133_14.eq_1 := rfl
def L133_15 : List AStep := [⟨.mov (.t 11), (some 5), none, []⟩]
theorem v133_15 : VS L133_15.eq_1 := rfl
def L133_16 : List AStep := ⟨.mov (.t 5), (some 10), none, []⟩ :: ⟨.bin .add (.t 10) (.c (.int .i64 1)), (some 11), none, []⟩ :: L133_15
theorem v133_16 : VS L133_16.eq_1 := rfl
def L133_17 : List AStep := [⟨.mov (.t 1), (some 28), none, []⟩, ⟨.mov (.t 28), (some 4), none, []⟩]
theorem v133_17 : VS L133_17.eq_1 := rfl
def C133_0 : ACode := .cond (.t 9) .skip (.exit 0)
theorem u133_0 : VC C133_0.eq_1 := rfl
def C133_1 : ACode := .seq (.reg L133_3) C133_0
theorem u133_1 : VC C133_1.eq_1 := rfl
def C133_2 : ACode := .seq (.reg L133_12) (.reg L133_14)
theorem u133_2 : VC C133_2.eq_1 := rfl
def C133_3 : ACode := .seq (.reg L133_9) C133_2
theorem u133_3 : VC C133_3.eq_1 := rfl
def C133_4 : ACode := .seq (.reg L133_7) C133_3
theorem u133_4 : VC C133_4.eq_1 := rfl
def C133_5 : ACode := .block 1 C133_4
theorem u133_5 : VC C133_5.eq_1 := rfl
def C133_6 : ACode := .seq C133_5 (.reg L133_16)
theorem u133_6 : VC C133_6.eq_1 := rfl
def C133_7 : ACode := .seq C133_1 C133_6
theorem u133_7 : VC C133_7.eq_1 := rfl
def C133_8 : ACode := .block 0 (.loop C133_7)
theorem u133_8 : VC C133_8.eq_1 := rfl
def C133_9 : ACode := .seq (.reg L133_1) C133_8
theorem u133_9 : VC C133_9.eq_1 := rfl
def C133_10 : ACode := .seq (.reg L133_17) .ret
theorem u133_10 : VC C133_10.eq_1 := rfl
def C133_11 : ACode := .seq C133_9 C133_10
theorem u133_11 : VC C133_11.eq_1 := rfl
def C133_12 : ACode := .seq (.reg L133_0) C133_11
theorem u133_12 : VC C133_12.eq_1 := rfl
def F133 : AFunc := ⟨29, [.tmp 4], C133_12⟩
theorem cF133 : compB Try.prog 133 = some F133 := by kernel_rfl
attribute [local go_sem ↓] u133_0 u133_1 u133_2 u133_3 u133_4 u133_5 u133_6 u133_7 u133_8 u133_9 u133_10 u133_11 u133_12 v133_0 v133_1 v133_2 v133_3 v133_4 v133_5 v133_6 v133_7 v133_8 v133_9 v133_10 v133_11 v133_12 v133_13 v133_14 v133_15 v133_16 v133_17
theorem c_markPlaceS (l : List Place) (v : AV) (k : Int) (h0 h : H) (hl : NwL h0 h v l) (g : Grow h0 h) (k1 : 0 ≤ k) (k2 : k ≤ 2 ^ 40) (hn : l.length ≤ 2 ^ 30) :
    callK (bm Try.prog 133 [v, .one (.int .i64 k)] h) fun r h' => r = ii (k + ((2 * l.length : Nat) : Int)) ∧ Grow h0 h' ∧ NwL h0 h' v (markL mkL 2 k l.length) ∧ Stay v h h' := by
  refine bm_of cF133 ?_
  simp +contextual (maxSteps := 2000000) only [go_sem, Nat.reduceEqDiff, reduceCtorEq, Nat.reduceAdd, Nat.reduceLeDiff, F133]
  refine wpC_loop (fun i T L h' => Grow h0 h' ∧ T 0 = .v v ∧ T 1 = .v (.one (.int .i64 (k + ((2 * i : Nat) : Int)))) ∧ T 5 = .v (.one (.int .i64 i)) ∧ NwL h0 h' v (markT mkL 2 k l i) ∧ Stay v h h') l.length ?_ ?_ (Nat.zero_le _) ?_
  · rintro i T L h' hi ⟨g, t0, t1, t5, no, st⟩
    have hlen : (markT mkL 2 k l i).length = l.length := markT_len (by omega)
    have hio : i < (markT mkL 2 k l i).length := by omega
    have hln := no.length
    rw [hlen] at hln
    have hia := no.iaddr hio (kd := .i64)
    have wr1 : IntKind.i64.wrap ((k + ((2 * i : Nat) : Int)) + 1) = (k + ((2 * i : Nat) : Int) + 1) := (i64_wrap (by omega) (by omega)).trans (by omega)
    have wr2 : IntKind.i64.wrap ((k + ((2 * i : Nat) : Int) + 1) + 1) = (k + ((2 * i : Nat) : Int) + 2) := (i64_wrap (by omega) (by omega)).trans (by omega)
    simp +contextual (maxSteps := 2000000) only [go_sem, Nat.reduceEqDiff, reduceCtorEq, Nat.reduceAdd, Nat.reduceLeDiff, t0, t1, t5, hln, hia, lt_true hi, wr1, wr2, bin_rem (k := .i64) (a := (k + ((2 * i : Nat) : Int))) (b := 3) (by decide)]
    refine wp_set (x := (⟨mBool (k + ((2 * i : Nat) : Int)), (markT mkL 2 k l i)[i].value⟩ : Place)) (off := 0) (vs := [.bool (mBool (k + ((2 * i : Nat) : Int)))]) lenL no (by first | exact hio | (simp only [List.length_set]; exact hio)) rfl (by simp [encL, List.getElem_set_self]) (Nat.le_of_ble_eq_true rfl) g ?_
    intro h2 g2 n2 s2
    try rw [List.set_set] at n2
    simp +contextual (maxSteps := 2000000) only [go_sem, Nat.reduceEqDiff, reduceCtorEq, Nat.reduceAdd, Nat.reduceLeDiff, t0, t1, t5, hln, hia, wr1, wr2, bin_rem (k := .i64) (a := (k + ((2 * i : Nat) : Int))) (b := 3) (by decide)]
    refine wp_set (x := (⟨mBool (k + ((2 * i : Nat) : Int)), (k + ((2 * i : Nat) : Int) + 1)⟩ : Place)) (off := 1) (vs := [.int .i64 (k + ((2 * i : Nat) : Int) + 1)]) lenL n2 (by first | exact hio | (simp only [List.length_set]; exact hio)) rfl (by simp [encL, List.getElem_set_self]) (Nat.le_of_ble_eq_true rfl) g2 ?_
    intro h3 g3 n3 s3
    try rw [List.set_set] at n3
    simp +contextual (maxSteps := 2000000) only [go_sem, Nat.reduceEqDiff, reduceCtorEq, Nat.reduceAdd, Nat.reduceLeDiff, t0, t1, t5, hln, hia, wr1, wr2, bin_rem (k := .i64) (a := (k + ((2 * i : Nat) : Int))) (b := 3) (by decide)]
    have e : (markT mkL 2 k l i).set i (mkL (k + ((2 * i : Nat) : Int))) = markT mkL 2 k l (i + 1) := markT_set hi
    have n4 : NwL h0 h3 v (markT mkL 2 k l (i + 1)) := by rw [← e]; exact n3
    refine ⟨g3, by rw [show k + ((2 * (i + 1) : Nat) : Int) = (k + ((2 * i : Nat) : Int) + 2) by omega], by rw [wrap_next hi (by omega)], n4, ((st.trans s2).trans s3)⟩
  · rintro T L h' ⟨g, t0, t1, t5, no, st⟩
    have hln := no.length
    rw [markT_len (Nat.le_refl _)] at hln
    simp +contextual (maxSteps := 2000000) only [go_sem, Nat.reduceEqDiff, reduceCtorEq, Nat.reduceAdd, Nat.reduceLeDiff, t0, t1, t5, hln, lt_false]
    rw [markT_all] at no
    exact gcK_of ⟨rfl, g, no, st⟩ (fun _ gg => ⟨rfl, ‹Grow h0 h›, no.back hl gg, (Grow.refl h).stay v⟩)
  · simp +contextual (maxSteps := 2000000) only [go_sem, Nat.reduceEqDiff, reduceCtorEq, Nat.reduceAdd, Nat.reduceLeDiff]
    exact ⟨g, by simp, rfl, by rw [markT_zero]; exact hl, (Grow.refl h).stay v⟩
/-! laws.heldPlaceS -/
def L134_0 : List AStep := [⟨.mov (.c (.int .i64 0)), (some 4), none, []⟩]
theorem v134_0 : VS L134_0.eq_1 := rfl
def L134_1 : List AStep := [⟨.mov (.c (.int .i64 0)), (some 5), none, []⟩]
theorem v134_1 : VS L134_1.eq_1 := rfl
def L134_2 : List AStep := [⟨.len (.t 7), (some 8), none, []⟩, ⟨.bin .lss (.t 6) (.t 8), (some 9), none, []⟩]
theorem v134_2 : VS L134_2.eq_1 := rfl
def L134_3 : List AStep := ⟨.mov (.t 5), (some 6), none, []⟩ :: ⟨.mov (.t 0), (some 7), none, []⟩ :: L134_2
theorem v134_3 : VS L134_3.eq_1 := rfl
def L134_4 : List AStep := [⟨.eqb true (.t 16) (.t 19), (some 20), none, []⟩]
theorem v134_4 : VS L134_4.eq_1 := rfl
def L134_5 : List AStep := ⟨.bin .rem (.t 17) (.c (.int .i64 3)), (some 18), none, []⟩ :: ⟨.bin .eql (.t 18) (.c (.int .i64 0)), (some 19), none, []⟩ :: L134_4
theorem v134_5 : VS L134_5.eq_1 := rfl
def L134_6 : List AStep := ⟨.load 1 false (.t 15), (some 16), none, []⟩ :: ⟨.mov (.t 1), (some 17), none, []⟩ :: L134_5
theorem v134_6 : VS L134_6.eq_1 := rfl
def L134_7 : List AStep := ⟨.iaddr 2 (.t 12) (.t 13), (some 14), none, []⟩ :: ⟨.faddr 0 (.t 14), (some 15), none, []⟩ :: L134_6
theorem v134_7 : VS L134_7.eq_1 := rfl
def L134_8 : List AStep := ⟨.mov (.t 0), (some 12), none, []⟩ :: ⟨.mov (.t 5), (some 13), none, []⟩ :: L134_7
theorem v134_8 : VS L134_8.eq_1 := rfl
def L134_9 : List AStep := [⟨.mov (.c (.int .i64 (-1))), (some 4), none, []⟩]
theorem v134_9 : VS L134_9.eq_1 := rfl
def L134_10 : List AStep := [⟨.mov (.t 22), (some 1), none, []⟩]
theorem v134_10 : VS L134_10.eq_1 := rfl
def L134_11 : List AStep := ⟨.mov (.t 1), (some 21), none, []⟩ :: ⟨.bin .add (.t 21) (.c (.int .i64 1)), (some 22), none, []⟩ :: L134_10
theorem v134_11 : VS L134_11.eq_1 := rfl
def L134_12 : List AStep := [⟨.bin .neq (.t 27) (.t 28), (some 29), none, []⟩]
theorem v134_12 : VS L134_12.eq_1 := rfl
def L134_13 : List AStep := ⟨.load 1 false (.t 26), (some 27), none, []⟩ :: ⟨.mov (.t 1), (some 28), none, []⟩ :: L134_12
theorem v134_13 : VS L134_13.eq_1 := rfl
def L134_14 : List AStep := ⟨.iaddr 2 (.t 23) (.t 24), (some 25), none, []⟩ :: ⟨.faddr 1 (.t 25), (some 26), none, []⟩ :: L134_13
theorem v134_14 : VS L134_14.eq_1 := rfl
def L134_15 : List AStep := ⟨.mov (.t 0), (some 23), none, []⟩ :: ⟨.mov (.t 5), (some 24), none, []⟩ :: L134_14
theorem v134_15 : VS L134_15.eq_1 := rfl
def L134_16 : List AStep := [⟨.mov (.c (.int .i64 (-1))), (some 4), none, []⟩]
theorem v134_16 : VS L134_16.eq_1 := rfl
def L134_17 : List AStep := [⟨.mov (.t 31), (some 1), none, []⟩]
theorem v134_17 : VS L134_17.eq_1 := rfl
def L134_18 : List AStep := ⟨.mov (.t 1), (some 30), none, []⟩ :: ⟨.bin .add (.t 30) (.c (.int .i64 1)), (some 31), none, []⟩ :: L134_17
theorem v134_18 : VS L134_18.eq_1 := rfl
def L134_19 : List AStep := [⟨.mov (.t 11), (some 5), none, []⟩]
theorem v134_19 : VS L134_19.eq_1 := rfl
def L134_20 : List AStep := ⟨.mov (.t 5), (some 10), none, []⟩ :: ⟨.bin .add (.t 10) (.c (.int .i64 1)), (some 11), none, []⟩ :: L134_19
theorem v134_20 : VS L134_20.eq_1 := rfl
def L134_21 : List AStep := [⟨.mov (.t 1), (some 32), none, []⟩, ⟨.mov (.t 32), (some 4), none, []⟩]
theorem v134_21 : VS L134_21.eq_1 := rfl
def C134_0 : ACode := .cond (.t 9) .skip (.exit 0)
theorem u134_0 : VC C134_0.eq_1 := rfl
def C134_1 : ACode := .seq (.reg L134_3) C134_0
theorem u134_1 : VC C134_1.eq_1 := rfl
def C134_2 : ACode := .seq (.reg L134_9) .ret
theorem u134_2 : VC C134_2.eq_1 := rfl
def C134_3 : ACode := .cond (.t 20) C134_2 .skip
theorem u134_3 : VC C134_3.eq_1 := rfl
def C134_4 : ACode := .seq (.reg L134_8) C134_3
theorem u134_4 : VC C134_4.eq_1 := rfl
def C134_5 : ACode := .seq (.reg L134_16) .ret
theorem u134_5 : VC C134_5.eq_1 := rfl
def C134_6 : ACode := .cond (.t 29) C134_5 .skip
theorem u134_6 : VC C134_6.eq_1 := rfl
def C134_7 : ACode := .seq (.reg L134_15) C134_6
theorem u134_7 : VC C134_7.eq_1 := rfl
def C134_8 : ACode := .seq C134_7 (.reg L134_18)
theorem u134_8 : VC C134_8.eq_1 := rfl
def C134_9 : ACode := .seq (.reg L134_11) C134_8
theorem u134_9 : VC C134_9.eq_1 := rfl
def C134_10 : ACode := .seq C134_4 C134_9
theorem u134_10 : VC C134_10.eq_1 := rfl
def C134_11 : ACode := .block 1 C134_10
theorem u134_11 : VC C134_11.eq_1 := rfl
def C134_12 : ACode := .seq C134_11 (.reg L134_20)
theorem u134_12 : VC C134_12.eq_1 := rfl
def C134_13 : ACode := .seq C134_1 C134_12
theorem u134_13 : VC C134_13.eq_1 := rfl
def C134_14 : ACode := .block 0 (.loop C134_13)
theorem u134_14 : VC C134_14.eq_1 := rfl
def C134_15 : ACode := .seq (.reg L134_1) C134_14
theorem u134_15 : VC C134_15.eq_1 := rfl
def C134_16 : ACode := .seq (.reg L134_21) .ret
theorem u134_16 : VC C134_16.eq_1 := rfl
def C134_17 : ACode := .seq C134_15 C134_16
theorem u134_17 : VC C134_17.eq_1 := rfl
def C134_18 : ACode := .seq (.reg L134_0) C134_17
theorem u134_18 : VC C134_18.eq_1 := rfl
def F134 : AFunc := ⟨33, [.tmp 4], C134_18⟩
theorem cF134 : compB Try.prog 134 = some F134 := by kernel_rfl
attribute [local go_sem ↓] u134_0 u134_1 u134_2 u134_3 u134_4 u134_5 u134_6 u134_7 u134_8 u134_9 u134_10 u134_11 u134_12 u134_13 u134_14 u134_15 u134_16 u134_17 u134_18 v134_0 v134_1 v134_2 v134_3 v134_4 v134_5 v134_6 v134_7 v134_8 v134_9 v134_10 v134_11 v134_12 v134_13 v134_14 v134_15 v134_16 v134_17 v134_18 v134_19 v134_20 v134_21
theorem c_heldPlaceS (n : Nat) (v : AV) (k : Int) (h : H) (hl : SlL h v (markL mkL 2 k n)) (k1 : 0 ≤ k) (k2 : k ≤ 2 ^ 40) (hn : n ≤ 2 ^ 30) :
    bm Try.prog 134 [v, .one (.int .i64 k)] h = some (ii (k + ((2 * n : Nat) : Int)), h) := by
  refine bm_eq cF134 ?_
  have hlen := hl.len
  rw [markL_len] at hlen
  simp +contextual (maxSteps := 2000000) only [go_sem, Nat.reduceEqDiff, reduceCtorEq, Nat.reduceAdd, Nat.reduceLeDiff, F134]
  refine wpC_loop (fun i T L h' => h' = h ∧ T 0 = .v v ∧ T 1 = .v (.one (.int .i64 (k + ((2 * i : Nat) : Int)))) ∧ T 5 = .v (.one (.int .i64 i))) n ?_ ?_ (Nat.zero_le _) ?_
  · rintro i T L h' hi ⟨rfl, t0, t1, t5⟩
    have hio : i < (markL mkL 2 k n).length := by rw [markL_len]; exact hi
    have hat := markL_at hio
    have hia := hl.iaddr hio (kd := .i64)
    have hf : ∀ off : Nat, off + 1 ≤ 2 → _ := fun off ho => hl.fieldO (off := off) hio ho
    rw [hat] at hf
    have h0 := hl.field0 (c := .bool (mBool (k + ((2 * i : Nat) : Int)))) hio (by rw [hat]; rfl)
    have wr1 : IntKind.i64.wrap ((k + ((2 * i : Nat) : Int)) + 1) = (k + ((2 * i : Nat) : Int) + 1) := (i64_wrap (by omega) (by omega)).trans (by omega)
    have wr2 : IntKind.i64.wrap ((k + ((2 * i : Nat) : Int) + 1) + 1) = (k + ((2 * i : Nat) : Int) + 2) := (i64_wrap (by omega) (by omega)).trans (by omega)
    simp +contextual (maxSteps := 2000000) only [go_sem, Nat.reduceEqDiff, reduceCtorEq, Nat.reduceAdd, Nat.reduceLeDiff, t0, t1, t5, hlen, hia, hf, h0, lt_true hi, decide_true, mkL, mBool, wr1, wr2, bin_rem (k := .i64) (a := (k + ((2 * i : Nat) : Int))) (b := 3) (by decide)]
    rw [show k + ((2 * (i + 1) : Nat) : Int) = (k + ((2 * i : Nat) : Int) + 2) by omega, wrap_next hi (by omega)]
    try exact ⟨rfl, rfl⟩
  · rintro T L h' ⟨rfl, t0, t1, t5⟩
    simp +contextual (maxSteps := 2000000) only [go_sem, Nat.reduceEqDiff, reduceCtorEq, Nat.reduceAdd, Nat.reduceLeDiff, t0, t1, t5, hlen, lt_false]
  · simp +contextual (maxSteps := 2000000) only [go_sem, Nat.reduceEqDiff, reduceCtorEq, Nat.reduceAdd, Nat.reduceLeDiff]
    simp
end Go.Proofs.Ytnphlonhogcedaa.Am
