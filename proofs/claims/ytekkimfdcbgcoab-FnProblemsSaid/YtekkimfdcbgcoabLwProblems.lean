/- The law FnProblems. -/
import Derived.Test.YtekkimfdcbgcoabDT
import Derived.Test.YtekkimfdcbgcoabBK
import Derived.Test.YtekkimfdcbgcoabL1
import Derived.Test.YtekkimfdcbgcoabPM
namespace Go.Proofs.Ytekkimfdcbgcoab.Am
open Go
set_option maxRecDepth 100000
set_option maxHeartbeats 4000000
set_option linter.unusedSimpArgs false
set_option linter.unusedVariables false
attribute [local go_sem ↓] bv_t bv_c ev_t ev_c put_same put_ne put_none kill_at pro_at lb_same lb_ne start_zero start_succ wpC_seq wpC_reg wpC_cond wpC_block wpC_skip wpC_exit wpC_ret thenQ_normal thenQ_exit thenQ_ret inBlk_normal inBlk_exit inBlk_ret wpS_nil wpS_step wpS_again wpS_guard wpO_mov wpO_load wpO_faddr wpO_nilCheck wpO_pick wpO_build wpO_bin wpO_eqb wpO_eqst wpO_eqnil wpO_not wpO_conv wpO_bytesStr wpO_iaddr wpO_idxStr wpO_field wpO_extract wpO_len wpO_lenStr wpO_cap wpO_min wpO_slice wpO_sliceStr wpO_alloc wpO_box wpO_store wpO_call wpO_callv wpO_mkfn wpO_buildSlice wpO_mkslice wpO_append wpO_appz proA_nil proA_cons tmpX_nil tmpX_tmp tmpX_cell doneB_normal doneB_ret agK_cons agK_nil agK_guard agG_tt agG_ff agG_tf agG_ft agG_undef pureB_load results_one results_two results_nil resBs_cons resBs_nil resB_tmp resB_cell
attribute [local go_sem] kill_v kill_lp_ne kill_lp_same pro_v pro_lp_same pro_lp_ne av_v av_lp optB_some optX_some valX_eq ldX_lp ldX_v faX_lp faX_v ncX_lp ncX_ptr ncX_fn boxK_one boxK_agg stL_some stK_lp_one stK_lp_agg stK_v_one stK_v_agg proM_v proM_lp callG_mk callVG_mk callvK_fn fnG_mk ptrsA_nil ptrsA_cons callH_some whenA_true whenA_false guardH_tt guardH_ff guardH_tf guardH_ft guardH_undef agV_one agV_agg lenO_sl lenStrO_str notO_bool pickO_bool convO_int eqbO_bool eqnilO_sl extractO_tup capO_sl minO_int loadL_one loadL_all storeL_eq fillA_nil fillA_one fillA_agg nat_ge neg_ge nat_lt neg_lt buildO bin_add bin_sub bin_mul bin_eql bin_neq bin_lss bin_leq bin_gtr bin_geq str_eql str_neq str_lss str_leq str_gtr str_geq retK_some endK_mk gcK_same gcK_int gcK_bool tupO_one tupO_agg rdy_self ib ii Option.map_none Option.map_some Option.some.injEq exists_eq_left' exists_eq_left ne_eq not_false_eq_true if_true if_false List.map_cons List.map_nil List.getElem?_cons_zero List.getElem?_cons_succ List.length_cons List.length_nil List.take_succ_cons List.take_zero List.take_nil List.drop_succ_cons List.drop_zero List.drop_nil List.cons_append List.nil_append List.append_nil List.set_cons_zero List.set_cons_succ Nat.zero_add forall_const true_and and_true and_self Bool.false_eq_true false_implies true_implies implies_true Bool.not_true Bool.not_false Bool.not_eq_true' Bool.not_eq_false' beq_self_eq_true Bool.bne_true Bool.bne_false
attribute [local go_sem] lenI lenS lenP lenQ lenB lenL lenT encI_0 encS_0 encP_0 encP_1 encQ_0 encQ_1 encQ_2 encQ_3 encB_0 encB_1 encL_0 encL_1 encT_0 encT_1
attribute [local go_sem low] whenA_bool guardH_bool
theorem str_some {a b : ByteArray} (h : 0 < a.size) : decide (a ++ b = strOfNums []) = false := by
  refine decide_eq_false fun e => ?_
  have := congrArg ByteArray.size e
  rw [strOfNums_size, ByteArray.size_append] at this
  simp only [List.length_nil] at this
  omega
/-! impl.ProblemText -/
def L26_0 : List AStep := [⟨.box 52 (.t 0), (some 1), none, []⟩, ⟨.mov (.c (.str (strOfNums []))), (some 2), none, []⟩]
theorem v26_0 : VS L26_0.eq_1 := rfl
def L26_1 : List AStep := [⟨.mov (.t 11), (some 3), none, []⟩]
theorem v26_1 : VS L26_1.eq_1 := rfl
def L26_2 : List AStep := ⟨.bin .eql (.t 9) (.c (.str (strOfNums []))), (some 10), (some (7, true)), []⟩ :: ⟨.pick (.t 7) (.t 10) (.c (.bool false)), (some 11), none, []⟩ :: L26_1
theorem v26_2 : VS L26_2.eq_1 := rfl
def L26_3 : List AStep := ⟨.faddr 1 (.t 1), (some 8), (some (7, true)), []⟩ :: ⟨.load 1 false (.t 8), (some 9), (some (7, true)), []⟩ :: L26_2
theorem v26_3 : VS L26_3.eq_1 := rfl
def L26_4 : List AStep := ⟨.bin .eql (.t 5) (.c (.int .i64 0)), (some 6), none, []⟩ :: ⟨.mov (.t 6), (some 7), none, []⟩ :: L26_3
theorem v26_4 : VS L26_4.eq_1 := rfl
def L26_5 : List AStep := ⟨.faddr 0 (.t 1), (some 4), none, []⟩ :: ⟨.load 1 false (.t 4), (some 5), none, []⟩ :: L26_4
theorem v26_5 : VS L26_5.eq_1 := rfl
def L26_6 : List AStep := [⟨.mov (.c (.str (strOfNums [116, 111, 111, 32, 109, 97, 110, 121, 32, 112, 108, 97, 99, 101, 115]))), (some 2), none, []⟩]
theorem v26_6 : VS L26_6.eq_1 := rfl
def L26_7 : List AStep := [⟨.mov (.t 16), (some 12), none, []⟩]
theorem v26_7 : VS L26_7.eq_1 := rfl
def L26_8 : List AStep := ⟨.call 68 [(.t 14)], (some 15), none, []⟩ :: ⟨.not (.t 15), (some 16), none, []⟩ :: L26_7
theorem v26_8 : VS L26_8.eq_1 := rfl
def L26_9 : List AStep := ⟨.faddr 1 (.t 1), (some 13), none, []⟩ :: ⟨.load 1 false (.t 13), (some 14), none, []⟩ :: L26_8
theorem v26_9 : VS L26_9.eq_1 := rfl
def L26_10 : List AStep := [⟨.mov (.c (.str (strOfNums []))), (some 2), none, []⟩]
theorem v26_10 : VS L26_10.eq_1 := rfl
def L26_11 : List AStep := [⟨.bin .eql (.t 19) (.c (.int .i64 1)), (some 20), none, []⟩, ⟨.mov (.t 20), (some 17), none, []⟩]
theorem v26_11 : VS L26_11.eq_1 := rfl
def L26_12 : List AStep := ⟨.faddr 0 (.t 1), (some 18), none, []⟩ :: ⟨.load 1 false (.t 18), (some 19), none, []⟩ :: L26_11
theorem v26_12 : VS L26_12.eq_1 := rfl
def L26_13 : List AStep := [⟨.bin .add (.c (.str (strOfNums [110, 111, 32]))) (.t 22), (some 23), none, []⟩, ⟨.mov (.t 23), (some 2), none, []⟩]
theorem v26_13 : VS L26_13.eq_1 := rfl
def L26_14 : List AStep := ⟨.faddr 1 (.t 1), (some 21), none, []⟩ :: ⟨.load 1 false (.t 21), (some 22), none, []⟩ :: L26_13
theorem v26_14 : VS L26_14.eq_1 := rfl
def L26_15 : List AStep := [⟨.bin .eql (.t 26) (.c (.int .i64 2)), (some 27), none, []⟩, ⟨.mov (.t 27), (some 24), none, []⟩]
theorem v26_15 : VS L26_15.eq_1 := rfl
def L26_16 : List AStep := ⟨.faddr 0 (.t 1), (some 25), none, []⟩ :: ⟨.load 1 false (.t 25), (some 26), none, []⟩ :: L26_15
theorem v26_16 : VS L26_16.eq_1 := rfl
def L26_17 : List AStep := [⟨.bin .add (.c (.str (strOfNums [116, 119, 105, 99, 101, 32]))) (.t 29), (some 30), none, []⟩, ⟨.mov (.t 30), (some 2), none, []⟩]
theorem v26_17 : VS L26_17.eq_1 := rfl
def L26_18 : List AStep := ⟨.faddr 1 (.t 1), (some 28), none, []⟩ :: ⟨.load 1 false (.t 28), (some 29), none, []⟩ :: L26_17
theorem v26_18 : VS L26_18.eq_1 := rfl
def L26_19 : List AStep := [⟨.bin .eql (.t 33) (.c (.int .i64 3)), (some 34), none, []⟩, ⟨.mov (.t 34), (some 31), none, []⟩]
theorem v26_19 : VS L26_19.eq_1 := rfl
def L26_20 : List AStep := ⟨.faddr 0 (.t 1), (some 32), none, []⟩ :: ⟨.load 1 false (.t 32), (some 33), none, []⟩ :: L26_19
theorem v26_20 : VS L26_20.eq_1 := rfl
def L26_21 : List AStep := [⟨.bin .add (.c (.str (strOfNums [109, 105, 115, 115, 105, 110, 103, 32]))) (.t 36), (some 37), none, []⟩, ⟨.mov (.t 37), (some 2), none, []⟩]
theorem v26_21 : VS L26_21.eq_1 := rfl
def L26_22 : List AStep := ⟨.faddr 1 (.t 1), (some 35), none, []⟩ :: ⟨.load 1 false (.t 35), (some 36), none, []⟩ :: L26_21
theorem v26_22 : VS L26_22.eq_1 := rfl
def L26_23 : List AStep := [⟨.mov (.c (.str (strOfNums []))), (some 2), none, []⟩]
theorem v26_23 : VS L26_23.eq_1 := rfl
def C26_0 : ACode := .seq (.reg L26_6) .ret
theorem u26_0 : VC C26_0.eq_1 := rfl
def C26_1 : ACode := .seq (.reg L26_10) .ret
theorem u26_1 : VC C26_1.eq_1 := rfl
def C26_2 : ACode := .seq (.reg L26_14) .ret
theorem u26_2 : VC C26_2.eq_1 := rfl
def C26_3 : ACode := .seq (.reg L26_18) .ret
theorem u26_3 : VC C26_3.eq_1 := rfl
def C26_4 : ACode := .seq (.reg L26_22) .ret
theorem u26_4 : VC C26_4.eq_1 := rfl
def C26_5 : ACode := .cond (.t 31) C26_4 .skip
theorem u26_5 : VC C26_5.eq_1 := rfl
def C26_6 : ACode := .seq (.reg L26_20) C26_5
theorem u26_6 : VC C26_6.eq_1 := rfl
def C26_7 : ACode := .cond (.t 24) C26_3 C26_6
theorem u26_7 : VC C26_7.eq_1 := rfl
def C26_8 : ACode := .seq (.reg L26_16) C26_7
theorem u26_8 : VC C26_8.eq_1 := rfl
def C26_9 : ACode := .cond (.t 17) C26_2 C26_8
theorem u26_9 : VC C26_9.eq_1 := rfl
def C26_10 : ACode := .seq (.reg L26_12) C26_9
theorem u26_10 : VC C26_10.eq_1 := rfl
def C26_11 : ACode := .cond (.t 12) C26_1 C26_10
theorem u26_11 : VC C26_11.eq_1 := rfl
def C26_12 : ACode := .seq (.reg L26_9) C26_11
theorem u26_12 : VC C26_12.eq_1 := rfl
def C26_13 : ACode := .cond (.t 3) C26_0 C26_12
theorem u26_13 : VC C26_13.eq_1 := rfl
def C26_14 : ACode := .seq (.reg L26_5) C26_13
theorem u26_14 : VC C26_14.eq_1 := rfl
def C26_15 : ACode := .block 0 C26_14
theorem u26_15 : VC C26_15.eq_1 := rfl
def C26_16 : ACode := .seq (.reg L26_23) .ret
theorem u26_16 : VC C26_16.eq_1 := rfl
def C26_17 : ACode := .seq C26_15 C26_16
theorem u26_17 : VC C26_17.eq_1 := rfl
def C26_18 : ACode := .seq (.reg L26_0) C26_17
theorem u26_18 : VC C26_18.eq_1 := rfl
def F26 : AFunc := ⟨38, [.tmp 2], C26_18⟩
theorem cF26 : compB Try.prog 26 = some F26 := by kernel_rfl
attribute [local go_sem ↓] u26_0 u26_1 u26_2 u26_3 u26_4 u26_5 u26_6 u26_7 u26_8 u26_9 u26_10 u26_11 u26_12 u26_13 u26_14 u26_15 u26_16 u26_17 u26_18 v26_0 v26_1 v26_2 v26_3 v26_4 v26_5 v26_6 v26_7 v26_8 v26_9 v26_10 v26_11 v26_12 v26_13 v26_14 v26_15 v26_16 v26_17 v26_18 v26_19 v26_20 v26_21 v26_22 v26_23
theorem c_ProblemText (x : Problem) (h : H) (ok : hasTxt x = true) : ∃ s, bm Try.prog 26 [.agg (encB x)] h = some (.one (.str s), h) ∧ decide (s = strOfNums []) = false := by
  unfold hasTxt at ok
  simp only [Bool.or_eq_true, Bool.and_eq_true, decide_eq_true_iff] at ok
  by_cases hm : x.kind = 0 ∧ x.name = strOfNums []
  · refine ⟨_, bm_eq cF26 (r := .one (.str (strOfNums [116, 111, 111, 32, 109, 97, 110, 121, 32, 112, 108, 97, 99, 101, 115]))) ?_, decide_eq_false fun e => ?_⟩
    · simp +contextual (maxSteps := 2000000) only [go_sem, Nat.reduceEqDiff, reduceCtorEq, Nat.reduceAdd, Nat.reduceLeDiff, F26, decide_eq_true hm.1, decide_eq_true hm.2]
    · have := congrArg ByteArray.size e
      rw [strOfNums_size, strOfNums_size] at this
      simp at this
  · have ok2 := ok.resolve_left hm
    have hs : x.name.size ≤ 6 := by
      have := ok2.1
      unfold okName at this
      simp only [Bool.and_eq_true, decide_eq_true_iff] at this
      omega
    have en := c_isName x.name h (by omega)
    rw [ok2.1] at en
    have k0 : ¬ x.kind = 0 := by rcases ok2.2 with (k | k) | k <;> omega
    rcases ok2.2 with (k | k) | k
    · refine ⟨strOfNums [110, 111, 32] ++ x.name, bm_eq cF26 ?_, str_some (by rw [strOfNums_size]; decide)⟩
      simp +contextual (maxSteps := 2000000) only [go_sem, Nat.reduceEqDiff, reduceCtorEq, Nat.reduceAdd, Nat.reduceLeDiff, F26, decide_eq_false k0, en, decide_eq_true k, str_add (s := strOfNums [110, 111, 32]) (t := x.name) (by rw [strOfNums_size]; simp; omega)]
    · have k1 : ¬ x.kind = 1 := by omega
      refine ⟨strOfNums [116, 119, 105, 99, 101, 32] ++ x.name, bm_eq cF26 ?_, str_some (by rw [strOfNums_size]; decide)⟩
      simp +contextual (maxSteps := 2000000) only [go_sem, Nat.reduceEqDiff, reduceCtorEq, Nat.reduceAdd, Nat.reduceLeDiff, F26, decide_eq_false k0, en, decide_eq_false k1, decide_eq_true k, str_add (s := strOfNums [116, 119, 105, 99, 101, 32]) (t := x.name) (by rw [strOfNums_size]; simp; omega)]
    · have k1 : ¬ x.kind = 1 := by omega
      have k2 : ¬ x.kind = 2 := by omega
      refine ⟨strOfNums [109, 105, 115, 115, 105, 110, 103, 32] ++ x.name, bm_eq cF26 ?_, str_some (by rw [strOfNums_size]; decide)⟩
      simp +contextual (maxSteps := 2000000) only [go_sem, Nat.reduceEqDiff, reduceCtorEq, Nat.reduceAdd, Nat.reduceLeDiff, F26, decide_eq_false k0, en, decide_eq_false k1, decide_eq_false k2, decide_eq_true k, str_add (s := strOfNums [109, 105, 115, 115, 105, 110, 103, 32]) (t := x.name) (by rw [strOfNums_size]; simp; omega)]
theorem problems_len {l : List Param} {f : Flat} : (problemsF l f).length ≤ 100 := by
  unfold problemsF
  split
  · rename_i hf
    obtain ⟨b1, b2⟩ := fits_ok hf
    have h1 := (bound_ok (l := l) b2).bad
    have h2 := missF_len (l := l) (sl := boundS l f) (i := l.length)
    have h3 := okSig_len b1
    have h5 := (okFlat_sm b2).2.1
    simp only [wrong, missing, List.length_append] at h1 ⊢
    omega
  · simp
/-! laws.FnProblems -/
def L5_0 : List AStep := [⟨.mov (.c (.bool false)), (some 2), none, []⟩]
theorem v5_0 : VS L5_0.eq_1 := rfl
def L5_1 : List AStep := [⟨.bin .gtr (.t 9) (.c (.int .i64 1048576)), (some 10), none, []⟩]
theorem v5_1 : VS L5_1.eq_1 := rfl
def L5_2 : List AStep := ⟨.mov (.t 0), (some 8), none, []⟩ :: ⟨.len (.t 8), (some 9), none, []⟩ :: L5_1
theorem v5_2 : VS L5_2.eq_1 := rfl
def L5_3 : List AStep := [⟨.mov (.c (.bool true)), (some 2), none, []⟩]
theorem v5_3 : VS L5_3.eq_1 := rfl
def L5_4 : List AStep := [⟨.store 2 (.t 4) (.t 15), none, none, []⟩]
theorem v5_4 : VS L5_4.eq_1 := rfl
def L5_5 : List AStep := ⟨.alloc 29 [(.sl none 0 (some 0)), (.sl none 0 (some 0))], (some 4), none, []⟩ :: ⟨.store 1 (.t 3) (.t 14), none, none, []⟩ :: L5_4
theorem v5_5 : VS L5_5.eq_1 := rfl
def L5_6 : List AStep := ⟨.extract (.t 11) 1, (some 15), none, []⟩ :: ⟨.alloc 25 [(.sl none 0 (some 0))], (some 3), none, []⟩ :: L5_5
theorem v5_6 : VS L5_6.eq_1 := rfl
def L5_7 : List AStep := ⟨.mov (.t 13), (some 11), none, []⟩ :: ⟨.extract (.t 11) 0, (some 14), none, []⟩ :: L5_6
theorem v5_7 : VS L5_7.eq_1 := rfl
def L5_8 : List AStep := ⟨.mov (.t 0), (some 12), none, []⟩ :: ⟨.call 22 [(.t 12)], (some 13), none, []⟩ :: L5_7
theorem v5_8 : VS L5_8.eq_1 := rfl
def L5_9 : List AStep := [⟨.call 23 [(.t 16), (.t 17)], (some 18), none, []⟩, ⟨.mov (.t 18), (some 5), none, []⟩]
theorem v5_9 : VS L5_9.eq_1 := rfl
def L5_10 : List AStep := ⟨.load 1 true (.t 3), (some 16), none, []⟩ :: ⟨.load 2 true (.t 4), (some 17), none, []⟩ :: L5_9
theorem v5_10 : VS L5_10.eq_1 := rfl
def L5_11 : List AStep := [⟨.pick (.t 25) (.c (.bool true)) (.t 28), (some 29), none, []⟩]
theorem v5_11 : VS L5_11.eq_1 := rfl
def L5_12 : List AStep := ⟨.len (.t 26), (some 27), (some (25, false)), []⟩ :: ⟨.bin .eql (.t 27) (.c (.int .i64 0)), (some 28), (some (25, false)), []⟩ :: L5_11
theorem v5_12 : VS L5_12.eq_1 := rfl
def L5_13 : List AStep := ⟨.mov (.t 24), (some 25), none, []⟩ :: ⟨.mov (.t 5), (some 26), (some (25, false)), []⟩ :: L5_12
theorem v5_13 : VS L5_13.eq_1 := rfl
def L5_14 : List AStep := ⟨.call 24 [(.t 19), (.t 22)], (some 23), none, []⟩ :: ⟨.not (.t 23), (some 24), none, []⟩ :: L5_13
theorem v5_14 : VS L5_14.eq_1 := rfl
def L5_15 : List AStep := ⟨.load 2 true (.t 4), (some 21), none, []⟩ :: ⟨.call 25 [(.t 20), (.t 21)], (some 22), none, []⟩ :: L5_14
theorem v5_15 : VS L5_15.eq_1 := rfl
def L5_16 : List AStep := ⟨.mov (.t 5), (some 19), none, []⟩ :: ⟨.load 1 true (.t 3), (some 20), none, []⟩ :: L5_15
theorem v5_16 : VS L5_16.eq_1 := rfl
def L5_17 : List AStep := [⟨.call 24 [(.t 30), (.t 33)], (some 34), none, []⟩, ⟨.mov (.t 34), (some 2), none, []⟩]
theorem v5_17 : VS L5_17.eq_1 := rfl
def L5_18 : List AStep := ⟨.load 2 true (.t 4), (some 32), none, []⟩ :: ⟨.call 25 [(.t 31), (.t 32)], (some 33), none, []⟩ :: L5_17
theorem v5_18 : VS L5_18.eq_1 := rfl
def L5_19 : List AStep := ⟨.mov (.t 5), (some 30), none, []⟩ :: ⟨.load 1 true (.t 3), (some 31), none, []⟩ :: L5_18
theorem v5_19 : VS L5_19.eq_1 := rfl
def L5_20 : List AStep := [⟨.mov (.c (.int .i64 0)), (some 6), none, []⟩]
theorem v5_20 : VS L5_20.eq_1 := rfl
def L5_21 : List AStep := [⟨.len (.t 36), (some 37), none, []⟩, ⟨.bin .lss (.t 35) (.t 37), (some 38), none, []⟩]
theorem v5_21 : VS L5_21.eq_1 := rfl
def L5_22 : List AStep := ⟨.mov (.t 6), (some 35), none, []⟩ :: ⟨.mov (.t 5), (some 36), none, []⟩ :: L5_21
theorem v5_22 : VS L5_22.eq_1 := rfl
def L5_23 : List AStep := [⟨.pick (.t 51) (.c (.bool true)) (.t 70), (some 71), none, []⟩]
theorem v5_23 : VS L5_23.eq_1 := rfl
def L5_24 : List AStep := ⟨.bin .neq (.t 68) (.c (.int .i64 3)), (some 69), (some (63, true)), []⟩ :: ⟨.pick (.t 63) (.t 69) (.c (.bool false)), (some 70), (some (51, false)), []⟩ :: L5_23
theorem v5_24 : VS L5_24.eq_1 := rfl
def L5_25 : List AStep := ⟨.faddr 0 (.t 66), (some 67), (some (63, true)), []⟩ :: ⟨.load 1 false (.t 67), (some 68), (some (63, true)), []⟩ :: L5_24
theorem v5_25 : VS L5_25.eq_1 := rfl
def L5_26 : List AStep := ⟨.mov (.t 6), (some 65), (some (63, true)), []⟩ :: ⟨.iaddr 2 (.t 64) (.t 65), (some 66), (some (63, true)), []⟩ :: L5_25
theorem v5_26 : VS L5_26.eq_1 := rfl
def L5_27 : List AStep := ⟨.mov (.t 62), (some 63), (some (51, false)), []⟩ :: ⟨.mov (.t 5), (some 64), (some (63, true)), []⟩ :: L5_26
theorem v5_27 : VS L5_27.eq_1 := rfl
def L5_28 : List AStep := ⟨.bin .eql (.t 60) (.c (.int .i64 3)), (some 61), (some (54, true)), []⟩ :: ⟨.pick (.t 54) (.t 61) (.c (.bool false)), (some 62), (some (51, false)), []⟩ :: L5_27
theorem v5_28 : VS L5_28.eq_1 := rfl
def L5_29 : List AStep := ⟨.faddr 0 (.t 58), (some 59), (some (54, true)), []⟩ :: ⟨.load 1 false (.t 59), (some 60), (some (54, true)), []⟩ :: L5_28
theorem v5_29 : VS L5_29.eq_1 := rfl
def L5_30 : List AStep := ⟨.bin .sub (.t 56) (.c (.int .i64 1)), (some 57), (some (54, true)), []⟩ :: ⟨.iaddr 2 (.t 55) (.t 57), (some 58), (some (54, true)), []⟩ :: L5_29
theorem v5_30 : VS L5_30.eq_1 := rfl
def L5_31 : List AStep := ⟨.mov (.t 5), (some 55), (some (54, true)), []⟩ :: ⟨.mov (.t 6), (some 56), (some (54, true)), []⟩ :: L5_30
theorem v5_31 : VS L5_31.eq_1 := rfl
def L5_32 : List AStep := ⟨.bin .gtr (.t 52) (.c (.int .i64 0)), (some 53), (some (51, false)), []⟩ :: ⟨.mov (.t 53), (some 54), (some (51, false)), []⟩ :: L5_31
theorem v5_32 : VS L5_32.eq_1 := rfl
def L5_33 : List AStep := ⟨.mov (.t 50), (some 51), none, []⟩ :: ⟨.mov (.t 6), (some 52), (some (51, false)), []⟩ :: L5_32
theorem v5_33 : VS L5_33.eq_1 := rfl
def L5_34 : List AStep := ⟨.bin .gtr (.t 48) (.c (.int .i64 0)), (some 49), (some (47, true)), []⟩ :: ⟨.pick (.t 47) (.t 49) (.c (.bool false)), (some 50), none, []⟩ :: L5_33
theorem v5_34 : VS L5_34.eq_1 := rfl
def L5_35 : List AStep := ⟨.mov (.t 46), (some 47), none, []⟩ :: ⟨.mov (.t 6), (some 48), (some (47, true)), []⟩ :: L5_34
theorem v5_35 : VS L5_35.eq_1 := rfl
def L5_36 : List AStep := ⟨.load 1 false (.t 44), (some 45), none, []⟩ :: ⟨.bin .eql (.t 45) (.c (.int .i64 0)), (some 46), none, []⟩ :: L5_35
theorem v5_36 : VS L5_36.eq_1 := rfl
def L5_37 : List AStep := ⟨.iaddr 2 (.t 41) (.t 42), (some 43), none, []⟩ :: ⟨.faddr 0 (.t 43), (some 44), none, []⟩ :: L5_36
theorem v5_37 : VS L5_37.eq_1 := rfl
def L5_38 : List AStep := ⟨.mov (.t 5), (some 41), none, []⟩ :: ⟨.mov (.t 6), (some 42), none, []⟩ :: L5_37
theorem v5_38 : VS L5_38.eq_1 := rfl
def L5_39 : List AStep := [⟨.mov (.c (.bool false)), (some 2), none, []⟩]
theorem v5_39 : VS L5_39.eq_1 := rfl
def L5_40 : List AStep := [⟨.mov (.c (.int .i64 0)), (some 7), none, []⟩]
theorem v5_40 : VS L5_40.eq_1 := rfl
def L5_41 : List AStep := [⟨.bin .lss (.t 72) (.t 73), (some 74), none, []⟩]
theorem v5_41 : VS L5_41.eq_1 := rfl
def L5_42 : List AStep := ⟨.mov (.t 7), (some 72), none, []⟩ :: ⟨.mov (.t 6), (some 73), none, []⟩ :: L5_41
theorem v5_42 : VS L5_42.eq_1 := rfl
def L5_43 : List AStep := [⟨.bin .eql (.t 93) (.t 98), (some 99), (some (88, true)), []⟩, ⟨.pick (.t 88) (.t 99) (.c (.bool false)), (some 100), none, []⟩]
theorem v5_43 : VS L5_43.eq_1 := rfl
def L5_44 : List AStep := ⟨.faddr 0 (.t 96), (some 97), (some (88, true)), []⟩ :: ⟨.load 1 false (.t 97), (some 98), (some (88, true)), []⟩ :: L5_43
theorem v5_44 : VS L5_44.eq_1 := rfl
def L5_45 : List AStep := ⟨.mov (.t 6), (some 95), (some (88, true)), []⟩ :: ⟨.iaddr 2 (.t 94) (.t 95), (some 96), (some (88, true)), []⟩ :: L5_44
theorem v5_45 : VS L5_45.eq_1 := rfl
def L5_46 : List AStep := ⟨.load 1 false (.t 92), (some 93), (some (88, true)), []⟩ :: ⟨.mov (.t 5), (some 94), (some (88, true)), []⟩ :: L5_45
theorem v5_46 : VS L5_46.eq_1 := rfl
def L5_47 : List AStep := ⟨.iaddr 2 (.t 89) (.t 90), (some 91), (some (88, true)), []⟩ :: ⟨.faddr 0 (.t 91), (some 92), (some (88, true)), []⟩ :: L5_46
theorem v5_47 : VS L5_47.eq_1 := rfl
def L5_48 : List AStep := ⟨.mov (.t 5), (some 89), (some (88, true)), []⟩ :: ⟨.mov (.t 7), (some 90), (some (88, true)), []⟩ :: L5_47
theorem v5_48 : VS L5_48.eq_1 := rfl
def L5_49 : List AStep := ⟨.bin .eql (.t 81) (.t 86), (some 87), none, []⟩ :: ⟨.mov (.t 87), (some 88), none, []⟩ :: L5_48
theorem v5_49 : VS L5_49.eq_1 := rfl
def L5_50 : List AStep := ⟨.faddr 1 (.t 84), (some 85), none, []⟩ :: ⟨.load 1 false (.t 85), (some 86), none, []⟩ :: L5_49
theorem v5_50 : VS L5_50.eq_1 := rfl
def L5_51 : List AStep := ⟨.mov (.t 6), (some 83), none, []⟩ :: ⟨.iaddr 2 (.t 82) (.t 83), (some 84), none, []⟩ :: L5_50
theorem v5_51 : VS L5_51.eq_1 := rfl
def L5_52 : List AStep := ⟨.load 1 false (.t 80), (some 81), none, []⟩ :: ⟨.mov (.t 5), (some 82), none, []⟩ :: L5_51
theorem v5_52 : VS L5_52.eq_1 := rfl
def L5_53 : List AStep := ⟨.iaddr 2 (.t 77) (.t 78), (some 79), none, []⟩ :: ⟨.faddr 1 (.t 79), (some 80), none, []⟩ :: L5_52
theorem v5_53 : VS L5_53.eq_1 := rfl
def L5_54 : List AStep := ⟨.mov (.t 5), (some 77), none, []⟩ :: ⟨.mov (.t 7), (some 78), none, []⟩ :: L5_53
theorem v5_54 : VS L5_54.eq_1 := rfl
def L5_55 : List AStep := [⟨.mov (.c (.bool false)), (some 2), none, []⟩]
theorem v5_55 : VS L5_55.eq_1 := rfl
def L5_56 : List AStep := [⟨.mov (.t 76), (some 7), none, []⟩]
theorem v5_56 : VS L5_56.eq_1 := rfl
def L5_57 : List AStep := ⟨.mov (.t 7), (some 75), none, []⟩ :: ⟨.bin .add (.t 75) (.c (.int .i64 1)), (some 76), none, []⟩ :: L5_56
theorem v5_57 : VS L5_57.eq_1 := rfl
def L5_58 : List AStep := [⟨.call 26 [(.t 104)], (some 105), none, []⟩, ⟨.bin .eql (.t 105) (.c (.str (strOfNums []))), (some 106), none, []⟩]
theorem v5_58 : VS L5_58.eq_1 := rfl
def L5_59 : List AStep := ⟨.iaddr 2 (.t 101) (.t 102), (some 103), none, []⟩ :: ⟨.load 2 true (.t 103), (some 104), none, []⟩ :: L5_58
theorem v5_59 : VS L5_59.eq_1 := rfl
def L5_60 : List AStep := ⟨.mov (.t 5), (some 101), none, []⟩ :: ⟨.mov (.t 6), (some 102), none, []⟩ :: L5_59
theorem v5_60 : VS L5_60.eq_1 := rfl
def L5_61 : List AStep := [⟨.mov (.c (.bool false)), (some 2), none, []⟩]
theorem v5_61 : VS L5_61.eq_1 := rfl
def L5_62 : List AStep := [⟨.mov (.t 40), (some 6), none, []⟩]
theorem v5_62 : VS L5_62.eq_1 := rfl
def L5_63 : List AStep := ⟨.mov (.t 6), (some 39), none, []⟩ :: ⟨.bin .add (.t 39) (.c (.int .i64 1)), (some 40), none, []⟩ :: L5_62
theorem v5_63 : VS L5_63.eq_1 := rfl
def L5_64 : List AStep := [⟨.mov (.c (.bool true)), (some 2), none, []⟩]
theorem v5_64 : VS L5_64.eq_1 := rfl
def C5_0 : ACode := .seq (.reg L5_3) .ret
theorem u5_0 : VC C5_0.eq_1 := rfl
def C5_1 : ACode := .cond (.t 10) C5_0 .skip
theorem u5_1 : VC C5_1.eq_1 := rfl
def C5_2 : ACode := .seq (.reg L5_2) C5_1
theorem u5_2 : VC C5_2.eq_1 := rfl
def C5_3 : ACode := .seq (.reg L5_19) .ret
theorem u5_3 : VC C5_3.eq_1 := rfl
def C5_4 : ACode := .cond (.t 29) C5_3 .skip
theorem u5_4 : VC C5_4.eq_1 := rfl
def C5_5 : ACode := .seq (.reg L5_16) C5_4
theorem u5_5 : VC C5_5.eq_1 := rfl
def C5_6 : ACode := .cond (.t 38) .skip (.exit 0)
theorem u5_6 : VC C5_6.eq_1 := rfl
def C5_7 : ACode := .seq (.reg L5_22) C5_6
theorem u5_7 : VC C5_7.eq_1 := rfl
def C5_8 : ACode := .seq (.reg L5_39) .ret
theorem u5_8 : VC C5_8.eq_1 := rfl
def C5_9 : ACode := .cond (.t 71) C5_8 .skip
theorem u5_9 : VC C5_9.eq_1 := rfl
def C5_10 : ACode := .seq (.reg L5_38) C5_9
theorem u5_10 : VC C5_10.eq_1 := rfl
def C5_11 : ACode := .cond (.t 74) .skip (.exit 2)
theorem u5_11 : VC C5_11.eq_1 := rfl
def C5_12 : ACode := .seq (.reg L5_42) C5_11
theorem u5_12 : VC C5_12.eq_1 := rfl
def C5_13 : ACode := .seq (.reg L5_55) .ret
theorem u5_13 : VC C5_13.eq_1 := rfl
def C5_14 : ACode := .cond (.t 100) C5_13 .skip
theorem u5_14 : VC C5_14.eq_1 := rfl
def C5_15 : ACode := .seq (.reg L5_54) C5_14
theorem u5_15 : VC C5_15.eq_1 := rfl
def C5_16 : ACode := .block 3 C5_15
theorem u5_16 : VC C5_16.eq_1 := rfl
def C5_17 : ACode := .seq C5_16 (.reg L5_57)
theorem u5_17 : VC C5_17.eq_1 := rfl
def C5_18 : ACode := .seq C5_12 C5_17
theorem u5_18 : VC C5_18.eq_1 := rfl
def C5_19 : ACode := .block 2 (.loop C5_18)
theorem u5_19 : VC C5_19.eq_1 := rfl
def C5_20 : ACode := .seq (.reg L5_40) C5_19
theorem u5_20 : VC C5_20.eq_1 := rfl
def C5_21 : ACode := .seq (.reg L5_61) .ret
theorem u5_21 : VC C5_21.eq_1 := rfl
def C5_22 : ACode := .cond (.t 106) C5_21 .skip
theorem u5_22 : VC C5_22.eq_1 := rfl
def C5_23 : ACode := .seq (.reg L5_60) C5_22
theorem u5_23 : VC C5_23.eq_1 := rfl
def C5_24 : ACode := .seq C5_20 C5_23
theorem u5_24 : VC C5_24.eq_1 := rfl
def C5_25 : ACode := .seq C5_10 C5_24
theorem u5_25 : VC C5_25.eq_1 := rfl
def C5_26 : ACode := .block 1 C5_25
theorem u5_26 : VC C5_26.eq_1 := rfl
def C5_27 : ACode := .seq C5_26 (.reg L5_63)
theorem u5_27 : VC C5_27.eq_1 := rfl
def C5_28 : ACode := .seq C5_7 C5_27
theorem u5_28 : VC C5_28.eq_1 := rfl
def C5_29 : ACode := .block 0 (.loop C5_28)
theorem u5_29 : VC C5_29.eq_1 := rfl
def C5_30 : ACode := .seq (.reg L5_20) C5_29
theorem u5_30 : VC C5_30.eq_1 := rfl
def C5_31 : ACode := .seq (.reg L5_64) .ret
theorem u5_31 : VC C5_31.eq_1 := rfl
def C5_32 : ACode := .seq C5_30 C5_31
theorem u5_32 : VC C5_32.eq_1 := rfl
def C5_33 : ACode := .seq C5_5 C5_32
theorem u5_33 : VC C5_33.eq_1 := rfl
def C5_34 : ACode := .seq (.reg L5_10) C5_33
theorem u5_34 : VC C5_34.eq_1 := rfl
def C5_35 : ACode := .seq (.reg L5_8) C5_34
theorem u5_35 : VC C5_35.eq_1 := rfl
def C5_36 : ACode := .seq C5_2 C5_35
theorem u5_36 : VC C5_36.eq_1 := rfl
def C5_37 : ACode := .seq (.reg L5_0) C5_36
theorem u5_37 : VC C5_37.eq_1 := rfl
def F5 : AFunc := ⟨107, [.tmp 2], C5_37⟩
theorem cF5 : compB Try.prog 5 = some F5 := by kernel_rfl
attribute [local go_sem ↓] u5_0 u5_1 u5_2 u5_3 u5_4 u5_5 u5_6 u5_7 u5_8 u5_9 u5_10 u5_11 u5_12 u5_13 u5_14 u5_15 u5_16 u5_17 u5_18 u5_19 u5_20 u5_21 u5_22 u5_23 u5_25 u5_26 u5_27 u5_28 u5_29 u5_30 u5_31 u5_32 u5_33 u5_34 u5_35 u5_36 u5_37 v5_0 v5_1 v5_2 v5_3 v5_4 v5_5 v5_6 v5_7 v5_8 v5_9 v5_10 v5_11 v5_12 v5_13 v5_14 v5_15 v5_16 v5_17 v5_18 v5_19 v5_20 v5_21 v5_22 v5_23 v5_24 v5_25 v5_26 v5_27 v5_28 v5_29 v5_30 v5_31 v5_32 v5_33 v5_34 v5_35 v5_36 v5_37 v5_38 v5_39 v5_40 v5_41 v5_42 v5_43 v5_44 v5_45 v5_46 v5_47 v5_48 v5_49 v5_50 v5_51 v5_52 v5_53 v5_54 v5_55 v5_56 v5_57 v5_58 v5_59 v5_60 v5_61 v5_62 v5_63 v5_64
theorem law5 (h : H) (avs : List AV) (hok : okVs Try.prog h 6 [ 22 ] avs) : callK (bm Try.prog 5 avs h) fun r _ => r = ib true := by
  obtain ⟨v0, avs, rfl, hv0, hok⟩ := okVs_cons hok
  obtain rfl := okVs_nil hok
  obtain ⟨v, code, rfl, s0, hc, k0⟩ := dBytes hv0
  refine bm_of cF5 ?_
  cases b0 : decide ((code.length : Int) > 1048576) with
  | true => simp +contextual (maxSteps := 2000000) only [go_sem, Nat.reduceEqDiff, reduceCtorEq, Nat.reduceAdd, Nat.reduceLeDiff, F5, s0.len, b0]
  | false =>
  simp +contextual (maxSteps := 2000000) only [go_sem, Nat.reduceEqDiff, reduceCtorEq, Nat.reduceAdd, Nat.reduceLeDiff, F5, s0.len, b0]
  refine wp_call (c_drawProblems code v h s0 hc) ?_
  rintro q h1 ⟨g1, x, u, w, l, f, rfl, zq, zf, tl, mf⟩
  have sg : SlG h1 x l := ⟨zq.sl lenQ⟩
  have ml := tl.mini
  simp +contextual (maxSteps := 2000000) only [go_sem, Nat.reduceEqDiff, reduceCtorEq, Nat.reduceAdd, Nat.reduceLeDiff]
  refine wp_call (k_iProblems l f x u w h1 sg zf.sl ml mf) ?_
  rintro q2 h2 ⟨g2, n2⟩
  have sg2 := sg.grow g2
  have sf2 := zf.sl.grow g2
  simp +contextual (maxSteps := 2000000) only [go_sem, Nat.reduceEqDiff, reduceCtorEq, Nat.reduceAdd, Nat.reduceLeDiff]
  refine wp_call (k_sProblems l f x u w h2 sg2 sf2 ml mf) ?_
  rintro q3 h3 ⟨g3, n3⟩
  have sm := (n2.grow g3).sl lenB
  have hpl := problems_len (l := l) (f := f)
  have eq1 := c_equalProblems _ _ q2 q3 h3 sm (n3.sl lenB) (Nat.le_trans hpl (by decide))
  rw [decide_eq_true rfl] at eq1
  cases en : decide (((problemsF l f).length : Int) = 0) with
  | true =>
    simp +contextual (maxSteps := 2000000) only [go_sem, Nat.reduceEqDiff, reduceCtorEq, Nat.reduceAdd, Nat.reduceLeDiff, eq1, sm.len, en]
    refine wp_call (k_sProblems l f x u w h3 (sg2.grow g3) (sf2.grow g3) ml mf) ?_
    rintro q4 h4 ⟨g4, n4⟩
    have eq2 := c_equalProblems _ _ q2 q4 h4 (sm.grow g4) (n4.sl lenB) (Nat.le_trans hpl (by decide))
    rw [decide_eq_true rfl] at eq2
    simp +contextual (maxSteps := 2000000) only [go_sem, Nat.reduceEqDiff, reduceCtorEq, Nat.reduceAdd, Nat.reduceLeDiff, eq2]
    exact gcK_of rfl (fun _ _ => rfl)
  | false =>
  have hf : fits l f = true := by
    cases hf : fits l f with
    | true => rfl
    | false =>
      unfold problemsF at en
      rw [hf] at en
      simp at en
  obtain ⟨b1, b2⟩ := fits_ok hf
  have hord : (problemsF l f).Pairwise Later := by unfold problemsF; rw [if_pos hf]; exact wrong_order b1 b2
  have htxt : ∀ y ∈ problemsF l f, hasTxt y = true := by unfold problemsF; rw [if_pos hf]; exact wrong_text b1 b2
  generalize problemsF l f = m at sm hpl eq1 en hord htxt
  have hlat : ∀ i j (hi : i < m.length) (hj : j < m.length), i < j → Later m[i] m[j] := fun i j hi hj hij => List.pairwise_iff_getElem.1 hord i j hi hj hij
  simp +contextual (maxSteps := 2000000) only [go_sem, Nat.reduceEqDiff, reduceCtorEq, Nat.reduceAdd, Nat.reduceLeDiff, eq1, sm.len, en]
  refine wpC_loop (fun i T L h' => h' = h3 ∧ T 5 = .v q2 ∧ T 6 = .v (.one (.int .i64 i))) m.length ?_ ?_ (Nat.zero_le _) ?_
  · rintro i T L h' hi ⟨rfl, t5, t6⟩
    apply joinC (P := Try.prog) (c := C5_24) (M := fun T L h2 => h2 = h' ∧ T 5 = .v q2 ∧ T 6 = .v (.one (.int .i64 i)))
    · intro J
      by_cases hi0 : i = 0
      · have hz : decide ((i : Int) > 0) = false := decide_eq_false (by omega)
        cases c1 : decide (m[i].kind = 0) with
        | true =>
          simp +contextual (maxSteps := 2000000) only [go_sem, Nat.reduceEqDiff, reduceCtorEq, Nat.reduceAdd, Nat.reduceLeDiff, t5, t6, sm.len, sm.iaddr hi, sm.fieldO hi, lt_true hi, c1, hz]
          refine J _ _ _ ?_
          simp +contextual (maxSteps := 2000000) only [go_sem, Nat.reduceEqDiff, reduceCtorEq, Nat.reduceAdd, Nat.reduceLeDiff, t5, t6]
        | false =>
          simp +contextual (maxSteps := 2000000) only [go_sem, Nat.reduceEqDiff, reduceCtorEq, Nat.reduceAdd, Nat.reduceLeDiff, t5, t6, sm.len, sm.iaddr hi, sm.fieldO hi, lt_true hi, c1, hz]
          refine J _ _ _ ?_
          simp +contextual (maxSteps := 2000000) only [go_sem, Nat.reduceEqDiff, reduceCtorEq, Nat.reduceAdd, Nat.reduceLeDiff, t5, t6]
      · obtain ⟨j, ej⟩ : ∃ j, i = j + 1 := ⟨i - 1, by omega⟩
        have hj : j < m.length := by omega
        have hL := hlat j i hj hi (by omega)
        have hz : decide ((i : Int) > 0) = true := decide_eq_true (by omega)
        have hw : IntKind.i64.wrap ((i : Int) - 1) = (j : Int) := by rw [i64_wrap (by omega) (by omega)]; omega
        have c1 : decide (m[i].kind = 0) = false := decide_eq_false hL.1
        by_cases c2 : m[j].kind = 3
        · have c3 : decide (m[i].kind = 3) = true := decide_eq_true (hL.2.1 c2)
          simp +contextual (maxSteps := 2000000) only [go_sem, Nat.reduceEqDiff, reduceCtorEq, Nat.reduceAdd, Nat.reduceLeDiff, t5, t6, sm.len, sm.iaddr hi, sm.fieldO hi, sm.iaddr hj, sm.fieldO hj, hw, lt_true hi, c1, decide_eq_true c2, c3, hz]
          refine J _ _ _ ?_
          simp +contextual (maxSteps := 2000000) only [go_sem, Nat.reduceEqDiff, reduceCtorEq, Nat.reduceAdd, Nat.reduceLeDiff, t5, t6]
        · simp +contextual (maxSteps := 2000000) only [go_sem, Nat.reduceEqDiff, reduceCtorEq, Nat.reduceAdd, Nat.reduceLeDiff, t5, t6, sm.len, sm.iaddr hi, sm.fieldO hi, sm.iaddr hj, sm.fieldO hj, hw, lt_true hi, c1, decide_eq_false c2, hz]
          refine J _ _ _ ?_
          simp +contextual (maxSteps := 2000000) only [go_sem, Nat.reduceEqDiff, reduceCtorEq, Nat.reduceAdd, Nat.reduceLeDiff, t5, t6]
    · rintro T L h2 ⟨rfl, t5, t6⟩
      simp +contextual (maxSteps := 2000000) only [go_sem, Nat.reduceEqDiff, reduceCtorEq, Nat.reduceAdd, Nat.reduceLeDiff, ↓u5_24, t5, t6]
      refine wpC_loop (fun k T L h' => h' = h2 ∧ T 5 = .v q2 ∧ T 6 = .v (.one (.int .i64 i)) ∧ T 7 = .v (.one (.int .i64 k))) i ?_ ?_ (Nat.zero_le _) ?_
      · rintro k T L h' hk ⟨rfl, t5, t6, t7⟩
        have hkl : k < m.length := by omega
        have hL := hlat k i hkl hi hk
        by_cases e1 : m[k].name = m[i].name
        · have e2 : decide (m[k].kind = m[i].kind) = false := decide_eq_false fun e => hL.2.2 ⟨e1, e⟩
          simp +contextual (maxSteps := 2000000) only [go_sem, Nat.reduceEqDiff, reduceCtorEq, Nat.reduceAdd, Nat.reduceLeDiff, t5, t6, t7, sm.iaddr hi, sm.fieldO hi, sm.iaddr hkl, sm.fieldO hkl, lt_true hk, decide_eq_true e1, e2]
          rw [wrap_next hk (by omega)]
        · simp +contextual (maxSteps := 2000000) only [go_sem, Nat.reduceEqDiff, reduceCtorEq, Nat.reduceAdd, Nat.reduceLeDiff, t5, t6, t7, sm.iaddr hi, sm.fieldO hi, sm.iaddr hkl, sm.fieldO hkl, lt_true hk, decide_eq_false e1]
          rw [wrap_next hk (by omega)]
      · rintro T L h' ⟨rfl, t5, t6, t7⟩
        obtain ⟨s, et, es⟩ := c_ProblemText m[i] h' (htxt _ (List.getElem_mem hi))
        simp +contextual (maxSteps := 2000000) only [go_sem, Nat.reduceEqDiff, reduceCtorEq, Nat.reduceAdd, Nat.reduceLeDiff, t5, t6, t7, lt_false, sm.iaddr hi, sm.whole hi, et, es]
        rw [wrap_next hi (by omega)]
      · simp +contextual (maxSteps := 2000000) only [go_sem, Nat.reduceEqDiff, reduceCtorEq, Nat.reduceAdd, Nat.reduceLeDiff, t5, t6]
        rfl
  · rintro T L h' ⟨rfl, t5, t6⟩
    simp +contextual (maxSteps := 2000000) only [go_sem, Nat.reduceEqDiff, reduceCtorEq, Nat.reduceAdd, Nat.reduceLeDiff, t5, t6, sm.len, lt_false]
    try exact gcK_of rfl (fun _ _ => rfl)
  · simp +contextual (maxSteps := 2000000) only [go_sem, Nat.reduceEqDiff, reduceCtorEq, Nat.reduceAdd, Nat.reduceLeDiff]
    rfl
end Go.Proofs.Ytekkimfdcbgcoab.Am
