/- Contracts of the program: numbers, names, pairs, flat calls and signatures that are valid. -/
import Derived.Test.YtekkimfdcbgcoaaDat
namespace Go.Proofs.Ytekkimfdcbgcoaa.Am
open Go
set_option maxRecDepth 100000
set_option maxHeartbeats 4000000
set_option linter.unusedSimpArgs false
set_option linter.unusedVariables false
attribute [local go_sem ↓] bv_t bv_c ev_t ev_c put_same put_ne put_none kill_at pro_at lb_same lb_ne start_zero start_succ wpC_seq wpC_reg wpC_cond wpC_block wpC_skip wpC_exit wpC_ret thenQ_normal thenQ_exit thenQ_ret inBlk_normal inBlk_exit inBlk_ret wpS_nil wpS_step wpS_again wpS_guard wpO_mov wpO_load wpO_faddr wpO_nilCheck wpO_pick wpO_build wpO_bin wpO_eqb wpO_eqst wpO_eqnil wpO_not wpO_conv wpO_bytesStr wpO_iaddr wpO_idxStr wpO_field wpO_extract wpO_len wpO_lenStr wpO_cap wpO_min wpO_slice wpO_sliceStr wpO_alloc wpO_box wpO_store wpO_call wpO_callv wpO_mkfn wpO_buildSlice wpO_mkslice wpO_append wpO_appz proA_nil proA_cons tmpX_nil tmpX_tmp tmpX_cell doneB_normal doneB_ret agK_cons agK_nil agK_guard agG_tt agG_ff agG_tf agG_ft agG_undef pureB_load results_one results_two results_nil resBs_cons resBs_nil resB_tmp resB_cell
attribute [local go_sem] kill_v kill_lp_ne kill_lp_same pro_v pro_lp_same pro_lp_ne av_v av_lp optB_some optX_some valX_eq ldX_lp ldX_v faX_lp faX_v ncX_lp ncX_ptr ncX_fn boxK_one boxK_agg stL_some stK_lp_one stK_lp_agg stK_v_one stK_v_agg proM_v proM_lp callG_mk callVG_mk callvK_fn fnG_mk ptrsA_nil ptrsA_cons callH_some whenA_true whenA_false guardH_tt guardH_ff guardH_tf guardH_ft guardH_undef agV_one agV_agg lenO_sl lenStrO_str notO_bool pickO_bool convO_int eqbO_bool eqnilO_sl extractO_tup capO_sl minO_int loadL_one loadL_all storeL_eq fillA_nil fillA_one fillA_agg nat_ge neg_ge nat_lt neg_lt buildO bin_add bin_sub bin_mul bin_eql bin_neq bin_lss bin_leq bin_gtr bin_geq str_eql str_neq str_lss str_leq str_gtr str_geq retK_some endK_mk gcK_same gcK_int gcK_bool tupO_one tupO_agg rdy_self ib ii Option.map_none Option.map_some Option.some.injEq exists_eq_left' exists_eq_left ne_eq not_false_eq_true if_true if_false List.map_cons List.map_nil List.getElem?_cons_zero List.getElem?_cons_succ List.length_cons List.length_nil List.take_succ_cons List.take_zero List.take_nil List.drop_succ_cons List.drop_zero List.drop_nil List.cons_append List.nil_append List.append_nil List.set_cons_zero List.set_cons_succ Nat.zero_add forall_const true_and and_true and_self Bool.false_eq_true false_implies true_implies implies_true Bool.not_true Bool.not_false Bool.not_eq_true' Bool.not_eq_false' beq_self_eq_true Bool.bne_true Bool.bne_false
attribute [local go_sem] lenI lenS lenP lenQ lenB lenL lenT encI_0 encS_0 encP_0 encP_1 encQ_0 encQ_1 encQ_2 encQ_3 encB_0 encB_1 encL_0 encL_1 encT_0 encT_1
attribute [local go_sem low] whenA_bool guardH_bool
/-! impl.in -/
def L86_0 : List AStep := [⟨.mov (.c (.bool false)), (some 6), none, []⟩]
theorem v86_0 : VS L86_0.eq_1 := rfl
def L86_1 : List AStep := [⟨.mov (.t 14), (some 6), none, []⟩]
theorem v86_1 : VS L86_1.eq_1 := rfl
def L86_2 : List AStep := ⟨.bin .leq (.t 11) (.t 12), (some 13), (some (10, true)), []⟩ :: ⟨.pick (.t 10) (.t 13) (.c (.bool false)), (some 14), none, []⟩ :: L86_1
theorem v86_2 : VS L86_2.eq_1 := rfl
def L86_3 : List AStep := ⟨.mov (.t 0), (some 11), (some (10, true)), []⟩ :: ⟨.mov (.t 2), (some 12), (some (10, true)), []⟩ :: L86_2
theorem v86_3 : VS L86_3.eq_1 := rfl
def L86_4 : List AStep := ⟨.bin .geq (.t 7) (.t 8), (some 9), none, []⟩ :: ⟨.mov (.t 9), (some 10), none, []⟩ :: L86_3
theorem v86_4 : VS L86_4.eq_1 := rfl
def L86_5 : List AStep := ⟨.mov (.t 0), (some 7), none, []⟩ :: ⟨.mov (.t 1), (some 8), none, []⟩ :: L86_4
theorem v86_5 : VS L86_5.eq_1 := rfl
def C86_0 : ACode := .seq (.reg L86_5) .ret
theorem u86_0 : VC C86_0.eq_1 := rfl
def C86_1 : ACode := .seq (.reg L86_0) C86_0
theorem u86_1 : VC C86_1.eq_1 := rfl
def F86 : AFunc := ⟨15, [.tmp 6], C86_1⟩
theorem cF86 : compB Try.prog 86 = some F86 := by kernel_rfl
attribute [local go_sem ↓] u86_0 u86_1 v86_0 v86_1 v86_2 v86_3 v86_4 v86_5
theorem c_in (n lo hi : Int) (h : H) : bm Try.prog 86 [.one (.int .i64 n), .one (.int .i64 lo), .one (.int .i64 hi)] h = some (ib (decide (lo ≤ n) && decide (n ≤ hi)), h) := by
  refine bm_eq cF86 ?_
  simp +contextual (maxSteps := 2000000) only [go_sem, Nat.reduceEqDiff, reduceCtorEq, Nat.reduceAdd, Nat.reduceLeDiff, F86]
  (repeat' (first | refine And.intro ?_ ?_ | intro _)) <;> first | simp_all
/-! impl.isValue -/
def L99_0 : List AStep := [⟨.mov (.c (.bool false)), (some 2), none, []⟩]
theorem v99_0 : VS L99_0.eq_1 := rfl
def L99_1 : List AStep := [⟨.mov (.t 4), (some 2), none, []⟩]
theorem v99_1 : VS L99_1.eq_1 := rfl
def L99_2 : List AStep := ⟨.mov (.t 0), (some 3), none, []⟩ :: ⟨.call 86 [(.t 3), (.c (.int .i64 (-99))), (.c (.int .i64 99))], (some 4), none, []⟩ :: L99_1
theorem v99_2 : VS L99_2.eq_1 := rfl
def C99_0 : ACode := .seq (.reg L99_2) .ret
theorem u99_0 : VC C99_0.eq_1 := rfl
def C99_1 : ACode := .seq (.reg L99_0) C99_0
theorem u99_1 : VC C99_1.eq_1 := rfl
def F99 : AFunc := ⟨5, [.tmp 2], C99_1⟩
theorem cF99 : compB Try.prog 99 = some F99 := by kernel_rfl
attribute [local go_sem ↓] u99_0 u99_1 v99_0 v99_1 v99_2
theorem c_isValue (n : Int) (h : H) : bm Try.prog 99 [.one (.int .i64 n)] h = some (ib (okNum n), h) := by
  refine bm_eq cF99 ?_
  simp +contextual (maxSteps := 2000000) only [go_sem, Nat.reduceEqDiff, reduceCtorEq, Nat.reduceAdd, Nat.reduceLeDiff, F99, c_in, okNum]
/-! impl.isName -/
def L61_0 : List AStep := [⟨.mov (.c (.bool false)), (some 2), none, []⟩]
theorem v61_0 : VS L61_0.eq_1 := rfl
def L61_1 : List AStep := [⟨.mov (.c (.int .i64 0)), (some 3), none, []⟩]
theorem v61_1 : VS L61_1.eq_1 := rfl
def L61_2 : List AStep := [⟨.lenStr (.t 5), (some 6), none, []⟩, ⟨.bin .lss (.t 4) (.t 6), (some 7), none, []⟩]
theorem v61_2 : VS L61_2.eq_1 := rfl
def L61_3 : List AStep := ⟨.mov (.t 3), (some 4), none, []⟩ :: ⟨.mov (.t 0), (some 5), none, []⟩ :: L61_2
theorem v61_3 : VS L61_3.eq_1 := rfl
def L61_4 : List AStep := [⟨.bin .gtr (.t 17) (.c (.int .u8 122)), (some 18), (some (14, false)), []⟩, ⟨.pick (.t 14) (.c (.bool true)) (.t 18), (some 19), none, []⟩]
theorem v61_4 : VS L61_4.eq_1 := rfl
def L61_5 : List AStep := ⟨.mov (.t 3), (some 16), (some (14, false)), []⟩ :: ⟨.idxStr (.t 15) (.t 16), (some 17), (some (14, false)), []⟩ :: L61_4
theorem v61_5 : VS L61_5.eq_1 := rfl
def L61_6 : List AStep := ⟨.mov (.t 13), (some 14), none, []⟩ :: ⟨.mov (.t 0), (some 15), (some (14, false)), []⟩ :: L61_5
theorem v61_6 : VS L61_6.eq_1 := rfl
def L61_7 : List AStep := ⟨.idxStr (.t 10) (.t 11), (some 12), none, []⟩ :: ⟨.bin .lss (.t 12) (.c (.int .u8 97)), (some 13), none, []⟩ :: L61_6
theorem v61_7 : VS L61_7.eq_1 := rfl
def L61_8 : List AStep := ⟨.mov (.t 0), (some 10), none, []⟩ :: ⟨.mov (.t 3), (some 11), none, []⟩ :: L61_7
theorem v61_8 : VS L61_8.eq_1 := rfl
def L61_9 : List AStep := [⟨.mov (.c (.bool false)), (some 2), none, []⟩]
theorem v61_9 : VS L61_9.eq_1 := rfl
def L61_10 : List AStep := [⟨.mov (.t 9), (some 3), none, []⟩]
theorem v61_10 : VS L61_10.eq_1 := rfl
def L61_11 : List AStep := ⟨.mov (.t 3), (some 8), none, []⟩ :: ⟨.bin .add (.t 8) (.c (.int .i64 1)), (some 9), none, []⟩ :: L61_10
theorem v61_11 : VS L61_11.eq_1 := rfl
def L61_12 : List AStep := [⟨.call 86 [(.t 21), (.c (.int .i64 1)), (.c (.int .i64 6))], (some 22), none, []⟩, ⟨.mov (.t 22), (some 2), none, []⟩]
theorem v61_12 : VS L61_12.eq_1 := rfl
def L61_13 : List AStep := ⟨.mov (.t 0), (some 20), none, []⟩ :: ⟨.lenStr (.t 20), (some 21), none, []⟩ :: L61_12
theorem v61_13 : VS L61_13.eq_1 := rfl
def C61_0 : ACode := .cond (.t 7) .skip (.exit 0)
theorem u61_0 : VC C61_0.eq_1 := rfl
def C61_1 : ACode := .seq (.reg L61_3) C61_0
theorem u61_1 : VC C61_1.eq_1 := rfl
def C61_2 : ACode := .seq (.reg L61_9) .ret
theorem u61_2 : VC C61_2.eq_1 := rfl
def C61_3 : ACode := .cond (.t 19) C61_2 .skip
theorem u61_3 : VC C61_3.eq_1 := rfl
def C61_4 : ACode := .seq (.reg L61_8) C61_3
theorem u61_4 : VC C61_4.eq_1 := rfl
def C61_5 : ACode := .block 1 C61_4
theorem u61_5 : VC C61_5.eq_1 := rfl
def C61_6 : ACode := .seq C61_5 (.reg L61_11)
theorem u61_6 : VC C61_6.eq_1 := rfl
def C61_7 : ACode := .seq C61_1 C61_6
theorem u61_7 : VC C61_7.eq_1 := rfl
def C61_8 : ACode := .block 0 (.loop C61_7)
theorem u61_8 : VC C61_8.eq_1 := rfl
def C61_9 : ACode := .seq (.reg L61_1) C61_8
theorem u61_9 : VC C61_9.eq_1 := rfl
def C61_10 : ACode := .seq (.reg L61_13) .ret
theorem u61_10 : VC C61_10.eq_1 := rfl
def C61_11 : ACode := .seq C61_9 C61_10
theorem u61_11 : VC C61_11.eq_1 := rfl
def C61_12 : ACode := .seq (.reg L61_0) C61_11
theorem u61_12 : VC C61_12.eq_1 := rfl
def F61 : AFunc := ⟨23, [.tmp 2], C61_12⟩
theorem cF61 : compB Try.prog 61 = some F61 := by kernel_rfl
attribute [local go_sem ↓] u61_0 u61_1 u61_2 u61_3 u61_4 u61_5 u61_6 u61_7 u61_8 u61_9 u61_10 u61_11 u61_12 v61_0 v61_1 v61_2 v61_3 v61_4 v61_5 v61_6 v61_7 v61_8 v61_9 v61_10 v61_11 v61_12 v61_13
theorem c_isName (s : ByteArray) (h : H) (hn : s.size < 2 ^ 62) : bm Try.prog 61 [.one (.str s)] h = some (ib (okName s), h) := by
  refine bm_eq cF61 ?_
  simp +contextual (maxSteps := 2000000) only [go_sem, Nat.reduceEqDiff, reduceCtorEq, Nat.reduceAdd, Nat.reduceLeDiff, F61]
  have hsz : s.data.toList.length = s.size := Array.length_toList
  refine wpC_loop (fun i T L h' => h' = h ∧ T 0 = .v (.one (.str s)) ∧ T 3 = .v (.one (.int .i64 i)) ∧ Pre isLow true s.data.toList i) s.size ?_ ?_ (Nat.zero_le _) ?_
  · rintro i T L h' hi ⟨rfl, h0, h3, hp⟩
    simp +contextual (maxSteps := 2000000) only [go_sem, Nat.reduceEqDiff, reduceCtorEq, Nat.reduceAdd, Nat.reduceLeDiff, h0, h3, idx_at hi, lt_true hi]
    have e : s.data.toList[i]'(by omega) = s.data[i]'hi := Array.getElem_toList _
    have bad : isLow (s.data[i]'hi) = false → okName s = false := fun hx => by
      unfold okName
      rw [all_stop (l := s.data.toList) (i := i) (by omega) (by rw [e]; exact hx)]
      rfl
    have low : isLow (s.data[i]'hi) = (!(decide ((↑(s.data[i]'hi).toNat : Int) < 97)) && !(decide ((↑(s.data[i]'hi).toNat : Int) > 122))) := by
      unfold isLow
      rw [Bool.eq_iff_iff]
      simp
      omega
    (repeat' (first | refine And.intro ?_ ?_ | intro _)) <;> first | rfl | rw [wrap_next hi hn] | exact hp.next (by omega) (by rw [e, low]; simp_all) | rw [bad (by rw [low]; simp_all)]
  · rintro T L h' ⟨rfl, h0, h3, hp⟩
    rw [← hsz] at hp
    simp +contextual (maxSteps := 2000000) only [go_sem, Nat.reduceEqDiff, reduceCtorEq, Nat.reduceAdd, Nat.reduceLeDiff, h0, h3, lt_false, c_in, okName, hp.all, Bool.true_and]
  · simp +contextual (maxSteps := 2000000) only [go_sem, Nat.reduceEqDiff, reduceCtorEq, Nat.reduceAdd, Nat.reduceLeDiff]
    (repeat' (first | refine And.intro ?_ ?_ | intro _)) <;> first | rfl | exact Pre.zero
/-! (impl.Pair).valid -/
def L65_0 : List AStep := [⟨.box 53 (.t 0), (some 1), none, []⟩, ⟨.mov (.c (.bool false)), (some 2), none, []⟩]
theorem v65_0 : VS L65_0.eq_1 := rfl
def L65_1 : List AStep := [⟨.mov (.t 10), (some 2), none, []⟩]
theorem v65_1 : VS L65_1.eq_1 := rfl
def L65_2 : List AStep := ⟨.call 99 [(.t 8)], (some 9), (some (6, true)), []⟩ :: ⟨.pick (.t 6) (.t 9) (.c (.bool false)), (some 10), none, []⟩ :: L65_1
theorem v65_2 : VS L65_2.eq_1 := rfl
def L65_3 : List AStep := ⟨.faddr 1 (.t 1), (some 7), (some (6, true)), []⟩ :: ⟨.load 1 false (.t 7), (some 8), (some (6, true)), []⟩ :: L65_2
theorem v65_3 : VS L65_3.eq_1 := rfl
def L65_4 : List AStep := ⟨.call 61 [(.t 4)], (some 5), none, []⟩ :: ⟨.mov (.t 5), (some 6), none, []⟩ :: L65_3
theorem v65_4 : VS L65_4.eq_1 := rfl
def L65_5 : List AStep := ⟨.faddr 0 (.t 1), (some 3), none, []⟩ :: ⟨.load 1 false (.t 3), (some 4), none, []⟩ :: L65_4
theorem v65_5 : VS L65_5.eq_1 := rfl
def C65_0 : ACode := .seq (.reg L65_5) .ret
theorem u65_0 : VC C65_0.eq_1 := rfl
def C65_1 : ACode := .seq (.reg L65_0) C65_0
theorem u65_1 : VC C65_1.eq_1 := rfl
def F65 : AFunc := ⟨11, [.tmp 2], C65_1⟩
theorem cF65 : compB Try.prog 65 = some F65 := by kernel_rfl
attribute [local go_sem ↓] u65_0 u65_1 v65_0 v65_1 v65_2 v65_3 v65_4 v65_5
theorem c_okPair (p : Pair) (h : H) (hn : p.name.size < 2 ^ 62) : bm Try.prog 65 [.agg (encP p)] h = some (ib (okPair p), h) := by
  refine bm_eq cF65 ?_
  simp +contextual (maxSteps := 2000000) only [go_sem, Nat.reduceEqDiff, reduceCtorEq, Nat.reduceAdd, Nat.reduceLeDiff, F65, c_isName _ _ hn, c_isValue, okPair]
  (repeat' (first | refine And.intro ?_ ?_ | intro _)) <;> first | simp_all
/-! slices.IndexFunc(()impl.Pair,impl.Pair) -/
def L118_0 : List AStep := [⟨.mov (.c (.int .i64 0)), (some 4), none, []⟩]
theorem v118_0 : VS L118_0.eq_1 := rfl
def L118_1 : List AStep := [⟨.mov (.c (.int .i64 0)), (some 8), none, []⟩]
theorem v118_1 : VS L118_1.eq_1 := rfl
def L118_2 : List AStep := ⟨.mov (.t 0), (some 6), none, []⟩ :: ⟨.len (.t 6), (some 7), none, []⟩ :: L118_1
theorem v118_2 : VS L118_2.eq_1 := rfl
def L118_3 : List AStep := [⟨.bin .lss (.t 8) (.t 7), (some 9), none, []⟩]
theorem v118_3 : VS L118_3.eq_1 := rfl
def L118_4 : List AStep := [⟨.mov (.t 8), (some 10), none, []⟩, ⟨.mov (.t 10), (some 5), none, []⟩]
theorem v118_4 : VS L118_4.eq_1 := rfl
def L118_5 : List AStep := [⟨.load 2 true (.t 14), (some 15), none, []⟩, ⟨.callv (.t 11) [(.t 15)], (some 16), none, []⟩]
theorem v118_5 : VS L118_5.eq_1 := rfl
def L118_6 : List AStep := ⟨.mov (.t 5), (some 13), none, []⟩ :: ⟨.iaddr 2 (.t 12) (.t 13), (some 14), none, []⟩ :: L118_5
theorem v118_6 : VS L118_6.eq_1 := rfl
def L118_7 : List AStep := ⟨.mov (.t 1), (some 11), none, []⟩ :: ⟨.mov (.t 0), (some 12), none, []⟩ :: L118_6
theorem v118_7 : VS L118_7.eq_1 := rfl
def L118_8 : List AStep := [⟨.mov (.t 5), (some 17), none, []⟩, ⟨.mov (.t 17), (some 4), none, []⟩]
theorem v118_8 : VS L118_8.eq_1 := rfl
def L118_9 : List AStep := [⟨.bin .add (.t 8) (.c (.int .i64 1)), (some 18), none, []⟩, ⟨.mov (.t 18), (some 8), none, []⟩]
theorem v118_9 : VS L118_9.eq_1 := rfl
def L118_10 : List AStep := [⟨.mov (.c (.int .i64 (-1))), (some 4), none, []⟩]
theorem v118_10 : VS L118_10.eq_1 := rfl
def C118_0 : ACode := .cond (.t 9) .skip (.exit 0)
theorem u118_0 : VC C118_0.eq_1 := rfl
def C118_1 : ACode := .seq (.reg L118_8) .ret
theorem u118_1 : VC C118_1.eq_1 := rfl
def C118_2 : ACode := .cond (.t 16) C118_1 .skip
theorem u118_2 : VC C118_2.eq_1 := rfl
def C118_3 : ACode := .seq (.reg L118_7) C118_2
theorem u118_3 : VC C118_3.eq_1 := rfl
def C118_4 : ACode := .seq (.reg L118_4) C118_3
theorem u118_4 : VC C118_4.eq_1 := rfl
def C118_5 : ACode := .block 1 C118_4
theorem u118_5 : VC C118_5.eq_1 := rfl
def C118_6 : ACode := .seq C118_5 (.reg L118_9)
theorem u118_6 : VC C118_6.eq_1 := rfl
def C118_7 : ACode := .seq C118_0 C118_6
theorem u118_7 : VC C118_7.eq_1 := rfl
def C118_8 : ACode := .seq (.reg L118_3) C118_7
theorem u118_8 : VC C118_8.eq_1 := rfl
def C118_9 : ACode := .block 0 (.loop C118_8)
theorem u118_9 : VC C118_9.eq_1 := rfl
def C118_10 : ACode := .seq (.reg L118_2) C118_9
theorem u118_10 : VC C118_10.eq_1 := rfl
def C118_11 : ACode := .seq (.reg L118_10) .ret
theorem u118_11 : VC C118_11.eq_1 := rfl
def C118_12 : ACode := .seq C118_10 C118_11
theorem u118_12 : VC C118_12.eq_1 := rfl
def C118_13 : ACode := .seq (.reg L118_0) C118_12
theorem u118_13 : VC C118_13.eq_1 := rfl
def F118 : AFunc := ⟨19, [.tmp 4], C118_13⟩
theorem cF118 : compB Try.prog 118 = some F118 := by kernel_rfl
attribute [local go_sem ↓] u118_0 u118_1 u118_2 u118_3 u118_4 u118_5 u118_6 u118_7 u118_8 u118_9 u118_10 u118_11 u118_12 u118_13 v118_0 v118_1 v118_2 v118_3 v118_4 v118_5 v118_6 v118_7 v118_8 v118_9 v118_10
theorem c_indexP (l : List Pair) (v : AV) (f : Nat) (caps : List (Nat × Nat)) (p : Pair → Bool) (h : H) (hl : SlP h v l) (hn : l.length ≤ big) (hf : ∀ i (hi : i < l.length), ∀ x, x = l[i] → bm Try.prog f (.agg (encP x) :: caps.map fun a => .one (.ptr (some a))) h = some (ib (p x), h)) :
    bm Try.prog 118 [v, .one (.fn f caps)] h = some (ii (idx p l), h) := by
  refine bm_eq cF118 ?_
  simp +contextual (maxSteps := 2000000) only [go_sem, Nat.reduceEqDiff, reduceCtorEq, Nat.reduceAdd, Nat.reduceLeDiff, F118, hl.len]
  refine wpC_loop (fun i T L h' => h' = h ∧ T 0 = .v v ∧ T 1 = .v (.one (.fn f caps)) ∧ T 7 = .v (.one (.int .i64 l.length)) ∧ T 8 = .v (.one (.int .i64 i)) ∧ Pre p false l i) l.length ?_ ?_ (Nat.zero_le _) ?_
  · rintro i T L h' hi ⟨rfl, h0, h1, h7, h8, hp⟩
    simp +contextual (maxSteps := 2000000) only [go_sem, Nat.reduceEqDiff, reduceCtorEq, Nat.reduceAdd, Nat.reduceLeDiff, h0, h1, h7, h8, hl.iaddr hi, hl.whole hi, hf i hi _ rfl, lt_true hi]
    (repeat' (first | refine And.intro ?_ ?_ | intro _)) <;> first | rfl | rw [wrap_next hi (big_lt hn)] | exact hp.next hi ‹_› | rw [idx_hit hi hp ‹_›]
  · rintro T L h' ⟨rfl, h0, h1, h7, h8, hp⟩
    simp +contextual (maxSteps := 2000000) only [go_sem, Nat.reduceEqDiff, reduceCtorEq, Nat.reduceAdd, Nat.reduceLeDiff, h0, h1, h7, h8, lt_false, idx_none hp]
  · simp +contextual (maxSteps := 2000000) only [go_sem, Nat.reduceEqDiff, reduceCtorEq, Nat.reduceAdd, Nat.reduceLeDiff]
    (repeat' (first | refine And.intro ?_ ?_ | intro _)) <;> first | rfl | exact Pre.zero
/-! slices.ContainsFunc(()impl.Pair,impl.Pair) -/
def L157_0 : List AStep := [⟨.mov (.c (.bool false)), (some 4), none, []⟩]
theorem v157_0 : VS L157_0.eq_1 := rfl
def L157_1 : List AStep := [⟨.mov (.t 8), (some 4), none, []⟩]
theorem v157_1 : VS L157_1.eq_1 := rfl
def L157_2 : List AStep := ⟨.call 118 [(.t 5), (.t 6)], (some 7), none, []⟩ :: ⟨.bin .geq (.t 7) (.c (.int .i64 0)), (some 8), none, []⟩ :: L157_1
theorem v157_2 : VS L157_2.eq_1 := rfl
def L157_3 : List AStep := ⟨.mov (.t 0), (some 5), none, []⟩ :: ⟨.mov (.t 1), (some 6), none, []⟩ :: L157_2
theorem v157_3 : VS L157_3.eq_1 := rfl
def C157_0 : ACode := .seq (.reg L157_3) .ret
theorem u157_0 : VC C157_0.eq_1 := rfl
def C157_1 : ACode := .seq (.reg L157_0) C157_0
theorem u157_1 : VC C157_1.eq_1 := rfl
def F157 : AFunc := ⟨9, [.tmp 4], C157_1⟩
theorem cF157 : compB Try.prog 157 = some F157 := by kernel_rfl
attribute [local go_sem ↓] u157_0 u157_1 v157_0 v157_1 v157_2 v157_3
theorem c_hasP (l : List Pair) (v : AV) (f : Nat) (caps : List (Nat × Nat)) (p : Pair → Bool) (h : H) (hl : SlP h v l) (hn : l.length ≤ big) (hf : ∀ i (hi : i < l.length), ∀ x, x = l[i] → bm Try.prog f (.agg (encP x) :: caps.map fun a => .one (.ptr (some a))) h = some (ib (p x), h)) :
    bm Try.prog 157 [v, .one (.fn f caps)] h = some (ib (l.any p), h) := by
  refine bm_eq cF157 ?_
  have e := idx_any (p := p) (l := l)
  simp +contextual (maxSteps := 2000000) only [go_sem, Nat.reduceEqDiff, reduceCtorEq, Nat.reduceAdd, Nat.reduceLeDiff, F157, c_indexP l v f caps p h hl hn hf, e]
/-! slices.IndexFunc(()int,int) -/
def L149_0 : List AStep := [⟨.mov (.c (.int .i64 0)), (some 4), none, []⟩]
theorem v149_0 : VS L149_0.eq_1 := rfl
def L149_1 : List AStep := [⟨.mov (.c (.int .i64 0)), (some 8), none, []⟩]
theorem v149_1 : VS L149_1.eq_1 := rfl
def L149_2 : List AStep := ⟨.mov (.t 0), (some 6), none, []⟩ :: ⟨.len (.t 6), (some 7), none, []⟩ :: L149_1
theorem v149_2 : VS L149_2.eq_1 := rfl
def L149_3 : List AStep := [⟨.bin .lss (.t 8) (.t 7), (some 9), none, []⟩]
theorem v149_3 : VS L149_3.eq_1 := rfl
def L149_4 : List AStep := [⟨.mov (.t 8), (some 10), none, []⟩, ⟨.mov (.t 10), (some 5), none, []⟩]
theorem v149_4 : VS L149_4.eq_1 := rfl
def L149_5 : List AStep := [⟨.load 1 false (.t 14), (some 15), none, []⟩, ⟨.callv (.t 11) [(.t 15)], (some 16), none, []⟩]
theorem v149_5 : VS L149_5.eq_1 := rfl
def L149_6 : List AStep := ⟨.mov (.t 5), (some 13), none, []⟩ :: ⟨.iaddr 1 (.t 12) (.t 13), (some 14), none, []⟩ :: L149_5
theorem v149_6 : VS L149_6.eq_1 := rfl
def L149_7 : List AStep := ⟨.mov (.t 1), (some 11), none, []⟩ :: ⟨.mov (.t 0), (some 12), none, []⟩ :: L149_6
theorem v149_7 : VS L149_7.eq_1 := rfl
def L149_8 : List AStep := [⟨.mov (.t 5), (some 17), none, []⟩, ⟨.mov (.t 17), (some 4), none, []⟩]
theorem v149_8 : VS L149_8.eq_1 := rfl
def L149_9 : List AStep := [⟨.bin .add (.t 8) (.c (.int .i64 1)), (some 18), none, []⟩, ⟨.mov (.t 18), (some 8), none, []⟩]
theorem v149_9 : VS L149_9.eq_1 := rfl
def L149_10 : List AStep := [⟨.mov (.c (.int .i64 (-1))), (some 4), none, []⟩]
theorem v149_10 : VS L149_10.eq_1 := rfl
def C149_0 : ACode := .cond (.t 9) .skip (.exit 0)
theorem u149_0 : VC C149_0.eq_1 := rfl
def C149_1 : ACode := .seq (.reg L149_8) .ret
theorem u149_1 : VC C149_1.eq_1 := rfl
def C149_2 : ACode := .cond (.t 16) C149_1 .skip
theorem u149_2 : VC C149_2.eq_1 := rfl
def C149_3 : ACode := .seq (.reg L149_7) C149_2
theorem u149_3 : VC C149_3.eq_1 := rfl
def C149_4 : ACode := .seq (.reg L149_4) C149_3
theorem u149_4 : VC C149_4.eq_1 := rfl
def C149_5 : ACode := .block 1 C149_4
theorem u149_5 : VC C149_5.eq_1 := rfl
def C149_6 : ACode := .seq C149_5 (.reg L149_9)
theorem u149_6 : VC C149_6.eq_1 := rfl
def C149_7 : ACode := .seq C149_0 C149_6
theorem u149_7 : VC C149_7.eq_1 := rfl
def C149_8 : ACode := .seq (.reg L149_3) C149_7
theorem u149_8 : VC C149_8.eq_1 := rfl
def C149_9 : ACode := .block 0 (.loop C149_8)
theorem u149_9 : VC C149_9.eq_1 := rfl
def C149_10 : ACode := .seq (.reg L149_2) C149_9
theorem u149_10 : VC C149_10.eq_1 := rfl
def C149_11 : ACode := .seq (.reg L149_10) .ret
theorem u149_11 : VC C149_11.eq_1 := rfl
def C149_12 : ACode := .seq C149_10 C149_11
theorem u149_12 : VC C149_12.eq_1 := rfl
def C149_13 : ACode := .seq (.reg L149_0) C149_12
theorem u149_13 : VC C149_13.eq_1 := rfl
def F149 : AFunc := ⟨19, [.tmp 4], C149_13⟩
theorem cF149 : compB Try.prog 149 = some F149 := by kernel_rfl
attribute [local go_sem ↓] u149_0 u149_1 u149_2 u149_3 u149_4 u149_5 u149_6 u149_7 u149_8 u149_9 u149_10 u149_11 u149_12 u149_13 v149_0 v149_1 v149_2 v149_3 v149_4 v149_5 v149_6 v149_7 v149_8 v149_9 v149_10
theorem c_indexI (l : List Int) (v : AV) (f : Nat) (caps : List (Nat × Nat)) (p : Int → Bool) (h : H) (hl : SlI h v l) (hn : l.length ≤ big) (hf : ∀ i (hi : i < l.length), ∀ x, x = l[i] → bm Try.prog f (.one (.int .i64 x) :: caps.map fun a => .one (.ptr (some a))) h = some (ib (p x), h)) :
    bm Try.prog 149 [v, .one (.fn f caps)] h = some (ii (idx p l), h) := by
  refine bm_eq cF149 ?_
  simp +contextual (maxSteps := 2000000) only [go_sem, Nat.reduceEqDiff, reduceCtorEq, Nat.reduceAdd, Nat.reduceLeDiff, F149, hl.len]
  refine wpC_loop (fun i T L h' => h' = h ∧ T 0 = .v v ∧ T 1 = .v (.one (.fn f caps)) ∧ T 7 = .v (.one (.int .i64 l.length)) ∧ T 8 = .v (.one (.int .i64 i)) ∧ Pre p false l i) l.length ?_ ?_ (Nat.zero_le _) ?_
  · rintro i T L h' hi ⟨rfl, h0, h1, h7, h8, hp⟩
    simp +contextual (maxSteps := 2000000) only [go_sem, Nat.reduceEqDiff, reduceCtorEq, Nat.reduceAdd, Nat.reduceLeDiff, h0, h1, h7, h8, hl.iaddr hi, hl.oneO hi, hf i hi _ rfl, lt_true hi]
    (repeat' (first | refine And.intro ?_ ?_ | intro _)) <;> first | rfl | rw [wrap_next hi (big_lt hn)] | exact hp.next hi ‹_› | rw [idx_hit hi hp ‹_›]
  · rintro T L h' ⟨rfl, h0, h1, h7, h8, hp⟩
    simp +contextual (maxSteps := 2000000) only [go_sem, Nat.reduceEqDiff, reduceCtorEq, Nat.reduceAdd, Nat.reduceLeDiff, h0, h1, h7, h8, lt_false, idx_none hp]
  · simp +contextual (maxSteps := 2000000) only [go_sem, Nat.reduceEqDiff, reduceCtorEq, Nat.reduceAdd, Nat.reduceLeDiff]
    (repeat' (first | refine And.intro ?_ ?_ | intro _)) <;> first | rfl | exact Pre.zero
/-! slices.ContainsFunc(()int,int) -/
def L120_0 : List AStep := [⟨.mov (.c (.bool false)), (some 4), none, []⟩]
theorem v120_0 : VS L120_0.eq_1 := rfl
def L120_1 : List AStep := [⟨.mov (.t 8), (some 4), none, []⟩]
theorem v120_1 : VS L120_1.eq_1 := rfl
def L120_2 : List AStep := ⟨.call 149 [(.t 5), (.t 6)], (some 7), none, []⟩ :: ⟨.bin .geq (.t 7) (.c (.int .i64 0)), (some 8), none, []⟩ :: L120_1
theorem v120_2 : VS L120_2.eq_1 := rfl
def L120_3 : List AStep := ⟨.mov (.t 0), (some 5), none, []⟩ :: ⟨.mov (.t 1), (some 6), none, []⟩ :: L120_2
theorem v120_3 : VS L120_3.eq_1 := rfl
def C120_0 : ACode := .seq (.reg L120_3) .ret
theorem u120_0 : VC C120_0.eq_1 := rfl
def C120_1 : ACode := .seq (.reg L120_0) C120_0
theorem u120_1 : VC C120_1.eq_1 := rfl
def F120 : AFunc := ⟨9, [.tmp 4], C120_1⟩
theorem cF120 : compB Try.prog 120 = some F120 := by kernel_rfl
attribute [local go_sem ↓] u120_0 u120_1 v120_0 v120_1 v120_2 v120_3
theorem c_hasI (l : List Int) (v : AV) (f : Nat) (caps : List (Nat × Nat)) (p : Int → Bool) (h : H) (hl : SlI h v l) (hn : l.length ≤ big) (hf : ∀ i (hi : i < l.length), ∀ x, x = l[i] → bm Try.prog f (.one (.int .i64 x) :: caps.map fun a => .one (.ptr (some a))) h = some (ib (p x), h)) :
    bm Try.prog 120 [v, .one (.fn f caps)] h = some (ib (l.any p), h) := by
  refine bm_eq cF120 ?_
  have e := idx_any (p := p) (l := l)
  simp +contextual (maxSteps := 2000000) only [go_sem, Nat.reduceEqDiff, reduceCtorEq, Nat.reduceAdd, Nat.reduceLeDiff, F120, c_indexI l v f caps p h hl hn hf, e]
/-! impl.pairAt$1 -/
def L119_0 : List AStep := [⟨.box 53 (.t 0), (some 2), none, []⟩, ⟨.mov (.c (.bool false)), (some 3), none, []⟩]
theorem v119_0 : VS L119_0.eq_1 := rfl
def L119_1 : List AStep := [⟨.mov (.t 7), (some 3), none, []⟩]
theorem v119_1 : VS L119_1.eq_1 := rfl
def L119_2 : List AStep := ⟨.load 1 false (.t 1), (some 6), none, []⟩ :: ⟨.bin .eql (.t 5) (.t 6), (some 7), none, []⟩ :: L119_1
theorem v119_2 : VS L119_2.eq_1 := rfl
def L119_3 : List AStep := ⟨.faddr 0 (.t 2), (some 4), none, []⟩ :: ⟨.load 1 false (.t 4), (some 5), none, []⟩ :: L119_2
theorem v119_3 : VS L119_3.eq_1 := rfl
def C119_0 : ACode := .seq (.reg L119_3) .ret
theorem u119_0 : VC C119_0.eq_1 := rfl
def C119_1 : ACode := .seq (.reg L119_0) C119_0
theorem u119_1 : VC C119_1.eq_1 := rfl
def F119 : AFunc := ⟨8, [.tmp 3], C119_1⟩
theorem cF119 : compB Try.prog 119 = some F119 := by kernel_rfl
attribute [local go_sem ↓] u119_0 u119_1 v119_0 v119_1 v119_2 v119_3
theorem c_pairAt1 (p : Pair) (a : Nat × Nat) (s : ByteArray) (h : H) (ha : loadO 1 false h (.one (.ptr (some a))) = some (.one (.str s))) : bm Try.prog 119 [.agg (encP p), .one (.ptr (some a))] h = some (ib (decide (p.name = s)), h) := by
  refine bm_eq cF119 ?_
  simp +contextual (maxSteps := 2000000) only [go_sem, Nat.reduceEqDiff, reduceCtorEq, Nat.reduceAdd, Nat.reduceLeDiff, F119, ha]
/-! impl.pairAt -/
def L66_0 : List AStep := [⟨.box 9 (.t 1), (some 3), none, []⟩, ⟨.mov (.c (.int .i64 0)), (some 4), none, []⟩]
theorem v66_0 : VS L66_0.eq_1 := rfl
def L66_1 : List AStep := [⟨.call 118 [(.t 5), (.t 6)], (some 7), none, []⟩, ⟨.mov (.t 7), (some 4), none, []⟩]
theorem v66_1 : VS L66_1.eq_1 := rfl
def L66_2 : List AStep := ⟨.mov (.t 0), (some 5), none, []⟩ :: ⟨.mkfn 119 [(.t 3)], (some 6), none, []⟩ :: L66_1
theorem v66_2 : VS L66_2.eq_1 := rfl
def C66_0 : ACode := .seq (.reg L66_2) .ret
theorem u66_0 : VC C66_0.eq_1 := rfl
def C66_1 : ACode := .seq (.reg L66_0) C66_0
theorem u66_1 : VC C66_1.eq_1 := rfl
def F66 : AFunc := ⟨8, [.tmp 4], C66_1⟩
theorem cF66 : compB Try.prog 66 = some F66 := by kernel_rfl
attribute [local go_sem ↓] u66_0 u66_1 v66_0 v66_1 v66_2
theorem c_pairAtI (l : List Pair) (v : AV) (s : ByteArray) (h : H) (hl : SlP h v l) (hn : smP l) : bm Try.prog 66 [v, .one (.str s)] h = some (ii (pairAt l s), h) := by
  refine bm_eq cF66 ?_
  have e := c_indexP l v 119 [(h.n, 0)] (fun p => decide (p.name = s)) (h.alloc [.str s] 9) (hl.grow (Grow.alloc _ _ _)) hn.1 (fun i hi x hx => c_pairAt1 x (h.n, 0) s _ (Box.new.one rfl))
  simp +contextual (maxSteps := 2000000) only [go_sem, Nat.reduceEqDiff, reduceCtorEq, Nat.reduceAdd, Nat.reduceLeDiff, F66, e, pairAt]
/-! impl.areValues$1 -/
def L121_0 : List AStep := [⟨.mov (.c (.bool false)), (some 2), none, []⟩]
theorem v121_0 : VS L121_0.eq_1 := rfl
def L121_1 : List AStep := [⟨.not (.t 4), (some 5), none, []⟩, ⟨.mov (.t 5), (some 2), none, []⟩]
theorem v121_1 : VS L121_1.eq_1 := rfl
def L121_2 : List AStep := ⟨.mov (.t 0), (some 3), none, []⟩ :: ⟨.call 99 [(.t 3)], (some 4), none, []⟩ :: L121_1
theorem v121_2 : VS L121_2.eq_1 := rfl
def C121_0 : ACode := .seq (.reg L121_2) .ret
theorem u121_0 : VC C121_0.eq_1 := rfl
def C121_1 : ACode := .seq (.reg L121_0) C121_0
theorem u121_1 : VC C121_1.eq_1 := rfl
def F121 : AFunc := ⟨6, [.tmp 2], C121_1⟩
theorem cF121 : compB Try.prog 121 = some F121 := by kernel_rfl
attribute [local go_sem ↓] u121_0 u121_1 v121_0 v121_1 v121_2
theorem c_areValues1 (n : Int) (h : H) : bm Try.prog 121 [.one (.int .i64 n)] h = some (ib (!(okNum n)), h) := by
  refine bm_eq cF121 ?_
  simp +contextual (maxSteps := 2000000) only [go_sem, Nat.reduceEqDiff, reduceCtorEq, Nat.reduceAdd, Nat.reduceLeDiff, F121, c_isValue]
/-! impl.areValues -/
def L67_0 : List AStep := [⟨.mov (.c (.bool false)), (some 2), none, []⟩]
theorem v67_0 : VS L67_0.eq_1 := rfl
def L67_1 : List AStep := [⟨.not (.t 4), (some 5), none, []⟩, ⟨.mov (.t 5), (some 2), none, []⟩]
theorem v67_1 : VS L67_1.eq_1 := rfl
def L67_2 : List AStep := ⟨.mov (.t 0), (some 3), none, []⟩ :: ⟨.call 120 [(.t 3), (.c (.fn 121 []))], (some 4), none, []⟩ :: L67_1
theorem v67_2 : VS L67_2.eq_1 := rfl
def C67_0 : ACode := .seq (.reg L67_2) .ret
theorem u67_0 : VC C67_0.eq_1 := rfl
def C67_1 : ACode := .seq (.reg L67_0) C67_0
theorem u67_1 : VC C67_1.eq_1 := rfl
def F67 : AFunc := ⟨6, [.tmp 2], C67_1⟩
theorem cF67 : compB Try.prog 67 = some F67 := by kernel_rfl
attribute [local go_sem ↓] u67_0 u67_1 v67_0 v67_1 v67_2
theorem c_areValues (l : List Int) (v : AV) (h : H) (hl : SlI h v l) (hn : l.length ≤ big) : bm Try.prog 67 [v] h = some (ib (l.all okNum), h) := by
  refine bm_eq cF67 ?_
  have e := c_hasI l v 121 [] (fun n => !(okNum n)) h hl hn (fun i hi x hx => c_areValues1 x h)
  simp +contextual (maxSteps := 2000000) only [go_sem, Nat.reduceEqDiff, reduceCtorEq, Nat.reduceAdd, Nat.reduceLeDiff, F67, e]
  simp [List.not_any_eq_all_not]
/-! impl.ValidFlat -/
def L17_0 : List AStep := [⟨.box 27 (.t 0), (some 1), none, []⟩, ⟨.mov (.c (.bool false)), (some 2), none, []⟩]
theorem v17_0 : VS L17_0.eq_1 := rfl
def L17_1 : List AStep := [⟨.len (.t 6), (some 7), none, []⟩, ⟨.mov (.c (.int .i64 0)), (some 8), none, []⟩]
theorem v17_1 : VS L17_1.eq_1 := rfl
def L17_2 : List AStep := ⟨.faddr 1 (.t 1), (some 5), none, []⟩ :: ⟨.load 1 false (.t 5), (some 6), none, []⟩ :: L17_1
theorem v17_2 : VS L17_2.eq_1 := rfl
def L17_3 : List AStep := [⟨.bin .lss (.t 8) (.t 7), (some 9), none, []⟩]
theorem v17_3 : VS L17_3.eq_1 := rfl
def L17_4 : List AStep := [⟨.mov (.t 10), (some 3), none, []⟩, ⟨.store 2 (.t 4) (.t 12), none, none, []⟩]
theorem v17_4 : VS L17_4.eq_1 := rfl
def L17_5 : List AStep := ⟨.load 2 true (.t 11), (some 12), none, []⟩ :: ⟨.alloc 53 [(.str (strOfNums [])), (.int .i64 0)], (some 4), none, []⟩ :: L17_4
theorem v17_5 : VS L17_5.eq_1 := rfl
def L17_6 : List AStep := ⟨.mov (.t 8), (some 10), none, []⟩ :: ⟨.iaddr 2 (.t 6) (.t 8), (some 11), none, []⟩ :: L17_5
theorem v17_6 : VS L17_6.eq_1 := rfl
def L17_7 : List AStep := [⟨.pick (.t 16) (.c (.bool true)) (.t 24), (some 25), none, []⟩]
theorem v17_7 : VS L17_7.eq_1 := rfl
def L17_8 : List AStep := ⟨.call 66 [(.t 20), (.t 22)], (some 23), (some (16, false)), []⟩ :: ⟨.bin .geq (.t 23) (.c (.int .i64 0)), (some 24), (some (16, false)), []⟩ :: L17_7
theorem v17_8 : VS L17_8.eq_1 := rfl
def L17_9 : List AStep := ⟨.faddr 0 (.t 4), (some 21), (some (16, false)), []⟩ :: ⟨.load 1 false (.t 21), (some 22), (some (16, false)), []⟩ :: L17_8
theorem v17_9 : VS L17_9.eq_1 := rfl
def L17_10 : List AStep := ⟨.mov (.t 3), (some 19), (some (16, false)), []⟩ :: ⟨.slice 53 2 (.t 18) none (some (.t 19)) none, (some 20), (some (16, false)), []⟩ :: L17_9
theorem v17_10 : VS L17_10.eq_1 := rfl
def L17_11 : List AStep := ⟨.faddr 1 (.t 1), (some 17), (some (16, false)), []⟩ :: ⟨.load 1 false (.t 17), (some 18), (some (16, false)), []⟩ :: L17_10
theorem v17_11 : VS L17_11.eq_1 := rfl
def L17_12 : List AStep := ⟨.not (.t 14), (some 15), none, []⟩ :: ⟨.mov (.t 15), (some 16), none, []⟩ :: L17_11
theorem v17_12 : VS L17_12.eq_1 := rfl
def L17_13 : List AStep := ⟨.load 2 true (.t 4), (some 13), none, []⟩ :: ⟨.call 65 [(.t 13)], (some 14), none, []⟩ :: L17_12
theorem v17_13 : VS L17_13.eq_1 := rfl
def L17_14 : List AStep := [⟨.mov (.c (.bool false)), (some 2), none, []⟩]
theorem v17_14 : VS L17_14.eq_1 := rfl
def L17_15 : List AStep := [⟨.bin .add (.t 8) (.c (.int .i64 1)), (some 26), none, []⟩, ⟨.mov (.t 26), (some 8), none, []⟩]
theorem v17_15 : VS L17_15.eq_1 := rfl
def L17_16 : List AStep := [⟨.pick (.t 37) (.t 40) (.c (.bool false)), (some 41), none, []⟩, ⟨.mov (.t 41), (some 2), none, []⟩]
theorem v17_16 : VS L17_16.eq_1 := rfl
def L17_17 : List AStep := ⟨.load 1 false (.t 38), (some 39), (some (37, true)), []⟩ :: ⟨.call 67 [(.t 39)], (some 40), (some (37, true)), []⟩ :: L17_16
theorem v17_17 : VS L17_17.eq_1 := rfl
def L17_18 : List AStep := ⟨.mov (.t 36), (some 37), none, []⟩ :: ⟨.faddr 0 (.t 1), (some 38), (some (37, true)), []⟩ :: L17_17
theorem v17_18 : VS L17_18.eq_1 := rfl
def L17_19 : List AStep := ⟨.bin .leq (.t 34) (.c (.int .i64 8)), (some 35), (some (31, true)), []⟩ :: ⟨.pick (.t 31) (.t 35) (.c (.bool false)), (some 36), none, []⟩ :: L17_18
theorem v17_19 : VS L17_19.eq_1 := rfl
def L17_20 : List AStep := ⟨.load 1 false (.t 32), (some 33), (some (31, true)), []⟩ :: ⟨.len (.t 33), (some 34), (some (31, true)), []⟩ :: L17_19
theorem v17_20 : VS L17_20.eq_1 := rfl
def L17_21 : List AStep := ⟨.mov (.t 30), (some 31), none, []⟩ :: ⟨.faddr 1 (.t 1), (some 32), (some (31, true)), []⟩ :: L17_20
theorem v17_21 : VS L17_21.eq_1 := rfl
def L17_22 : List AStep := ⟨.len (.t 28), (some 29), none, []⟩ :: ⟨.bin .leq (.t 29) (.c (.int .i64 8)), (some 30), none, []⟩ :: L17_21
theorem v17_22 : VS L17_22.eq_1 := rfl
def L17_23 : List AStep := ⟨.faddr 0 (.t 1), (some 27), none, []⟩ :: ⟨.load 1 false (.t 27), (some 28), none, []⟩ :: L17_22
theorem v17_23 : VS L17_23.eq_1 := rfl
def C17_0 : ACode := .cond (.t 9) .skip (.exit 0)
theorem u17_0 : VC C17_0.eq_1 := rfl
def C17_1 : ACode := .seq (.reg L17_14) .ret
theorem u17_1 : VC C17_1.eq_1 := rfl
def C17_2 : ACode := .cond (.t 25) C17_1 .skip
theorem u17_2 : VC C17_2.eq_1 := rfl
def C17_3 : ACode := .seq (.reg L17_13) C17_2
theorem u17_3 : VC C17_3.eq_1 := rfl
def C17_4 : ACode := .seq (.reg L17_6) C17_3
theorem u17_4 : VC C17_4.eq_1 := rfl
def C17_5 : ACode := .block 1 C17_4
theorem u17_5 : VC C17_5.eq_1 := rfl
def C17_6 : ACode := .seq C17_5 (.reg L17_15)
theorem u17_6 : VC C17_6.eq_1 := rfl
def C17_7 : ACode := .seq C17_0 C17_6
theorem u17_7 : VC C17_7.eq_1 := rfl
def C17_8 : ACode := .seq (.reg L17_3) C17_7
theorem u17_8 : VC C17_8.eq_1 := rfl
def C17_9 : ACode := .block 0 (.loop C17_8)
theorem u17_9 : VC C17_9.eq_1 := rfl
def C17_10 : ACode := .seq (.reg L17_2) C17_9
theorem u17_10 : VC C17_10.eq_1 := rfl
def C17_11 : ACode := .seq (.reg L17_23) .ret
theorem u17_11 : VC C17_11.eq_1 := rfl
def C17_12 : ACode := .seq C17_10 C17_11
theorem u17_12 : VC C17_12.eq_1 := rfl
def C17_13 : ACode := .seq (.reg L17_0) C17_12
theorem u17_13 : VC C17_13.eq_1 := rfl
def F17 : AFunc := ⟨42, [.tmp 2], C17_13⟩
theorem cF17 : compB Try.prog 17 = some F17 := by kernel_rfl
attribute [local go_sem ↓] u17_0 u17_1 u17_2 u17_3 u17_4 u17_5 u17_6 u17_7 u17_8 u17_9 u17_10 u17_11 u17_12 u17_13 v17_0 v17_1 v17_2 v17_3 v17_4 v17_5 v17_6 v17_7 v17_8 v17_9 v17_10 v17_11 v17_12 v17_13 v17_14 v17_15 v17_16 v17_17 v17_18 v17_19 v17_20 v17_21 v17_22 v17_23
theorem c_ValidFlat (f : Flat) (pv nv : CV) (h : H) (hp : SlI h (.one pv) f.pl) (hq : SlP h (.one nv) f.nl) (hn : smF f) : bm Try.prog 17 [.agg [pv, nv]] h = some (ib (okFlat f), h) := by
  refine bm_eq cF17 ?_
  simp +contextual (maxSteps := 2000000) only [go_sem, Nat.reduceEqDiff, reduceCtorEq, Nat.reduceAdd, Nat.reduceLeDiff, F17, hq.len]
  refine wpC_loop (fun i T L h' => h' = h ∧ T 1 = .lp 1 0 ∧ (L 1).2 = [pv, nv] ∧ T 6 = .v (.one nv) ∧ T 7 = .v (.one (.int .i64 f.nl.length)) ∧ T 8 = .v (.one (.int .i64 i)) ∧ Upto (newAt Pair.name f.nl) i ∧ Pre okPair true f.nl i) f.nl.length ?_ ?_ (Nat.zero_le _) ?_
  · rintro i T L h' hi ⟨rfl, t1, l1, t6, t7, t8, hu, hpre⟩
    obtain ⟨v', e1, s1⟩ := hq.takeO (i := i) (by omega) (kd := .i64)
    have e2 : decide (pairAt (f.nl.take i) f.nl[i].name ≥ 0) = !(newAt Pair.name f.nl i) := newAt_ge hi
    simp +contextual (maxSteps := 2000000) only [go_sem, Nat.reduceEqDiff, reduceCtorEq, Nat.reduceAdd, Nat.reduceLeDiff, e2, t1, l1, t6, t7, t8, hq.iaddr hi, hq.whole hi, lt_true hi, e1, c_okPair _ _ (hn.nl.at hi), c_pairAtI _ _ _ _ s1 (hn.nl.take i)]
    (repeat' (first | refine And.intro ?_ ?_ | intro _)) <;> first | rfl | rw [wrap_next hi hn.nl.len] | (refine hu.next ?_; simp_all; done) | (refine hpre.next hi ?_; simp_all; done) | (rw [okFlat, apart_not hi] <;> first | rfl | (simp_all; done)) | (rw [okFlat, all_stop (p := okPair) hi] <;> first | (simp; done) | (simp_all; done))
  · rintro T L h' ⟨rfl, t1, l1, t6, t7, t8, hu, hpre⟩
    simp +contextual (maxSteps := 2000000) only [go_sem, Nat.reduceEqDiff, reduceCtorEq, Nat.reduceAdd, Nat.reduceLeDiff, t1, l1, t6, t7, t8, hq.len, hp.len, lt_false, c_areValues _ _ _ hp hn.pl, okFlat, apart_of hu, hpre.all]
    (repeat' (first | refine And.intro ?_ ?_ | intro _)) <;> first | rfl | simp_all
  · simp +contextual (maxSteps := 2000000) only [go_sem, Nat.reduceEqDiff, reduceCtorEq, Nat.reduceAdd, Nat.reduceLeDiff]
    (repeat' (first | refine And.intro ?_ ?_ | intro _)) <;> first | rfl | exact Upto.zero | exact Pre.zero
end Go.Proofs.Ytekkimfdcbgcoaa.Am
