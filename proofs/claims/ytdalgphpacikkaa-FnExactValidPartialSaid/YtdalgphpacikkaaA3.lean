/- Contracts of the program: numbers, names, pairs, flat calls and signatures that are valid. -/
import Derived.Test.YtdalgphpacikkaaDat
namespace Go.Proofs.Ytdalgphpacikkaa.Am
open Go
set_option maxRecDepth 100000
set_option maxHeartbeats 4000000
set_option linter.unusedSimpArgs false
set_option linter.unusedVariables false
attribute [local go_sem ↓] bv_t bv_c ev_t ev_c put_same put_ne put_none kill_at pro_at lb_same lb_ne start_zero start_succ wpC_seq wpC_reg wpC_cond wpC_block wpC_skip wpC_exit wpC_ret thenQ_normal thenQ_exit thenQ_ret inBlk_normal inBlk_exit inBlk_ret wpS_nil wpS_step wpS_again wpS_guard wpO_mov wpO_load wpO_faddr wpO_nilCheck wpO_pick wpO_build wpO_bin wpO_eqb wpO_eqst wpO_eqnil wpO_not wpO_conv wpO_bytesStr wpO_iaddr wpO_idxStr wpO_field wpO_extract wpO_len wpO_lenStr wpO_cap wpO_min wpO_slice wpO_sliceStr wpO_alloc wpO_box wpO_store wpO_call wpO_callv wpO_mkfn wpO_buildSlice wpO_mkslice wpO_append wpO_appz proA_nil proA_cons tmpX_nil tmpX_tmp tmpX_cell doneB_normal doneB_ret agK_cons agK_nil agK_guard agG_tt agG_ff agG_tf agG_ft agG_undef pureB_load results_one results_two results_nil resBs_cons resBs_nil resB_tmp resB_cell
attribute [local go_sem] kill_v kill_lp_ne kill_lp_same pro_v pro_lp_same pro_lp_ne av_v av_lp optB_some optX_some valX_eq ldX_lp ldX_v faX_lp faX_v ncX_lp ncX_ptr ncX_fn boxK_one boxK_agg stL_some stK_lp_one stK_lp_agg stK_v_one stK_v_agg proM_v proM_lp callG_mk callVG_mk callvK_fn fnG_mk ptrsA_nil ptrsA_cons callH_some whenA_true whenA_false guardH_tt guardH_ff guardH_tf guardH_ft guardH_undef agV_one agV_agg lenO_sl lenStrO_str notO_bool pickO_bool convO_int eqbO_bool eqnilO_sl extractO_tup capO_sl minO_int loadL_one loadL_all storeL_eq fillA_nil fillA_one fillA_agg nat_ge neg_ge nat_lt neg_lt buildO bin_add bin_sub bin_mul bin_eql bin_neq bin_lss bin_leq bin_gtr bin_geq str_eql str_neq str_lss str_leq str_gtr str_geq retK_some endK_mk gcK_same gcK_int gcK_bool tupO_one tupO_agg rdy_self ib ii Option.map_none Option.map_some Option.some.injEq exists_eq_left' exists_eq_left ne_eq not_false_eq_true if_true if_false List.map_cons List.map_nil List.getElem?_cons_zero List.getElem?_cons_succ List.length_cons List.length_nil List.take_succ_cons List.take_zero List.take_nil List.drop_succ_cons List.drop_zero List.drop_nil List.cons_append List.nil_append List.append_nil List.set_cons_zero List.set_cons_succ Nat.zero_add forall_const true_and and_true and_self Bool.false_eq_true false_implies true_implies implies_true Bool.not_true Bool.not_false Bool.not_eq_true' Bool.not_eq_false' beq_self_eq_true Bool.bne_true Bool.bne_false
attribute [local go_sem] lenI lenS lenP lenQ lenB lenL lenT encI_0 encS_0 encP_0 encP_1 encQ_0 encQ_1 encQ_2 encQ_3 encB_0 encB_1 encL_0 encL_1 encT_0 encT_1
attribute [local go_sem low] whenA_bool guardH_bool
/-! impl.in -/
def L94_0 : List AStep := [⟨.mov (.c (.bool false)), (some 6), none, []⟩]
theorem v94_0 : VS L94_0.eq_1 := rfl
def L94_1 : List AStep := [⟨.mov (.t 14), (some 6), none, []⟩]
theorem v94_1 : VS L94_1.eq_1 := rfl
def L94_2 : List AStep := ⟨.bin .leq (.t 11) (.t 12), (some 13), (some (10, true)), []⟩ :: ⟨.pick (.t 10) (.t 13) (.c (.bool false)), (some 14), none, []⟩ :: L94_1
theorem v94_2 : VS L94_2.eq_1 := rfl
def L94_3 : List AStep := ⟨.mov (.t 0), (some 11), (some (10, true)), []⟩ :: ⟨.mov (.t 2), (some 12), (some (10, true)), []⟩ :: L94_2
theorem v94_3 : VS L94_3.eq_1 := rfl
def L94_4 : List AStep := ⟨.bin .geq (.t 7) (.t 8), (some 9), none, []⟩ :: ⟨.mov (.t 9), (some 10), none, []⟩ :: L94_3
theorem v94_4 : VS L94_4.eq_1 := rfl
def L94_5 : List AStep := ⟨.mov (.t 0), (some 7), none, []⟩ :: ⟨.mov (.t 1), (some 8), none, []⟩ :: L94_4
theorem v94_5 : VS L94_5.eq_1 := rfl
def C94_0 : ACode := .seq (.reg L94_5) .ret
theorem u94_0 : VC C94_0.eq_1 := rfl
def C94_1 : ACode := .seq (.reg L94_0) C94_0
theorem u94_1 : VC C94_1.eq_1 := rfl
def F94 : AFunc := ⟨15, [.tmp 6], C94_1⟩
theorem cF94 : compB Try.prog 94 = some F94 := by kernel_rfl
attribute [local go_sem ↓] u94_0 u94_1 v94_0 v94_1 v94_2 v94_3 v94_4 v94_5
theorem c_in (n lo hi : Int) (h : H) : bm Try.prog 94 [.one (.int .i64 n), .one (.int .i64 lo), .one (.int .i64 hi)] h = some (ib (decide (lo ≤ n) && decide (n ≤ hi)), h) := by
  refine bm_eq cF94 ?_
  simp +contextual (maxSteps := 2000000) only [go_sem, Nat.reduceEqDiff, reduceCtorEq, Nat.reduceAdd, Nat.reduceLeDiff, F94]
  (repeat' (first | refine And.intro ?_ ?_ | intro _)) <;> first | simp_all
/-! impl.isValue -/
def L95_0 : List AStep := [⟨.mov (.c (.bool false)), (some 2), none, []⟩]
theorem v95_0 : VS L95_0.eq_1 := rfl
def L95_1 : List AStep := [⟨.mov (.t 4), (some 2), none, []⟩]
theorem v95_1 : VS L95_1.eq_1 := rfl
def L95_2 : List AStep := ⟨.mov (.t 0), (some 3), none, []⟩ :: ⟨.call 94 [(.t 3), (.c (.int .i64 (-99))), (.c (.int .i64 99))], (some 4), none, []⟩ :: L95_1
theorem v95_2 : VS L95_2.eq_1 := rfl
def C95_0 : ACode := .seq (.reg L95_2) .ret
theorem u95_0 : VC C95_0.eq_1 := rfl
def C95_1 : ACode := .seq (.reg L95_0) C95_0
theorem u95_1 : VC C95_1.eq_1 := rfl
def F95 : AFunc := ⟨5, [.tmp 2], C95_1⟩
theorem cF95 : compB Try.prog 95 = some F95 := by kernel_rfl
attribute [local go_sem ↓] u95_0 u95_1 v95_0 v95_1 v95_2
theorem c_isValue (n : Int) (h : H) : bm Try.prog 95 [.one (.int .i64 n)] h = some (ib (okNum n), h) := by
  refine bm_eq cF95 ?_
  simp +contextual (maxSteps := 2000000) only [go_sem, Nat.reduceEqDiff, reduceCtorEq, Nat.reduceAdd, Nat.reduceLeDiff, F95, c_in, okNum]
/-! impl.isName -/
def L93_0 : List AStep := [⟨.mov (.c (.bool false)), (some 2), none, []⟩]
theorem v93_0 : VS L93_0.eq_1 := rfl
def L93_1 : List AStep := [⟨.mov (.c (.int .i64 0)), (some 3), none, []⟩]
theorem v93_1 : VS L93_1.eq_1 := rfl
def L93_2 : List AStep := [⟨.lenStr (.t 5), (some 6), none, []⟩, ⟨.bin .lss (.t 4) (.t 6), (some 7), none, []⟩]
theorem v93_2 : VS L93_2.eq_1 := rfl
def L93_3 : List AStep := ⟨.mov (.t 3), (some 4), none, []⟩ :: ⟨.mov (.t 0), (some 5), none, []⟩ :: L93_2
theorem v93_3 : VS L93_3.eq_1 := rfl
def L93_4 : List AStep := [⟨.bin .gtr (.t 17) (.c (.int .u8 122)), (some 18), (some (14, false)), []⟩, ⟨.pick (.t 14) (.c (.bool true)) (.t 18), (some 19), none, []⟩]
theorem v93_4 : VS L93_4.eq_1 := rfl
def L93_5 : List AStep := ⟨.mov (.t 3), (some 16), (some (14, false)), []⟩ :: ⟨.idxStr (.t 15) (.t 16), (some 17), (some (14, false)), []⟩ :: L93_4
theorem v93_5 : VS L93_5.eq_1 := rfl
def L93_6 : List AStep := ⟨.mov (.t 13), (some 14), none, []⟩ :: ⟨.mov (.t 0), (some 15), (some (14, false)), []⟩ :: L93_5
theorem v93_6 : VS L93_6.eq_1 := rfl
def L93_7 : List AStep := ⟨.idxStr (.t 10) (.t 11), (some 12), none, []⟩ :: ⟨.bin .lss (.t 12) (.c (.int .u8 97)), (some 13), none, []⟩ :: L93_6
theorem v93_7 : VS L93_7.eq_1 := rfl
def L93_8 : List AStep := ⟨.mov (.t 0), (some 10), none, []⟩ :: ⟨.mov (.t 3), (some 11), none, []⟩ :: L93_7
theorem v93_8 : VS L93_8.eq_1 := rfl
def L93_9 : List AStep := [⟨.mov (.c (.bool false)), (some 2), none, []⟩]
theorem v93_9 : VS L93_9.eq_1 := rfl
def L93_10 : List AStep := [⟨.mov (.t 9), (some 3), none, []⟩]
theorem v93_10 : VS L93_10.eq_1 := rfl
def L93_11 : List AStep := ⟨.mov (.t 3), (some 8), none, []⟩ :: ⟨.bin .add (.t 8) (.c (.int .i64 1)), (some 9), none, []⟩ :: L93_10
theorem v93_11 : VS L93_11.eq_1 := rfl
def L93_12 : List AStep := [⟨.call 94 [(.t 21), (.c (.int .i64 1)), (.c (.int .i64 6))], (some 22), none, []⟩, ⟨.mov (.t 22), (some 2), none, []⟩]
theorem v93_12 : VS L93_12.eq_1 := rfl
def L93_13 : List AStep := ⟨.mov (.t 0), (some 20), none, []⟩ :: ⟨.lenStr (.t 20), (some 21), none, []⟩ :: L93_12
theorem v93_13 : VS L93_13.eq_1 := rfl
def C93_0 : ACode := .cond (.t 7) .skip (.exit 0)
theorem u93_0 : VC C93_0.eq_1 := rfl
def C93_1 : ACode := .seq (.reg L93_3) C93_0
theorem u93_1 : VC C93_1.eq_1 := rfl
def C93_2 : ACode := .seq (.reg L93_9) .ret
theorem u93_2 : VC C93_2.eq_1 := rfl
def C93_3 : ACode := .cond (.t 19) C93_2 .skip
theorem u93_3 : VC C93_3.eq_1 := rfl
def C93_4 : ACode := .seq (.reg L93_8) C93_3
theorem u93_4 : VC C93_4.eq_1 := rfl
def C93_5 : ACode := .block 1 C93_4
theorem u93_5 : VC C93_5.eq_1 := rfl
def C93_6 : ACode := .seq C93_5 (.reg L93_11)
theorem u93_6 : VC C93_6.eq_1 := rfl
def C93_7 : ACode := .seq C93_1 C93_6
theorem u93_7 : VC C93_7.eq_1 := rfl
def C93_8 : ACode := .block 0 (.loop C93_7)
theorem u93_8 : VC C93_8.eq_1 := rfl
def C93_9 : ACode := .seq (.reg L93_1) C93_8
theorem u93_9 : VC C93_9.eq_1 := rfl
def C93_10 : ACode := .seq (.reg L93_13) .ret
theorem u93_10 : VC C93_10.eq_1 := rfl
def C93_11 : ACode := .seq C93_9 C93_10
theorem u93_11 : VC C93_11.eq_1 := rfl
def C93_12 : ACode := .seq (.reg L93_0) C93_11
theorem u93_12 : VC C93_12.eq_1 := rfl
def F93 : AFunc := ⟨23, [.tmp 2], C93_12⟩
theorem cF93 : compB Try.prog 93 = some F93 := by kernel_rfl
attribute [local go_sem ↓] u93_0 u93_1 u93_2 u93_3 u93_4 u93_5 u93_6 u93_7 u93_8 u93_9 u93_10 u93_11 u93_12 v93_0 v93_1 v93_2 v93_3 v93_4 v93_5 v93_6 v93_7 v93_8 v93_9 v93_10 v93_11 v93_12 v93_13
theorem c_isName (s : ByteArray) (h : H) (hn : s.size < 2 ^ 62) : bm Try.prog 93 [.one (.str s)] h = some (ib (okName s), h) := by
  refine bm_eq cF93 ?_
  simp +contextual (maxSteps := 2000000) only [go_sem, Nat.reduceEqDiff, reduceCtorEq, Nat.reduceAdd, Nat.reduceLeDiff, F93]
  have hsz : s.data.toList.length = s.size := Array.length_toList
  refine wpC_loop (fun i T L h' => h' = h ∧ T 0 = .v (.one (.str s)) ∧ T 3 = .v (.one (.int .i64 i)) ∧ Pre isLow true s.data.toList i) s.size ?_ ?_ (Nat.zero_le _) ?_
  · rintro i T L h' hi ⟨rfl, h0, h3, hp⟩
    simp +contextual (maxSteps := 2000000) only [go_sem, Nat.reduceEqDiff, reduceCtorEq, Nat.reduceAdd, Nat.reduceLeDiff, h0, h3, idx_at hi, lt_true hi]
    have e : s.data.toList[i]'(by omega) = s.data[i]'hi := Array.getElem_toList _
    have bad : isLow (s.data[i]'hi) = false → okName s = false := fun hx => by
      unfold okName
      rw [all_stop (l := s.data.toList) (i := i) (by omega) (by rw [e]; exact hx)]
      rfl
    have low : isLow (s.data[i]'hi) = (!(decide ((↑(s.data[i]'hi).toNat : Int) < 97)) && !(decide ((↑(s.data[i]'hi).toNat : Int) > 122))) := by
      unfold isLow
      rw [Bool.eq_iff_iff]
      simp
      omega
    (repeat' (first | refine And.intro ?_ ?_ | intro _)) <;> first | rfl | rw [wrap_next hi hn] | exact hp.next (by omega) (by rw [e, low]; simp_all) | rw [bad (by rw [low]; simp_all)]
  · rintro T L h' ⟨rfl, h0, h3, hp⟩
    rw [← hsz] at hp
    simp +contextual (maxSteps := 2000000) only [go_sem, Nat.reduceEqDiff, reduceCtorEq, Nat.reduceAdd, Nat.reduceLeDiff, h0, h3, lt_false, c_in, okName, hp.all, Bool.true_and]
  · simp +contextual (maxSteps := 2000000) only [go_sem, Nat.reduceEqDiff, reduceCtorEq, Nat.reduceAdd, Nat.reduceLeDiff]
    (repeat' (first | refine And.intro ?_ ?_ | intro _)) <;> first | rfl | exact Pre.zero
/-! (impl.Param).placed -/
def L73_0 : List AStep := [⟨.box 100 (.t 0), (some 1), none, []⟩, ⟨.mov (.c (.bool false)), (some 2), none, []⟩]
theorem v73_0 : VS L73_0.eq_1 := rfl
def L73_1 : List AStep := [⟨.mov (.t 10), (some 2), none, []⟩]
theorem v73_1 : VS L73_1.eq_1 := rfl
def L73_2 : List AStep := ⟨.bin .eql (.t 8) (.c (.int .i64 1)), (some 9), (some (6, false)), []⟩ :: ⟨.pick (.t 6) (.c (.bool true)) (.t 9), (some 10), none, []⟩ :: L73_1
theorem v73_2 : VS L73_2.eq_1 := rfl
def L73_3 : List AStep := ⟨.faddr 1 (.t 1), (some 7), (some (6, false)), []⟩ :: ⟨.load 1 false (.t 7), (some 8), (some (6, false)), []⟩ :: L73_2
theorem v73_3 : VS L73_3.eq_1 := rfl
def L73_4 : List AStep := ⟨.bin .eql (.t 4) (.c (.int .i64 0)), (some 5), none, []⟩ :: ⟨.mov (.t 5), (some 6), none, []⟩ :: L73_3
theorem v73_4 : VS L73_4.eq_1 := rfl
def L73_5 : List AStep := ⟨.faddr 1 (.t 1), (some 3), none, []⟩ :: ⟨.load 1 false (.t 3), (some 4), none, []⟩ :: L73_4
theorem v73_5 : VS L73_5.eq_1 := rfl
def C73_0 : ACode := .seq (.reg L73_5) .ret
theorem u73_0 : VC C73_0.eq_1 := rfl
def C73_1 : ACode := .seq (.reg L73_0) C73_0
theorem u73_1 : VC C73_1.eq_1 := rfl
def F73 : AFunc := ⟨11, [.tmp 2], C73_1⟩
theorem cF73 : compB Try.prog 73 = some F73 := by kernel_rfl
attribute [local go_sem ↓] u73_0 u73_1 v73_0 v73_1 v73_2 v73_3 v73_4 v73_5
theorem c_placed (p : Param) (h : H) : bm Try.prog 73 [.agg (encQ p)] h = some (ib (byPlace p), h) := by
  refine bm_eq cF73 ?_
  simp +contextual (maxSteps := 2000000) only [go_sem, Nat.reduceEqDiff, reduceCtorEq, Nat.reduceAdd, Nat.reduceLeDiff, F73, byPlace]
  (repeat' (first | refine And.intro ?_ ?_ | intro _)) <;> first | simp_all
/-! (impl.Param).named -/
def L102_0 : List AStep := [⟨.box 100 (.t 0), (some 1), none, []⟩, ⟨.mov (.c (.bool false)), (some 2), none, []⟩]
theorem v102_0 : VS L102_0.eq_1 := rfl
def L102_1 : List AStep := [⟨.mov (.t 10), (some 2), none, []⟩]
theorem v102_1 : VS L102_1.eq_1 := rfl
def L102_2 : List AStep := ⟨.bin .eql (.t 8) (.c (.int .i64 3)), (some 9), (some (6, false)), []⟩ :: ⟨.pick (.t 6) (.c (.bool true)) (.t 9), (some 10), none, []⟩ :: L102_1
theorem v102_2 : VS L102_2.eq_1 := rfl
def L102_3 : List AStep := ⟨.faddr 1 (.t 1), (some 7), (some (6, false)), []⟩ :: ⟨.load 1 false (.t 7), (some 8), (some (6, false)), []⟩ :: L102_2
theorem v102_3 : VS L102_3.eq_1 := rfl
def L102_4 : List AStep := ⟨.bin .eql (.t 4) (.c (.int .i64 1)), (some 5), none, []⟩ :: ⟨.mov (.t 5), (some 6), none, []⟩ :: L102_3
theorem v102_4 : VS L102_4.eq_1 := rfl
def L102_5 : List AStep := ⟨.faddr 1 (.t 1), (some 3), none, []⟩ :: ⟨.load 1 false (.t 3), (some 4), none, []⟩ :: L102_4
theorem v102_5 : VS L102_5.eq_1 := rfl
def C102_0 : ACode := .seq (.reg L102_5) .ret
theorem u102_0 : VC C102_0.eq_1 := rfl
def C102_1 : ACode := .seq (.reg L102_0) C102_0
theorem u102_1 : VC C102_1.eq_1 := rfl
def F102 : AFunc := ⟨11, [.tmp 2], C102_1⟩
theorem cF102 : compB Try.prog 102 = some F102 := by kernel_rfl
attribute [local go_sem ↓] u102_0 u102_1 v102_0 v102_1 v102_2 v102_3 v102_4 v102_5
theorem c_named (p : Param) (h : H) : bm Try.prog 102 [.agg (encQ p)] h = some (ib (byName p), h) := by
  refine bm_eq cF102 ?_
  simp +contextual (maxSteps := 2000000) only [go_sem, Nat.reduceEqDiff, reduceCtorEq, Nat.reduceAdd, Nat.reduceLeDiff, F102, byName]
  (repeat' (first | refine And.intro ?_ ?_ | intro _)) <;> first | simp_all
/-! (impl.Param).single -/
def L77_0 : List AStep := [⟨.box 100 (.t 0), (some 1), none, []⟩, ⟨.mov (.c (.bool false)), (some 2), none, []⟩]
theorem v77_0 : VS L77_0.eq_1 := rfl
def L77_1 : List AStep := [⟨.pick (.t 5) (.c (.bool true)) (.t 8), (some 9), none, []⟩, ⟨.mov (.t 9), (some 2), none, []⟩]
theorem v77_1 : VS L77_1.eq_1 := rfl
def L77_2 : List AStep := ⟨.load 1 false (.t 6), (some 7), (some (5, false)), []⟩ :: ⟨.bin .eql (.t 7) (.c (.int .i64 3)), (some 8), (some (5, false)), []⟩ :: L77_1
theorem v77_2 : VS L77_2.eq_1 := rfl
def L77_3 : List AStep := ⟨.mov (.t 4), (some 5), none, []⟩ :: ⟨.faddr 1 (.t 1), (some 6), (some (5, false)), []⟩ :: L77_2
theorem v77_3 : VS L77_3.eq_1 := rfl
def L77_4 : List AStep := ⟨.load 4 true (.t 1), (some 3), none, []⟩ :: ⟨.call 73 [(.t 3)], (some 4), none, []⟩ :: L77_3
theorem v77_4 : VS L77_4.eq_1 := rfl
def C77_0 : ACode := .seq (.reg L77_4) .ret
theorem u77_0 : VC C77_0.eq_1 := rfl
def C77_1 : ACode := .seq (.reg L77_0) C77_0
theorem u77_1 : VC C77_1.eq_1 := rfl
def F77 : AFunc := ⟨10, [.tmp 2], C77_1⟩
theorem cF77 : compB Try.prog 77 = some F77 := by kernel_rfl
attribute [local go_sem ↓] u77_0 u77_1 v77_0 v77_1 v77_2 v77_3 v77_4
theorem c_single (p : Param) (h : H) : bm Try.prog 77 [.agg (encQ p)] h = some (ib (single p), h) := by
  refine bm_eq cF77 ?_
  simp +contextual (maxSteps := 2000000) only [go_sem, Nat.reduceEqDiff, reduceCtorEq, Nat.reduceAdd, Nat.reduceLeDiff, F77, c_placed, single_eq]
  (repeat' (first | refine And.intro ?_ ?_ | intro _)) <;> first | simp_all
/-! (impl.Pair).valid -/
def L97_0 : List AStep := [⟨.box 98 (.t 0), (some 1), none, []⟩, ⟨.mov (.c (.bool false)), (some 2), none, []⟩]
theorem v97_0 : VS L97_0.eq_1 := rfl
def L97_1 : List AStep := [⟨.mov (.t 10), (some 2), none, []⟩]
theorem v97_1 : VS L97_1.eq_1 := rfl
def L97_2 : List AStep := ⟨.call 95 [(.t 8)], (some 9), (some (6, true)), []⟩ :: ⟨.pick (.t 6) (.t 9) (.c (.bool false)), (some 10), none, []⟩ :: L97_1
theorem v97_2 : VS L97_2.eq_1 := rfl
def L97_3 : List AStep := ⟨.faddr 1 (.t 1), (some 7), (some (6, true)), []⟩ :: ⟨.load 1 false (.t 7), (some 8), (some (6, true)), []⟩ :: L97_2
theorem v97_3 : VS L97_3.eq_1 := rfl
def L97_4 : List AStep := ⟨.call 93 [(.t 4)], (some 5), none, []⟩ :: ⟨.mov (.t 5), (some 6), none, []⟩ :: L97_3
theorem v97_4 : VS L97_4.eq_1 := rfl
def L97_5 : List AStep := ⟨.faddr 0 (.t 1), (some 3), none, []⟩ :: ⟨.load 1 false (.t 3), (some 4), none, []⟩ :: L97_4
theorem v97_5 : VS L97_5.eq_1 := rfl
def C97_0 : ACode := .seq (.reg L97_5) .ret
theorem u97_0 : VC C97_0.eq_1 := rfl
def C97_1 : ACode := .seq (.reg L97_0) C97_0
theorem u97_1 : VC C97_1.eq_1 := rfl
def F97 : AFunc := ⟨11, [.tmp 2], C97_1⟩
theorem cF97 : compB Try.prog 97 = some F97 := by kernel_rfl
attribute [local go_sem ↓] u97_0 u97_1 v97_0 v97_1 v97_2 v97_3 v97_4 v97_5
theorem c_okPair (p : Pair) (h : H) (hn : p.name.size < 2 ^ 62) : bm Try.prog 97 [.agg (encP p)] h = some (ib (okPair p), h) := by
  refine bm_eq cF97 ?_
  simp +contextual (maxSteps := 2000000) only [go_sem, Nat.reduceEqDiff, reduceCtorEq, Nat.reduceAdd, Nat.reduceLeDiff, F97, c_isName _ _ hn, c_isValue, okPair]
  (repeat' (first | refine And.intro ?_ ?_ | intro _)) <;> first | simp_all
/-! slices.IndexFunc(()impl.Pair,impl.Pair) -/
def L110_0 : List AStep := [⟨.mov (.c (.int .i64 0)), (some 4), none, []⟩]
theorem v110_0 : VS L110_0.eq_1 := rfl
def L110_1 : List AStep := [⟨.mov (.c (.int .i64 0)), (some 8), none, []⟩]
theorem v110_1 : VS L110_1.eq_1 := rfl
def L110_2 : List AStep := ⟨.mov (.t 0), (some 6), none, []⟩ :: ⟨.len (.t 6), (some 7), none, []⟩ :: L110_1
theorem v110_2 : VS L110_2.eq_1 := rfl
def L110_3 : List AStep := [⟨.bin .lss (.t 8) (.t 7), (some 9), none, []⟩]
theorem v110_3 : VS L110_3.eq_1 := rfl
def L110_4 : List AStep := [⟨.mov (.t 8), (some 10), none, []⟩, ⟨.mov (.t 10), (some 5), none, []⟩]
theorem v110_4 : VS L110_4.eq_1 := rfl
def L110_5 : List AStep := [⟨.load 2 true (.t 14), (some 15), none, []⟩, ⟨.callv (.t 11) [(.t 15)], (some 16), none, []⟩]
theorem v110_5 : VS L110_5.eq_1 := rfl
def L110_6 : List AStep := ⟨.mov (.t 5), (some 13), none, []⟩ :: ⟨.iaddr 2 (.t 12) (.t 13), (some 14), none, []⟩ :: L110_5
theorem v110_6 : VS L110_6.eq_1 := rfl
def L110_7 : List AStep := ⟨.mov (.t 1), (some 11), none, []⟩ :: ⟨.mov (.t 0), (some 12), none, []⟩ :: L110_6
theorem v110_7 : VS L110_7.eq_1 := rfl
def L110_8 : List AStep := [⟨.mov (.t 5), (some 17), none, []⟩, ⟨.mov (.t 17), (some 4), none, []⟩]
theorem v110_8 : VS L110_8.eq_1 := rfl
def L110_9 : List AStep := [⟨.bin .add (.t 8) (.c (.int .i64 1)), (some 18), none, []⟩, ⟨.mov (.t 18), (some 8), none, []⟩]
theorem v110_9 : VS L110_9.eq_1 := rfl
def L110_10 : List AStep := [⟨.mov (.c (.int .i64 (-1))), (some 4), none, []⟩]
theorem v110_10 : VS L110_10.eq_1 := rfl
def C110_0 : ACode := .cond (.t 9) .skip (.exit 0)
theorem u110_0 : VC C110_0.eq_1 := rfl
def C110_1 : ACode := .seq (.reg L110_8) .ret
theorem u110_1 : VC C110_1.eq_1 := rfl
def C110_2 : ACode := .cond (.t 16) C110_1 .skip
theorem u110_2 : VC C110_2.eq_1 := rfl
def C110_3 : ACode := .seq (.reg L110_7) C110_2
theorem u110_3 : VC C110_3.eq_1 := rfl
def C110_4 : ACode := .seq (.reg L110_4) C110_3
theorem u110_4 : VC C110_4.eq_1 := rfl
def C110_5 : ACode := .block 1 C110_4
theorem u110_5 : VC C110_5.eq_1 := rfl
def C110_6 : ACode := .seq C110_5 (.reg L110_9)
theorem u110_6 : VC C110_6.eq_1 := rfl
def C110_7 : ACode := .seq C110_0 C110_6
theorem u110_7 : VC C110_7.eq_1 := rfl
def C110_8 : ACode := .seq (.reg L110_3) C110_7
theorem u110_8 : VC C110_8.eq_1 := rfl
def C110_9 : ACode := .block 0 (.loop C110_8)
theorem u110_9 : VC C110_9.eq_1 := rfl
def C110_10 : ACode := .seq (.reg L110_2) C110_9
theorem u110_10 : VC C110_10.eq_1 := rfl
def C110_11 : ACode := .seq (.reg L110_10) .ret
theorem u110_11 : VC C110_11.eq_1 := rfl
def C110_12 : ACode := .seq C110_10 C110_11
theorem u110_12 : VC C110_12.eq_1 := rfl
def C110_13 : ACode := .seq (.reg L110_0) C110_12
theorem u110_13 : VC C110_13.eq_1 := rfl
def F110 : AFunc := ⟨19, [.tmp 4], C110_13⟩
theorem cF110 : compB Try.prog 110 = some F110 := by kernel_rfl
attribute [local go_sem ↓] u110_0 u110_1 u110_2 u110_3 u110_4 u110_5 u110_6 u110_7 u110_8 u110_9 u110_10 u110_11 u110_12 u110_13 v110_0 v110_1 v110_2 v110_3 v110_4 v110_5 v110_6 v110_7 v110_8 v110_9 v110_10
theorem c_indexP (l : List Pair) (v : AV) (f : Nat) (caps : List (Nat × Nat)) (p : Pair → Bool) (h : H) (hl : SlP h v l) (hn : l.length ≤ big) (hf : ∀ i (hi : i < l.length), ∀ x, x = l[i] → bm Try.prog f (.agg (encP x) :: caps.map fun a => .one (.ptr (some a))) h = some (ib (p x), h)) :
    bm Try.prog 110 [v, .one (.fn f caps)] h = some (ii (idx p l), h) := by
  refine bm_eq cF110 ?_
  simp +contextual (maxSteps := 2000000) only [go_sem, Nat.reduceEqDiff, reduceCtorEq, Nat.reduceAdd, Nat.reduceLeDiff, F110, hl.len]
  refine wpC_loop (fun i T L h' => h' = h ∧ T 0 = .v v ∧ T 1 = .v (.one (.fn f caps)) ∧ T 7 = .v (.one (.int .i64 l.length)) ∧ T 8 = .v (.one (.int .i64 i)) ∧ Pre p false l i) l.length ?_ ?_ (Nat.zero_le _) ?_
  · rintro i T L h' hi ⟨rfl, h0, h1, h7, h8, hp⟩
    simp +contextual (maxSteps := 2000000) only [go_sem, Nat.reduceEqDiff, reduceCtorEq, Nat.reduceAdd, Nat.reduceLeDiff, h0, h1, h7, h8, hl.iaddr hi, hl.whole hi, hf i hi _ rfl, lt_true hi]
    (repeat' (first | refine And.intro ?_ ?_ | intro _)) <;> first | rfl | rw [wrap_next hi (big_lt hn)] | exact hp.next hi ‹_› | rw [idx_hit hi hp ‹_›]
  · rintro T L h' ⟨rfl, h0, h1, h7, h8, hp⟩
    simp +contextual (maxSteps := 2000000) only [go_sem, Nat.reduceEqDiff, reduceCtorEq, Nat.reduceAdd, Nat.reduceLeDiff, h0, h1, h7, h8, lt_false, idx_none hp]
  · simp +contextual (maxSteps := 2000000) only [go_sem, Nat.reduceEqDiff, reduceCtorEq, Nat.reduceAdd, Nat.reduceLeDiff]
    (repeat' (first | refine And.intro ?_ ?_ | intro _)) <;> first | rfl | exact Pre.zero
/-! slices.IndexFunc(()impl.Param,impl.Param) -/
def L103_0 : List AStep := [⟨.mov (.c (.int .i64 0)), (some 4), none, []⟩]
theorem v103_0 : VS L103_0.eq_1 := rfl
def L103_1 : List AStep := [⟨.mov (.c (.int .i64 0)), (some 8), none, []⟩]
theorem v103_1 : VS L103_1.eq_1 := rfl
def L103_2 : List AStep := ⟨.mov (.t 0), (some 6), none, []⟩ :: ⟨.len (.t 6), (some 7), none, []⟩ :: L103_1
theorem v103_2 : VS L103_2.eq_1 := rfl
def L103_3 : List AStep := [⟨.bin .lss (.t 8) (.t 7), (some 9), none, []⟩]
theorem v103_3 : VS L103_3.eq_1 := rfl
def L103_4 : List AStep := [⟨.mov (.t 8), (some 10), none, []⟩, ⟨.mov (.t 10), (some 5), none, []⟩]
theorem v103_4 : VS L103_4.eq_1 := rfl
def L103_5 : List AStep := [⟨.load 4 true (.t 14), (some 15), none, []⟩, ⟨.callv (.t 11) [(.t 15)], (some 16), none, []⟩]
theorem v103_5 : VS L103_5.eq_1 := rfl
def L103_6 : List AStep := ⟨.mov (.t 5), (some 13), none, []⟩ :: ⟨.iaddr 4 (.t 12) (.t 13), (some 14), none, []⟩ :: L103_5
theorem v103_6 : VS L103_6.eq_1 := rfl
def L103_7 : List AStep := ⟨.mov (.t 1), (some 11), none, []⟩ :: ⟨.mov (.t 0), (some 12), none, []⟩ :: L103_6
theorem v103_7 : VS L103_7.eq_1 := rfl
def L103_8 : List AStep := [⟨.mov (.t 5), (some 17), none, []⟩, ⟨.mov (.t 17), (some 4), none, []⟩]
theorem v103_8 : VS L103_8.eq_1 := rfl
def L103_9 : List AStep := [⟨.bin .add (.t 8) (.c (.int .i64 1)), (some 18), none, []⟩, ⟨.mov (.t 18), (some 8), none, []⟩]
theorem v103_9 : VS L103_9.eq_1 := rfl
def L103_10 : List AStep := [⟨.mov (.c (.int .i64 (-1))), (some 4), none, []⟩]
theorem v103_10 : VS L103_10.eq_1 := rfl
def C103_0 : ACode := .cond (.t 9) .skip (.exit 0)
theorem u103_0 : VC C103_0.eq_1 := rfl
def C103_1 : ACode := .seq (.reg L103_8) .ret
theorem u103_1 : VC C103_1.eq_1 := rfl
def C103_2 : ACode := .cond (.t 16) C103_1 .skip
theorem u103_2 : VC C103_2.eq_1 := rfl
def C103_3 : ACode := .seq (.reg L103_7) C103_2
theorem u103_3 : VC C103_3.eq_1 := rfl
def C103_4 : ACode := .seq (.reg L103_4) C103_3
theorem u103_4 : VC C103_4.eq_1 := rfl
def C103_5 : ACode := .block 1 C103_4
theorem u103_5 : VC C103_5.eq_1 := rfl
def C103_6 : ACode := .seq C103_5 (.reg L103_9)
theorem u103_6 : VC C103_6.eq_1 := rfl
def C103_7 : ACode := .seq C103_0 C103_6
theorem u103_7 : VC C103_7.eq_1 := rfl
def C103_8 : ACode := .seq (.reg L103_3) C103_7
theorem u103_8 : VC C103_8.eq_1 := rfl
def C103_9 : ACode := .block 0 (.loop C103_8)
theorem u103_9 : VC C103_9.eq_1 := rfl
def C103_10 : ACode := .seq (.reg L103_2) C103_9
theorem u103_10 : VC C103_10.eq_1 := rfl
def C103_11 : ACode := .seq (.reg L103_10) .ret
theorem u103_11 : VC C103_11.eq_1 := rfl
def C103_12 : ACode := .seq C103_10 C103_11
theorem u103_12 : VC C103_12.eq_1 := rfl
def C103_13 : ACode := .seq (.reg L103_0) C103_12
theorem u103_13 : VC C103_13.eq_1 := rfl
def F103 : AFunc := ⟨19, [.tmp 4], C103_13⟩
theorem cF103 : compB Try.prog 103 = some F103 := by kernel_rfl
attribute [local go_sem ↓] u103_0 u103_1 u103_2 u103_3 u103_4 u103_5 u103_6 u103_7 u103_8 u103_9 u103_10 u103_11 u103_12 u103_13 v103_0 v103_1 v103_2 v103_3 v103_4 v103_5 v103_6 v103_7 v103_8 v103_9 v103_10
theorem c_indexQ (l : List Param) (v : AV) (f : Nat) (caps : List (Nat × Nat)) (p : Param → Bool) (h : H) (hl : SlQ h v l) (hn : l.length ≤ big) (hf : ∀ i (hi : i < l.length), ∀ x, x = l[i] → bm Try.prog f (.agg (encQ x) :: caps.map fun a => .one (.ptr (some a))) h = some (ib (p x), h)) :
    bm Try.prog 103 [v, .one (.fn f caps)] h = some (ii (idx p l), h) := by
  refine bm_eq cF103 ?_
  simp +contextual (maxSteps := 2000000) only [go_sem, Nat.reduceEqDiff, reduceCtorEq, Nat.reduceAdd, Nat.reduceLeDiff, F103, hl.len]
  refine wpC_loop (fun i T L h' => h' = h ∧ T 0 = .v v ∧ T 1 = .v (.one (.fn f caps)) ∧ T 7 = .v (.one (.int .i64 l.length)) ∧ T 8 = .v (.one (.int .i64 i)) ∧ Pre p false l i) l.length ?_ ?_ (Nat.zero_le _) ?_
  · rintro i T L h' hi ⟨rfl, h0, h1, h7, h8, hp⟩
    simp +contextual (maxSteps := 2000000) only [go_sem, Nat.reduceEqDiff, reduceCtorEq, Nat.reduceAdd, Nat.reduceLeDiff, h0, h1, h7, h8, hl.iaddr hi, hl.whole hi, hf i hi _ rfl, lt_true hi]
    (repeat' (first | refine And.intro ?_ ?_ | intro _)) <;> first | rfl | rw [wrap_next hi (big_lt hn)] | exact hp.next hi ‹_› | rw [idx_hit hi hp ‹_›]
  · rintro T L h' ⟨rfl, h0, h1, h7, h8, hp⟩
    simp +contextual (maxSteps := 2000000) only [go_sem, Nat.reduceEqDiff, reduceCtorEq, Nat.reduceAdd, Nat.reduceLeDiff, h0, h1, h7, h8, lt_false, idx_none hp]
  · simp +contextual (maxSteps := 2000000) only [go_sem, Nat.reduceEqDiff, reduceCtorEq, Nat.reduceAdd, Nat.reduceLeDiff]
    (repeat' (first | refine And.intro ?_ ?_ | intro _)) <;> first | rfl | exact Pre.zero
/-! slices.IndexFunc(()int,int) -/
def L115_0 : List AStep := [⟨.mov (.c (.int .i64 0)), (some 4), none, []⟩]
theorem v115_0 : VS L115_0.eq_1 := rfl
def L115_1 : List AStep := [⟨.mov (.c (.int .i64 0)), (some 8), none, []⟩]
theorem v115_1 : VS L115_1.eq_1 := rfl
def L115_2 : List AStep := ⟨.mov (.t 0), (some 6), none, []⟩ :: ⟨.len (.t 6), (some 7), none, []⟩ :: L115_1
theorem v115_2 : VS L115_2.eq_1 := rfl
def L115_3 : List AStep := [⟨.bin .lss (.t 8) (.t 7), (some 9), none, []⟩]
theorem v115_3 : VS L115_3.eq_1 := rfl
def L115_4 : List AStep := [⟨.mov (.t 8), (some 10), none, []⟩, ⟨.mov (.t 10), (some 5), none, []⟩]
theorem v115_4 : VS L115_4.eq_1 := rfl
def L115_5 : List AStep := [⟨.load 1 false (.t 14), (some 15), none, []⟩, ⟨.callv (.t 11) [(.t 15)], (some 16), none, []⟩]
theorem v115_5 : VS L115_5.eq_1 := rfl
def L115_6 : List AStep := ⟨.mov (.t 5), (some 13), none, []⟩ :: ⟨.iaddr 1 (.t 12) (.t 13), (some 14), none, []⟩ :: L115_5
theorem v115_6 : VS L115_6.eq_1 := rfl
def L115_7 : List AStep := ⟨.mov (.t 1), (some 11), none, []⟩ :: ⟨.mov (.t 0), (some 12), none, []⟩ :: L115_6
theorem v115_7 : VS L115_7.eq_1 := rfl
def L115_8 : List AStep := [⟨.mov (.t 5), (some 17), none, []⟩, ⟨.mov (.t 17), (some 4), none, []⟩]
theorem v115_8 : VS L115_8.eq_1 := rfl
def L115_9 : List AStep := [⟨.bin .add (.t 8) (.c (.int .i64 1)), (some 18), none, []⟩, ⟨.mov (.t 18), (some 8), none, []⟩]
theorem v115_9 : VS L115_9.eq_1 := rfl
def L115_10 : List AStep := [⟨.mov (.c (.int .i64 (-1))), (some 4), none, []⟩]
theorem v115_10 : VS L115_10.eq_1 := rfl
def C115_0 : ACode := .cond (.t 9) .skip (.exit 0)
theorem u115_0 : VC C115_0.eq_1 := rfl
def C115_1 : ACode := .seq (.reg L115_8) .ret
theorem u115_1 : VC C115_1.eq_1 := rfl
def C115_2 : ACode := .cond (.t 16) C115_1 .skip
theorem u115_2 : VC C115_2.eq_1 := rfl
def C115_3 : ACode := .seq (.reg L115_7) C115_2
theorem u115_3 : VC C115_3.eq_1 := rfl
def C115_4 : ACode := .seq (.reg L115_4) C115_3
theorem u115_4 : VC C115_4.eq_1 := rfl
def C115_5 : ACode := .block 1 C115_4
theorem u115_5 : VC C115_5.eq_1 := rfl
def C115_6 : ACode := .seq C115_5 (.reg L115_9)
theorem u115_6 : VC C115_6.eq_1 := rfl
def C115_7 : ACode := .seq C115_0 C115_6
theorem u115_7 : VC C115_7.eq_1 := rfl
def C115_8 : ACode := .seq (.reg L115_3) C115_7
theorem u115_8 : VC C115_8.eq_1 := rfl
def C115_9 : ACode := .block 0 (.loop C115_8)
theorem u115_9 : VC C115_9.eq_1 := rfl
def C115_10 : ACode := .seq (.reg L115_2) C115_9
theorem u115_10 : VC C115_10.eq_1 := rfl
def C115_11 : ACode := .seq (.reg L115_10) .ret
theorem u115_11 : VC C115_11.eq_1 := rfl
def C115_12 : ACode := .seq C115_10 C115_11
theorem u115_12 : VC C115_12.eq_1 := rfl
def C115_13 : ACode := .seq (.reg L115_0) C115_12
theorem u115_13 : VC C115_13.eq_1 := rfl
def F115 : AFunc := ⟨19, [.tmp 4], C115_13⟩
theorem cF115 : compB Try.prog 115 = some F115 := by kernel_rfl
attribute [local go_sem ↓] u115_0 u115_1 u115_2 u115_3 u115_4 u115_5 u115_6 u115_7 u115_8 u115_9 u115_10 u115_11 u115_12 u115_13 v115_0 v115_1 v115_2 v115_3 v115_4 v115_5 v115_6 v115_7 v115_8 v115_9 v115_10
theorem c_indexI (l : List Int) (v : AV) (f : Nat) (caps : List (Nat × Nat)) (p : Int → Bool) (h : H) (hl : SlI h v l) (hn : l.length ≤ big) (hf : ∀ i (hi : i < l.length), ∀ x, x = l[i] → bm Try.prog f (.one (.int .i64 x) :: caps.map fun a => .one (.ptr (some a))) h = some (ib (p x), h)) :
    bm Try.prog 115 [v, .one (.fn f caps)] h = some (ii (idx p l), h) := by
  refine bm_eq cF115 ?_
  simp +contextual (maxSteps := 2000000) only [go_sem, Nat.reduceEqDiff, reduceCtorEq, Nat.reduceAdd, Nat.reduceLeDiff, F115, hl.len]
  refine wpC_loop (fun i T L h' => h' = h ∧ T 0 = .v v ∧ T 1 = .v (.one (.fn f caps)) ∧ T 7 = .v (.one (.int .i64 l.length)) ∧ T 8 = .v (.one (.int .i64 i)) ∧ Pre p false l i) l.length ?_ ?_ (Nat.zero_le _) ?_
  · rintro i T L h' hi ⟨rfl, h0, h1, h7, h8, hp⟩
    simp +contextual (maxSteps := 2000000) only [go_sem, Nat.reduceEqDiff, reduceCtorEq, Nat.reduceAdd, Nat.reduceLeDiff, h0, h1, h7, h8, hl.iaddr hi, hl.oneO hi, hf i hi _ rfl, lt_true hi]
    (repeat' (first | refine And.intro ?_ ?_ | intro _)) <;> first | rfl | rw [wrap_next hi (big_lt hn)] | exact hp.next hi ‹_› | rw [idx_hit hi hp ‹_›]
  · rintro T L h' ⟨rfl, h0, h1, h7, h8, hp⟩
    simp +contextual (maxSteps := 2000000) only [go_sem, Nat.reduceEqDiff, reduceCtorEq, Nat.reduceAdd, Nat.reduceLeDiff, h0, h1, h7, h8, lt_false, idx_none hp]
  · simp +contextual (maxSteps := 2000000) only [go_sem, Nat.reduceEqDiff, reduceCtorEq, Nat.reduceAdd, Nat.reduceLeDiff]
    (repeat' (first | refine And.intro ?_ ?_ | intro _)) <;> first | rfl | exact Pre.zero
/-! slices.ContainsFunc(()int,int) -/
def L112_0 : List AStep := [⟨.mov (.c (.bool false)), (some 4), none, []⟩]
theorem v112_0 : VS L112_0.eq_1 := rfl
def L112_1 : List AStep := [⟨.mov (.t 8), (some 4), none, []⟩]
theorem v112_1 : VS L112_1.eq_1 := rfl
def L112_2 : List AStep := ⟨.call 115 [(.t 5), (.t 6)], (some 7), none, []⟩ :: ⟨.bin .geq (.t 7) (.c (.int .i64 0)), (some 8), none, []⟩ :: L112_1
theorem v112_2 : VS L112_2.eq_1 := rfl
def L112_3 : List AStep := ⟨.mov (.t 0), (some 5), none, []⟩ :: ⟨.mov (.t 1), (some 6), none, []⟩ :: L112_2
theorem v112_3 : VS L112_3.eq_1 := rfl
def C112_0 : ACode := .seq (.reg L112_3) .ret
theorem u112_0 : VC C112_0.eq_1 := rfl
def C112_1 : ACode := .seq (.reg L112_0) C112_0
theorem u112_1 : VC C112_1.eq_1 := rfl
def F112 : AFunc := ⟨9, [.tmp 4], C112_1⟩
theorem cF112 : compB Try.prog 112 = some F112 := by kernel_rfl
attribute [local go_sem ↓] u112_0 u112_1 v112_0 v112_1 v112_2 v112_3
theorem c_hasI (l : List Int) (v : AV) (f : Nat) (caps : List (Nat × Nat)) (p : Int → Bool) (h : H) (hl : SlI h v l) (hn : l.length ≤ big) (hf : ∀ i (hi : i < l.length), ∀ x, x = l[i] → bm Try.prog f (.one (.int .i64 x) :: caps.map fun a => .one (.ptr (some a))) h = some (ib (p x), h)) :
    bm Try.prog 112 [v, .one (.fn f caps)] h = some (ib (l.any p), h) := by
  refine bm_eq cF112 ?_
  have e := idx_any (p := p) (l := l)
  simp +contextual (maxSteps := 2000000) only [go_sem, Nat.reduceEqDiff, reduceCtorEq, Nat.reduceAdd, Nat.reduceLeDiff, F112, c_indexI l v f caps p h hl hn hf, e]
/-! slices.IndexFunc(()impl.Problem,impl.Problem) -/
def L84_0 : List AStep := [⟨.mov (.c (.int .i64 0)), (some 4), none, []⟩]
theorem v84_0 : VS L84_0.eq_1 := rfl
def L84_1 : List AStep := [⟨.mov (.c (.int .i64 0)), (some 8), none, []⟩]
theorem v84_1 : VS L84_1.eq_1 := rfl
def L84_2 : List AStep := ⟨.mov (.t 0), (some 6), none, []⟩ :: ⟨.len (.t 6), (some 7), none, []⟩ :: L84_1
theorem v84_2 : VS L84_2.eq_1 := rfl
def L84_3 : List AStep := [⟨.bin .lss (.t 8) (.t 7), (some 9), none, []⟩]
theorem v84_3 : VS L84_3.eq_1 := rfl
def L84_4 : List AStep := [⟨.mov (.t 8), (some 10), none, []⟩, ⟨.mov (.t 10), (some 5), none, []⟩]
theorem v84_4 : VS L84_4.eq_1 := rfl
def L84_5 : List AStep := [⟨.load 2 true (.t 14), (some 15), none, []⟩, ⟨.callv (.t 11) [(.t 15)], (some 16), none, []⟩]
theorem v84_5 : VS L84_5.eq_1 := rfl
def L84_6 : List AStep := ⟨.mov (.t 5), (some 13), none, []⟩ :: ⟨.iaddr 2 (.t 12) (.t 13), (some 14), none, []⟩ :: L84_5
theorem v84_6 : VS L84_6.eq_1 := rfl
def L84_7 : List AStep := ⟨.mov (.t 1), (some 11), none, []⟩ :: ⟨.mov (.t 0), (some 12), none, []⟩ :: L84_6
theorem v84_7 : VS L84_7.eq_1 := rfl
def L84_8 : List AStep := [⟨.mov (.t 5), (some 17), none, []⟩, ⟨.mov (.t 17), (some 4), none, []⟩]
theorem v84_8 : VS L84_8.eq_1 := rfl
def L84_9 : List AStep := [⟨.bin .add (.t 8) (.c (.int .i64 1)), (some 18), none, []⟩, ⟨.mov (.t 18), (some 8), none, []⟩]
theorem v84_9 : VS L84_9.eq_1 := rfl
def L84_10 : List AStep := [⟨.mov (.c (.int .i64 (-1))), (some 4), none, []⟩]
theorem v84_10 : VS L84_10.eq_1 := rfl
def C84_0 : ACode := .cond (.t 9) .skip (.exit 0)
theorem u84_0 : VC C84_0.eq_1 := rfl
def C84_1 : ACode := .seq (.reg L84_8) .ret
theorem u84_1 : VC C84_1.eq_1 := rfl
def C84_2 : ACode := .cond (.t 16) C84_1 .skip
theorem u84_2 : VC C84_2.eq_1 := rfl
def C84_3 : ACode := .seq (.reg L84_7) C84_2
theorem u84_3 : VC C84_3.eq_1 := rfl
def C84_4 : ACode := .seq (.reg L84_4) C84_3
theorem u84_4 : VC C84_4.eq_1 := rfl
def C84_5 : ACode := .block 1 C84_4
theorem u84_5 : VC C84_5.eq_1 := rfl
def C84_6 : ACode := .seq C84_5 (.reg L84_9)
theorem u84_6 : VC C84_6.eq_1 := rfl
def C84_7 : ACode := .seq C84_0 C84_6
theorem u84_7 : VC C84_7.eq_1 := rfl
def C84_8 : ACode := .seq (.reg L84_3) C84_7
theorem u84_8 : VC C84_8.eq_1 := rfl
def C84_9 : ACode := .block 0 (.loop C84_8)
theorem u84_9 : VC C84_9.eq_1 := rfl
def C84_10 : ACode := .seq (.reg L84_2) C84_9
theorem u84_10 : VC C84_10.eq_1 := rfl
def C84_11 : ACode := .seq (.reg L84_10) .ret
theorem u84_11 : VC C84_11.eq_1 := rfl
def C84_12 : ACode := .seq C84_10 C84_11
theorem u84_12 : VC C84_12.eq_1 := rfl
def C84_13 : ACode := .seq (.reg L84_0) C84_12
theorem u84_13 : VC C84_13.eq_1 := rfl
def F84 : AFunc := ⟨19, [.tmp 4], C84_13⟩
theorem cF84 : compB Try.prog 84 = some F84 := by kernel_rfl
attribute [local go_sem ↓] u84_0 u84_1 u84_2 u84_3 u84_4 u84_5 u84_6 u84_7 u84_8 u84_9 u84_10 u84_11 u84_12 u84_13 v84_0 v84_1 v84_2 v84_3 v84_4 v84_5 v84_6 v84_7 v84_8 v84_9 v84_10
theorem c_indexB (l : List Problem) (v : AV) (f : Nat) (caps : List (Nat × Nat)) (p : Problem → Bool) (h : H) (hl : SlB h v l) (hn : l.length ≤ big) (hf : ∀ i (hi : i < l.length), ∀ x, x = l[i] → bm Try.prog f (.agg (encB x) :: caps.map fun a => .one (.ptr (some a))) h = some (ib (p x), h)) :
    bm Try.prog 84 [v, .one (.fn f caps)] h = some (ii (idx p l), h) := by
  refine bm_eq cF84 ?_
  simp +contextual (maxSteps := 2000000) only [go_sem, Nat.reduceEqDiff, reduceCtorEq, Nat.reduceAdd, Nat.reduceLeDiff, F84, hl.len]
  refine wpC_loop (fun i T L h' => h' = h ∧ T 0 = .v v ∧ T 1 = .v (.one (.fn f caps)) ∧ T 7 = .v (.one (.int .i64 l.length)) ∧ T 8 = .v (.one (.int .i64 i)) ∧ Pre p false l i) l.length ?_ ?_ (Nat.zero_le _) ?_
  · rintro i T L h' hi ⟨rfl, h0, h1, h7, h8, hp⟩
    simp +contextual (maxSteps := 2000000) only [go_sem, Nat.reduceEqDiff, reduceCtorEq, Nat.reduceAdd, Nat.reduceLeDiff, h0, h1, h7, h8, hl.iaddr hi, hl.whole hi, hf i hi _ rfl, lt_true hi]
    (repeat' (first | refine And.intro ?_ ?_ | intro _)) <;> first | rfl | rw [wrap_next hi (big_lt hn)] | exact hp.next hi ‹_› | rw [idx_hit hi hp ‹_›]
  · rintro T L h' ⟨rfl, h0, h1, h7, h8, hp⟩
    simp +contextual (maxSteps := 2000000) only [go_sem, Nat.reduceEqDiff, reduceCtorEq, Nat.reduceAdd, Nat.reduceLeDiff, h0, h1, h7, h8, lt_false, idx_none hp]
  · simp +contextual (maxSteps := 2000000) only [go_sem, Nat.reduceEqDiff, reduceCtorEq, Nat.reduceAdd, Nat.reduceLeDiff]
    (repeat' (first | refine And.intro ?_ ?_ | intro _)) <;> first | rfl | exact Pre.zero
/-! slices.ContainsFunc(()impl.Problem,impl.Problem) -/
def L55_0 : List AStep := [⟨.mov (.c (.bool false)), (some 4), none, []⟩]
theorem v55_0 : VS L55_0.eq_1 := rfl
def L55_1 : List AStep := [⟨.mov (.t 8), (some 4), none, []⟩]
theorem v55_1 : VS L55_1.eq_1 := rfl
def L55_2 : List AStep := ⟨.call 84 [(.t 5), (.t 6)], (some 7), none, []⟩ :: ⟨.bin .geq (.t 7) (.c (.int .i64 0)), (some 8), none, []⟩ :: L55_1
theorem v55_2 : VS L55_2.eq_1 := rfl
def L55_3 : List AStep := ⟨.mov (.t 0), (some 5), none, []⟩ :: ⟨.mov (.t 1), (some 6), none, []⟩ :: L55_2
theorem v55_3 : VS L55_3.eq_1 := rfl
def C55_0 : ACode := .seq (.reg L55_3) .ret
theorem u55_0 : VC C55_0.eq_1 := rfl
def C55_1 : ACode := .seq (.reg L55_0) C55_0
theorem u55_1 : VC C55_1.eq_1 := rfl
def F55 : AFunc := ⟨9, [.tmp 4], C55_1⟩
theorem cF55 : compB Try.prog 55 = some F55 := by kernel_rfl
attribute [local go_sem ↓] u55_0 u55_1 v55_0 v55_1 v55_2 v55_3
theorem c_hasB (l : List Problem) (v : AV) (f : Nat) (caps : List (Nat × Nat)) (p : Problem → Bool) (h : H) (hl : SlB h v l) (hn : l.length ≤ big) (hf : ∀ i (hi : i < l.length), ∀ x, x = l[i] → bm Try.prog f (.agg (encB x) :: caps.map fun a => .one (.ptr (some a))) h = some (ib (p x), h)) :
    bm Try.prog 55 [v, .one (.fn f caps)] h = some (ib (l.any p), h) := by
  refine bm_eq cF55 ?_
  have e := idx_any (p := p) (l := l)
  simp +contextual (maxSteps := 2000000) only [go_sem, Nat.reduceEqDiff, reduceCtorEq, Nat.reduceAdd, Nat.reduceLeDiff, F55, c_indexB l v f caps p h hl hn hf, e]
/-! impl.pairAt$1 -/
def L111_0 : List AStep := [⟨.box 98 (.t 0), (some 2), none, []⟩, ⟨.mov (.c (.bool false)), (some 3), none, []⟩]
theorem v111_0 : VS L111_0.eq_1 := rfl
def L111_1 : List AStep := [⟨.mov (.t 7), (some 3), none, []⟩]
theorem v111_1 : VS L111_1.eq_1 := rfl
def L111_2 : List AStep := ⟨.load 1 false (.t 1), (some 6), none, []⟩ :: ⟨.bin .eql (.t 5) (.t 6), (some 7), none, []⟩ :: L111_1
theorem v111_2 : VS L111_2.eq_1 := rfl
def L111_3 : List AStep := ⟨.faddr 0 (.t 2), (some 4), none, []⟩ :: ⟨.load 1 false (.t 4), (some 5), none, []⟩ :: L111_2
theorem v111_3 : VS L111_3.eq_1 := rfl
def C111_0 : ACode := .seq (.reg L111_3) .ret
theorem u111_0 : VC C111_0.eq_1 := rfl
def C111_1 : ACode := .seq (.reg L111_0) C111_0
theorem u111_1 : VC C111_1.eq_1 := rfl
def F111 : AFunc := ⟨8, [.tmp 3], C111_1⟩
theorem cF111 : compB Try.prog 111 = some F111 := by kernel_rfl
attribute [local go_sem ↓] u111_0 u111_1 v111_0 v111_1 v111_2 v111_3
theorem c_pairAt1 (p : Pair) (a : Nat × Nat) (s : ByteArray) (h : H) (ha : loadO 1 false h (.one (.ptr (some a))) = some (.one (.str s))) : bm Try.prog 111 [.agg (encP p), .one (.ptr (some a))] h = some (ib (decide (p.name = s)), h) := by
  refine bm_eq cF111 ?_
  simp +contextual (maxSteps := 2000000) only [go_sem, Nat.reduceEqDiff, reduceCtorEq, Nat.reduceAdd, Nat.reduceLeDiff, F111, ha]
/-! impl.pairAt -/
def L98_0 : List AStep := [⟨.box 9 (.t 1), (some 3), none, []⟩, ⟨.mov (.c (.int .i64 0)), (some 4), none, []⟩]
theorem v98_0 : VS L98_0.eq_1 := rfl
def L98_1 : List AStep := [⟨.call 110 [(.t 5), (.t 6)], (some 7), none, []⟩, ⟨.mov (.t 7), (some 4), none, []⟩]
theorem v98_1 : VS L98_1.eq_1 := rfl
def L98_2 : List AStep := ⟨.mov (.t 0), (some 5), none, []⟩ :: ⟨.mkfn 111 [(.t 3)], (some 6), none, []⟩ :: L98_1
theorem v98_2 : VS L98_2.eq_1 := rfl
def C98_0 : ACode := .seq (.reg L98_2) .ret
theorem u98_0 : VC C98_0.eq_1 := rfl
def C98_1 : ACode := .seq (.reg L98_0) C98_0
theorem u98_1 : VC C98_1.eq_1 := rfl
def F98 : AFunc := ⟨8, [.tmp 4], C98_1⟩
theorem cF98 : compB Try.prog 98 = some F98 := by kernel_rfl
attribute [local go_sem ↓] u98_0 u98_1 v98_0 v98_1 v98_2
theorem c_pairAtI (l : List Pair) (v : AV) (s : ByteArray) (h : H) (hl : SlP h v l) (hn : smP l) : bm Try.prog 98 [v, .one (.str s)] h = some (ii (pairAt l s), h) := by
  refine bm_eq cF98 ?_
  have e := c_indexP l v 111 [(h.n, 0)] (fun p => decide (p.name = s)) (h.alloc [.str s] 9) (hl.grow (Grow.alloc _ _ _)) hn.1 (fun i hi x hx => c_pairAt1 x (h.n, 0) s _ (Box.new.one rfl))
  simp +contextual (maxSteps := 2000000) only [go_sem, Nat.reduceEqDiff, reduceCtorEq, Nat.reduceAdd, Nat.reduceLeDiff, F98, e, pairAt]
/-! impl.find$1 -/
def L109_0 : List AStep := [⟨.box 100 (.t 0), (some 2), none, []⟩, ⟨.mov (.c (.bool false)), (some 3), none, []⟩]
theorem v109_0 : VS L109_0.eq_1 := rfl
def L109_1 : List AStep := [⟨.mov (.t 7), (some 3), none, []⟩]
theorem v109_1 : VS L109_1.eq_1 := rfl
def L109_2 : List AStep := ⟨.load 1 false (.t 1), (some 6), none, []⟩ :: ⟨.bin .eql (.t 5) (.t 6), (some 7), none, []⟩ :: L109_1
theorem v109_2 : VS L109_2.eq_1 := rfl
def L109_3 : List AStep := ⟨.faddr 0 (.t 2), (some 4), none, []⟩ :: ⟨.load 1 false (.t 4), (some 5), none, []⟩ :: L109_2
theorem v109_3 : VS L109_3.eq_1 := rfl
def C109_0 : ACode := .seq (.reg L109_3) .ret
theorem u109_0 : VC C109_0.eq_1 := rfl
def C109_1 : ACode := .seq (.reg L109_0) C109_0
theorem u109_1 : VC C109_1.eq_1 := rfl
def F109 : AFunc := ⟨8, [.tmp 3], C109_1⟩
theorem cF109 : compB Try.prog 109 = some F109 := by kernel_rfl
attribute [local go_sem ↓] u109_0 u109_1 v109_0 v109_1 v109_2 v109_3
theorem c_find1 (p : Param) (a : Nat × Nat) (s : ByteArray) (h : H) (ha : loadO 1 false h (.one (.ptr (some a))) = some (.one (.str s))) : bm Try.prog 109 [.agg (encQ p), .one (.ptr (some a))] h = some (ib (decide (p.name = s)), h) := by
  refine bm_eq cF109 ?_
  simp +contextual (maxSteps := 2000000) only [go_sem, Nat.reduceEqDiff, reduceCtorEq, Nat.reduceAdd, Nat.reduceLeDiff, F109, ha]
/-! impl.find -/
def L96_0 : List AStep := [⟨.box 9 (.t 1), (some 3), none, []⟩, ⟨.mov (.c (.int .i64 0)), (some 4), none, []⟩]
theorem v96_0 : VS L96_0.eq_1 := rfl
def L96_1 : List AStep := [⟨.call 103 [(.t 5), (.t 6)], (some 7), none, []⟩, ⟨.mov (.t 7), (some 4), none, []⟩]
theorem v96_1 : VS L96_1.eq_1 := rfl
def L96_2 : List AStep := ⟨.mov (.t 0), (some 5), none, []⟩ :: ⟨.mkfn 109 [(.t 3)], (some 6), none, []⟩ :: L96_1
theorem v96_2 : VS L96_2.eq_1 := rfl
def C96_0 : ACode := .seq (.reg L96_2) .ret
theorem u96_0 : VC C96_0.eq_1 := rfl
def C96_1 : ACode := .seq (.reg L96_0) C96_0
theorem u96_1 : VC C96_1.eq_1 := rfl
def F96 : AFunc := ⟨8, [.tmp 4], C96_1⟩
theorem cF96 : compB Try.prog 96 = some F96 := by kernel_rfl
attribute [local go_sem ↓] u96_0 u96_1 v96_0 v96_1 v96_2
theorem c_find (l : List Param) (v : AV) (s : ByteArray) (h : H) (hl : SlQ h v l) (hn : smQ l) : bm Try.prog 96 [v, .one (.str s)] h = some (ii (paramAt l s), h) := by
  refine bm_eq cF96 ?_
  have e := c_indexQ l v 109 [(h.n, 0)] (fun p => decide (p.name = s)) (h.alloc [.str s] 9) (hl.grow (Grow.alloc _ _ _)) hn.1 (fun i hi x hx => c_find1 x (h.n, 0) s _ (Box.new.one rfl))
  simp +contextual (maxSteps := 2000000) only [go_sem, Nat.reduceEqDiff, reduceCtorEq, Nat.reduceAdd, Nat.reduceLeDiff, F96, e, paramAt]
/-! (impl.Signature).takes$1 -/
def L104_0 : List AStep := [⟨.box 100 (.t 0), (some 1), none, []⟩, ⟨.mov (.c (.bool false)), (some 2), none, []⟩]
theorem v104_0 : VS L104_0.eq_1 := rfl
def L104_1 : List AStep := [⟨.bin .eql (.t 4) (.c (.int .i64 4)), (some 5), none, []⟩, ⟨.mov (.t 5), (some 2), none, []⟩]
theorem v104_1 : VS L104_1.eq_1 := rfl
def L104_2 : List AStep := ⟨.faddr 1 (.t 1), (some 3), none, []⟩ :: ⟨.load 1 false (.t 3), (some 4), none, []⟩ :: L104_1
theorem v104_2 : VS L104_2.eq_1 := rfl
def C104_0 : ACode := .seq (.reg L104_2) .ret
theorem u104_0 : VC C104_0.eq_1 := rfl
def C104_1 : ACode := .seq (.reg L104_0) C104_0
theorem u104_1 : VC C104_1.eq_1 := rfl
def F104 : AFunc := ⟨6, [.tmp 2], C104_1⟩
theorem cF104 : compB Try.prog 104 = some F104 := by kernel_rfl
attribute [local go_sem ↓] u104_0 u104_1 v104_0 v104_1 v104_2
theorem c_takes1 (p : Param) (h : H) : bm Try.prog 104 [.agg (encQ p)] h = some (ib (decide (p.kind = 4)), h) := by
  refine bm_eq cF104 ?_
  simp +contextual (maxSteps := 2000000) only [go_sem, Nat.reduceEqDiff, reduceCtorEq, Nat.reduceAdd, Nat.reduceLeDiff, F104]
/-! (impl.Signature).takes -/
def L75_0 : List AStep := [⟨.box 38 (.t 0), (some 2), none, []⟩, ⟨.mov (.c (.int .i64 0)), (some 4), none, []⟩]
theorem v75_0 : VS L75_0.eq_1 := rfl
def L75_1 : List AStep := [⟨.mov (.t 9), (some 5), none, []⟩]
theorem v75_1 : VS L75_1.eq_1 := rfl
def L75_2 : List AStep := ⟨.mov (.t 1), (some 8), none, []⟩ :: ⟨.call 96 [(.t 7), (.t 8)], (some 9), none, []⟩ :: L75_1
theorem v75_2 : VS L75_2.eq_1 := rfl
def L75_3 : List AStep := ⟨.faddr 0 (.t 2), (some 6), none, []⟩ :: ⟨.load 1 false (.t 6), (some 7), none, []⟩ :: L75_2
theorem v75_3 : VS L75_3.eq_1 := rfl
def L75_4 : List AStep := [⟨.call 102 [(.t 17)], (some 18), (some (12, true)), []⟩, ⟨.pick (.t 12) (.t 18) (.c (.bool false)), (some 19), none, []⟩]
theorem v75_4 : VS L75_4.eq_1 := rfl
def L75_5 : List AStep := ⟨.iaddr 4 (.t 14) (.t 15), (some 16), (some (12, true)), []⟩ :: ⟨.load 4 true (.t 16), (some 17), (some (12, true)), []⟩ :: L75_4
theorem v75_5 : VS L75_5.eq_1 := rfl
def L75_6 : List AStep := ⟨.load 1 false (.t 13), (some 14), (some (12, true)), []⟩ :: ⟨.mov (.t 5), (some 15), (some (12, true)), []⟩ :: L75_5
theorem v75_6 : VS L75_6.eq_1 := rfl
def L75_7 : List AStep := ⟨.mov (.t 11), (some 12), none, []⟩ :: ⟨.faddr 0 (.t 2), (some 13), (some (12, true)), []⟩ :: L75_6
theorem v75_7 : VS L75_7.eq_1 := rfl
def L75_8 : List AStep := ⟨.mov (.t 5), (some 10), none, []⟩ :: ⟨.bin .geq (.t 10) (.c (.int .i64 0)), (some 11), none, []⟩ :: L75_7
theorem v75_8 : VS L75_8.eq_1 := rfl
def L75_9 : List AStep := [⟨.mov (.t 5), (some 20), none, []⟩, ⟨.mov (.t 20), (some 4), none, []⟩]
theorem v75_9 : VS L75_9.eq_1 := rfl
def L75_10 : List AStep := [⟨.call 103 [(.t 22), (.c (.fn 104 []))], (some 23), none, []⟩, ⟨.mov (.t 23), (some 4), none, []⟩]
theorem v75_10 : VS L75_10.eq_1 := rfl
def L75_11 : List AStep := ⟨.faddr 0 (.t 2), (some 21), none, []⟩ :: ⟨.load 1 false (.t 21), (some 22), none, []⟩ :: L75_10
theorem v75_11 : VS L75_11.eq_1 := rfl
def C75_0 : ACode := .seq (.reg L75_9) .ret
theorem u75_0 : VC C75_0.eq_1 := rfl
def C75_1 : ACode := .cond (.t 19) C75_0 .skip
theorem u75_1 : VC C75_1.eq_1 := rfl
def C75_2 : ACode := .seq (.reg L75_8) C75_1
theorem u75_2 : VC C75_2.eq_1 := rfl
def C75_3 : ACode := .seq (.reg L75_3) C75_2
theorem u75_3 : VC C75_3.eq_1 := rfl
def C75_4 : ACode := .seq (.reg L75_11) .ret
theorem u75_4 : VC C75_4.eq_1 := rfl
def C75_5 : ACode := .seq C75_3 C75_4
theorem u75_5 : VC C75_5.eq_1 := rfl
def C75_6 : ACode := .seq (.reg L75_0) C75_5
theorem u75_6 : VC C75_6.eq_1 := rfl
def F75 : AFunc := ⟨24, [.tmp 4], C75_6⟩
theorem cF75 : compB Try.prog 75 = some F75 := by kernel_rfl
attribute [local go_sem ↓] u75_0 u75_1 u75_2 u75_3 u75_4 u75_5 u75_6 v75_0 v75_1 v75_2 v75_3 v75_4 v75_5 v75_6 v75_7 v75_8 v75_9 v75_10 v75_11
theorem c_takes (l : List Param) (pv : CV) (s : ByteArray) (h : H) (hl : SlQ h (.one pv) l) (hn : smQ l) : bm Try.prog 75 [.agg [pv], .one (.str s)] h = some (ii (takes l s), h) := by
  refine bm_eq cF75 ?_
  have e2 := c_indexQ l (.one pv) 104 [] (fun p => decide (p.kind = 4)) h hl hn.1 (fun i hi x hx => c_takes1 x h)
  rw [show idx (fun p : Param => decide (p.kind = 4)) l = kindAt l 4 from rfl] at e2
  rcases idx_cases (fun p : Param => decide (p.name = s)) l with e | ⟨j, hj, e, _⟩ <;> (replace e := (show paramAt l s = _ from e))
  · simp +contextual (maxSteps := 2000000) only [go_sem, Nat.reduceEqDiff, reduceCtorEq, Nat.reduceAdd, Nat.reduceLeDiff, F75, c_find _ _ _ _ hl hn, e, e2, takes_none e]
  · simp +contextual (maxSteps := 2000000) only [go_sem, Nat.reduceEqDiff, reduceCtorEq, Nat.reduceAdd, Nat.reduceLeDiff, F75, c_find _ _ _ _ hl hn, e, e2, takes_some hj e, hl.iaddr hj, hl.whole hj, c_named]
/-! impl.areValues$1 -/
def L113_0 : List AStep := [⟨.mov (.c (.bool false)), (some 2), none, []⟩]
theorem v113_0 : VS L113_0.eq_1 := rfl
def L113_1 : List AStep := [⟨.not (.t 4), (some 5), none, []⟩, ⟨.mov (.t 5), (some 2), none, []⟩]
theorem v113_1 : VS L113_1.eq_1 := rfl
def L113_2 : List AStep := ⟨.mov (.t 0), (some 3), none, []⟩ :: ⟨.call 95 [(.t 3)], (some 4), none, []⟩ :: L113_1
theorem v113_2 : VS L113_2.eq_1 := rfl
def C113_0 : ACode := .seq (.reg L113_2) .ret
theorem u113_0 : VC C113_0.eq_1 := rfl
def C113_1 : ACode := .seq (.reg L113_0) C113_0
theorem u113_1 : VC C113_1.eq_1 := rfl
def F113 : AFunc := ⟨6, [.tmp 2], C113_1⟩
theorem cF113 : compB Try.prog 113 = some F113 := by kernel_rfl
attribute [local go_sem ↓] u113_0 u113_1 v113_0 v113_1 v113_2
theorem c_areValues1 (n : Int) (h : H) : bm Try.prog 113 [.one (.int .i64 n)] h = some (ib (!(okNum n)), h) := by
  refine bm_eq cF113 ?_
  simp +contextual (maxSteps := 2000000) only [go_sem, Nat.reduceEqDiff, reduceCtorEq, Nat.reduceAdd, Nat.reduceLeDiff, F113, c_isValue]
/-! impl.areValues -/
def L99_0 : List AStep := [⟨.mov (.c (.bool false)), (some 2), none, []⟩]
theorem v99_0 : VS L99_0.eq_1 := rfl
def L99_1 : List AStep := [⟨.not (.t 4), (some 5), none, []⟩, ⟨.mov (.t 5), (some 2), none, []⟩]
theorem v99_1 : VS L99_1.eq_1 := rfl
def L99_2 : List AStep := ⟨.mov (.t 0), (some 3), none, []⟩ :: ⟨.call 112 [(.t 3), (.c (.fn 113 []))], (some 4), none, []⟩ :: L99_1
theorem v99_2 : VS L99_2.eq_1 := rfl
def C99_0 : ACode := .seq (.reg L99_2) .ret
theorem u99_0 : VC C99_0.eq_1 := rfl
def C99_1 : ACode := .seq (.reg L99_0) C99_0
theorem u99_1 : VC C99_1.eq_1 := rfl
def F99 : AFunc := ⟨6, [.tmp 2], C99_1⟩
theorem cF99 : compB Try.prog 99 = some F99 := by kernel_rfl
attribute [local go_sem ↓] u99_0 u99_1 v99_0 v99_1 v99_2
theorem c_areValues (l : List Int) (v : AV) (h : H) (hl : SlI h v l) (hn : l.length ≤ big) : bm Try.prog 99 [v] h = some (ib (l.all okNum), h) := by
  refine bm_eq cF99 ?_
  have e := c_hasI l v 113 [] (fun n => !(okNum n)) h hl hn (fun i hi x hx => c_areValues1 x h)
  simp +contextual (maxSteps := 2000000) only [go_sem, Nat.reduceEqDiff, reduceCtorEq, Nat.reduceAdd, Nat.reduceLeDiff, F99, e]
  simp [List.not_any_eq_all_not]
/-! impl.ValidFlat -/
def L72_0 : List AStep := [⟨.box 42 (.t 0), (some 1), none, []⟩, ⟨.mov (.c (.bool false)), (some 2), none, []⟩]
theorem v72_0 : VS L72_0.eq_1 := rfl
def L72_1 : List AStep := [⟨.len (.t 6), (some 7), none, []⟩, ⟨.mov (.c (.int .i64 0)), (some 8), none, []⟩]
theorem v72_1 : VS L72_1.eq_1 := rfl
def L72_2 : List AStep := ⟨.faddr 1 (.t 1), (some 5), none, []⟩ :: ⟨.load 1 false (.t 5), (some 6), none, []⟩ :: L72_1
theorem v72_2 : VS L72_2.eq_1 := rfl
def L72_3 : List AStep := [⟨.bin .lss (.t 8) (.t 7), (some 9), none, []⟩]
theorem v72_3 : VS L72_3.eq_1 := rfl
def L72_4 : List AStep := [⟨.mov (.t 10), (some 3), none, []⟩, ⟨.store 2 (.t 4) (.t 12), none, none, []⟩]
theorem v72_4 : VS L72_4.eq_1 := rfl
def L72_5 : List AStep := ⟨.load 2 true (.t 11), (some 12), none, []⟩ :: ⟨.alloc 98 [(.str (strOfNums [])), (.int .i64 0)], (some 4), none, []⟩ :: L72_4
theorem v72_5 : VS L72_5.eq_1 := rfl
def L72_6 : List AStep := ⟨.mov (.t 8), (some 10), none, []⟩ :: ⟨.iaddr 2 (.t 6) (.t 8), (some 11), none, []⟩ :: L72_5
theorem v72_6 : VS L72_6.eq_1 := rfl
def L72_7 : List AStep := [⟨.pick (.t 16) (.c (.bool true)) (.t 24), (some 25), none, []⟩]
theorem v72_7 : VS L72_7.eq_1 := rfl
def L72_8 : List AStep := ⟨.call 98 [(.t 20), (.t 22)], (some 23), (some (16, false)), []⟩ :: ⟨.bin .geq (.t 23) (.c (.int .i64 0)), (some 24), (some (16, false)), []⟩ :: L72_7
theorem v72_8 : VS L72_8.eq_1 := rfl
def L72_9 : List AStep := ⟨.faddr 0 (.t 4), (some 21), (some (16, false)), []⟩ :: ⟨.load 1 false (.t 21), (some 22), (some (16, false)), []⟩ :: L72_8
theorem v72_9 : VS L72_9.eq_1 := rfl
def L72_10 : List AStep := ⟨.mov (.t 3), (some 19), (some (16, false)), []⟩ :: ⟨.slice 98 2 (.t 18) none (some (.t 19)) none, (some 20), (some (16, false)), []⟩ :: L72_9
theorem v72_10 : VS L72_10.eq_1 := rfl
def L72_11 : List AStep := ⟨.faddr 1 (.t 1), (some 17), (some (16, false)), []⟩ :: ⟨.load 1 false (.t 17), (some 18), (some (16, false)), []⟩ :: L72_10
theorem v72_11 : VS L72_11.eq_1 := rfl
def L72_12 : List AStep := ⟨.not (.t 14), (some 15), none, []⟩ :: ⟨.mov (.t 15), (some 16), none, []⟩ :: L72_11
theorem v72_12 : VS L72_12.eq_1 := rfl
def L72_13 : List AStep := ⟨.load 2 true (.t 4), (some 13), none, []⟩ :: ⟨.call 97 [(.t 13)], (some 14), none, []⟩ :: L72_12
theorem v72_13 : VS L72_13.eq_1 := rfl
def L72_14 : List AStep := [⟨.mov (.c (.bool false)), (some 2), none, []⟩]
theorem v72_14 : VS L72_14.eq_1 := rfl
def L72_15 : List AStep := [⟨.bin .add (.t 8) (.c (.int .i64 1)), (some 26), none, []⟩, ⟨.mov (.t 26), (some 8), none, []⟩]
theorem v72_15 : VS L72_15.eq_1 := rfl
def L72_16 : List AStep := [⟨.pick (.t 37) (.t 40) (.c (.bool false)), (some 41), none, []⟩, ⟨.mov (.t 41), (some 2), none, []⟩]
theorem v72_16 : VS L72_16.eq_1 := rfl
def L72_17 : List AStep := ⟨.load 1 false (.t 38), (some 39), (some (37, true)), []⟩ :: ⟨.call 99 [(.t 39)], (some 40), (some (37, true)), []⟩ :: L72_16
theorem v72_17 : VS L72_17.eq_1 := rfl
def L72_18 : List AStep := ⟨.mov (.t 36), (some 37), none, []⟩ :: ⟨.faddr 0 (.t 1), (some 38), (some (37, true)), []⟩ :: L72_17
theorem v72_18 : VS L72_18.eq_1 := rfl
def L72_19 : List AStep := ⟨.bin .leq (.t 34) (.c (.int .i64 8)), (some 35), (some (31, true)), []⟩ :: ⟨.pick (.t 31) (.t 35) (.c (.bool false)), (some 36), none, []⟩ :: L72_18
theorem v72_19 : VS L72_19.eq_1 := rfl
def L72_20 : List AStep := ⟨.load 1 false (.t 32), (some 33), (some (31, true)), []⟩ :: ⟨.len (.t 33), (some 34), (some (31, true)), []⟩ :: L72_19
theorem v72_20 : VS L72_20.eq_1 := rfl
def L72_21 : List AStep := ⟨.mov (.t 30), (some 31), none, []⟩ :: ⟨.faddr 1 (.t 1), (some 32), (some (31, true)), []⟩ :: L72_20
theorem v72_21 : VS L72_21.eq_1 := rfl
def L72_22 : List AStep := ⟨.len (.t 28), (some 29), none, []⟩ :: ⟨.bin .leq (.t 29) (.c (.int .i64 8)), (some 30), none, []⟩ :: L72_21
theorem v72_22 : VS L72_22.eq_1 := rfl
def L72_23 : List AStep := ⟨.faddr 0 (.t 1), (some 27), none, []⟩ :: ⟨.load 1 false (.t 27), (some 28), none, []⟩ :: L72_22
theorem v72_23 : VS L72_23.eq_1 := rfl
def C72_0 : ACode := .cond (.t 9) .skip (.exit 0)
theorem u72_0 : VC C72_0.eq_1 := rfl
def C72_1 : ACode := .seq (.reg L72_14) .ret
theorem u72_1 : VC C72_1.eq_1 := rfl
def C72_2 : ACode := .cond (.t 25) C72_1 .skip
theorem u72_2 : VC C72_2.eq_1 := rfl
def C72_3 : ACode := .seq (.reg L72_13) C72_2
theorem u72_3 : VC C72_3.eq_1 := rfl
def C72_4 : ACode := .seq (.reg L72_6) C72_3
theorem u72_4 : VC C72_4.eq_1 := rfl
def C72_5 : ACode := .block 1 C72_4
theorem u72_5 : VC C72_5.eq_1 := rfl
def C72_6 : ACode := .seq C72_5 (.reg L72_15)
theorem u72_6 : VC C72_6.eq_1 := rfl
def C72_7 : ACode := .seq C72_0 C72_6
theorem u72_7 : VC C72_7.eq_1 := rfl
def C72_8 : ACode := .seq (.reg L72_3) C72_7
theorem u72_8 : VC C72_8.eq_1 := rfl
def C72_9 : ACode := .block 0 (.loop C72_8)
theorem u72_9 : VC C72_9.eq_1 := rfl
def C72_10 : ACode := .seq (.reg L72_2) C72_9
theorem u72_10 : VC C72_10.eq_1 := rfl
def C72_11 : ACode := .seq (.reg L72_23) .ret
theorem u72_11 : VC C72_11.eq_1 := rfl
def C72_12 : ACode := .seq C72_10 C72_11
theorem u72_12 : VC C72_12.eq_1 := rfl
def C72_13 : ACode := .seq (.reg L72_0) C72_12
theorem u72_13 : VC C72_13.eq_1 := rfl
def F72 : AFunc := ⟨42, [.tmp 2], C72_13⟩
theorem cF72 : compB Try.prog 72 = some F72 := by kernel_rfl
attribute [local go_sem ↓] u72_0 u72_1 u72_2 u72_3 u72_4 u72_5 u72_6 u72_7 u72_8 u72_9 u72_10 u72_11 u72_12 u72_13 v72_0 v72_1 v72_2 v72_3 v72_4 v72_5 v72_6 v72_7 v72_8 v72_9 v72_10 v72_11 v72_12 v72_13 v72_14 v72_15 v72_16 v72_17 v72_18 v72_19 v72_20 v72_21 v72_22 v72_23
theorem c_ValidFlat (f : Flat) (pv nv : CV) (h : H) (hp : SlI h (.one pv) f.pl) (hq : SlP h (.one nv) f.nl) (hn : smF f) : bm Try.prog 72 [.agg [pv, nv]] h = some (ib (okFlat f), h) := by
  refine bm_eq cF72 ?_
  simp +contextual (maxSteps := 2000000) only [go_sem, Nat.reduceEqDiff, reduceCtorEq, Nat.reduceAdd, Nat.reduceLeDiff, F72, hq.len]
  refine wpC_loop (fun i T L h' => h' = h ∧ T 1 = .lp 1 0 ∧ (L 1).2 = [pv, nv] ∧ T 6 = .v (.one nv) ∧ T 7 = .v (.one (.int .i64 f.nl.length)) ∧ T 8 = .v (.one (.int .i64 i)) ∧ Upto (newAt Pair.name f.nl) i ∧ Pre okPair true f.nl i) f.nl.length ?_ ?_ (Nat.zero_le _) ?_
  · rintro i T L h' hi ⟨rfl, t1, l1, t6, t7, t8, hu, hpre⟩
    obtain ⟨v', e1, s1⟩ := hq.takeO (i := i) (by omega) (kd := .i64)
    have e2 : decide (pairAt (f.nl.take i) f.nl[i].name ≥ 0) = !(newAt Pair.name f.nl i) := newAt_ge hi
    simp +contextual (maxSteps := 2000000) only [go_sem, Nat.reduceEqDiff, reduceCtorEq, Nat.reduceAdd, Nat.reduceLeDiff, e2, t1, l1, t6, t7, t8, hq.iaddr hi, hq.whole hi, lt_true hi, e1, c_okPair _ _ (hn.nl.at hi), c_pairAtI _ _ _ _ s1 (hn.nl.take i)]
    (repeat' (first | refine And.intro ?_ ?_ | intro _)) <;> first | rfl | rw [wrap_next hi hn.nl.len] | (refine hu.next ?_; simp_all; done) | (refine hpre.next hi ?_; simp_all; done) | (rw [okFlat, apart_not hi] <;> first | rfl | (simp_all; done)) | (rw [okFlat, all_stop (p := okPair) hi] <;> first | (simp; done) | (simp_all; done))
  · rintro T L h' ⟨rfl, t1, l1, t6, t7, t8, hu, hpre⟩
    simp +contextual (maxSteps := 2000000) only [go_sem, Nat.reduceEqDiff, reduceCtorEq, Nat.reduceAdd, Nat.reduceLeDiff, t1, l1, t6, t7, t8, hq.len, hp.len, lt_false, c_areValues _ _ _ hp hn.pl, okFlat, apart_of hu, hpre.all]
    (repeat' (first | refine And.intro ?_ ?_ | intro _)) <;> first | rfl | simp_all
  · simp +contextual (maxSteps := 2000000) only [go_sem, Nat.reduceEqDiff, reduceCtorEq, Nat.reduceAdd, Nat.reduceLeDiff]
    (repeat' (first | refine And.intro ?_ ?_ | intro _)) <;> first | rfl | exact Upto.zero | exact Pre.zero
end Go.Proofs.Ytdalgphpacikkaa.Am
