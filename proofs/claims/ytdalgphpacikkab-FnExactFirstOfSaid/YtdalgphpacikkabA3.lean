/- Contracts of the program: numbers, names, pairs, flat calls and signatures that are valid. -/
import Derived.Test.YtdalgphpacikkabDat
namespace Go.Proofs.Ytdalgphpacikkab.Am
open Go
set_option maxRecDepth 100000
set_option maxHeartbeats 4000000
set_option linter.unusedSimpArgs false
set_option linter.unusedVariables false
attribute [local go_sem ↓] bv_t bv_c ev_t ev_c put_same put_ne put_none kill_at pro_at lb_same lb_ne start_zero start_succ wpC_seq wpC_reg wpC_cond wpC_block wpC_skip wpC_exit wpC_ret thenQ_normal thenQ_exit thenQ_ret inBlk_normal inBlk_exit inBlk_ret wpS_nil wpS_step wpS_again wpS_guard wpO_mov wpO_load wpO_faddr wpO_nilCheck wpO_pick wpO_build wpO_bin wpO_eqb wpO_eqst wpO_eqnil wpO_not wpO_conv wpO_bytesStr wpO_iaddr wpO_idxStr wpO_field wpO_extract wpO_len wpO_lenStr wpO_cap wpO_min wpO_slice wpO_sliceStr wpO_alloc wpO_box wpO_store wpO_call wpO_callv wpO_mkfn wpO_buildSlice wpO_mkslice wpO_append wpO_appz proA_nil proA_cons tmpX_nil tmpX_tmp tmpX_cell doneB_normal doneB_ret agK_cons agK_nil agK_guard agG_tt agG_ff agG_tf agG_ft agG_undef pureB_load results_one results_two results_nil resBs_cons resBs_nil resB_tmp resB_cell
attribute [local go_sem] kill_v kill_lp_ne kill_lp_same pro_v pro_lp_same pro_lp_ne av_v av_lp optB_some optX_some valX_eq ldX_lp ldX_v faX_lp faX_v ncX_lp ncX_ptr ncX_fn boxK_one boxK_agg stL_some stK_lp_one stK_lp_agg stK_v_one stK_v_agg proM_v proM_lp callG_mk callVG_mk callvK_fn fnG_mk ptrsA_nil ptrsA_cons callH_some whenA_true whenA_false guardH_tt guardH_ff guardH_tf guardH_ft guardH_undef agV_one agV_agg lenO_sl lenStrO_str notO_bool pickO_bool convO_int eqbO_bool eqnilO_sl extractO_tup capO_sl minO_int loadL_one loadL_all storeL_eq fillA_nil fillA_one fillA_agg nat_ge neg_ge nat_lt neg_lt buildO bin_add bin_sub bin_mul bin_eql bin_neq bin_lss bin_leq bin_gtr bin_geq str_eql str_neq str_lss str_leq str_gtr str_geq retK_some endK_mk gcK_same gcK_int gcK_bool tupO_one tupO_agg rdy_self ib ii Option.map_none Option.map_some Option.some.injEq exists_eq_left' exists_eq_left ne_eq not_false_eq_true if_true if_false List.map_cons List.map_nil List.getElem?_cons_zero List.getElem?_cons_succ List.length_cons List.length_nil List.take_succ_cons List.take_zero List.take_nil List.drop_succ_cons List.drop_zero List.drop_nil List.cons_append List.nil_append List.append_nil List.set_cons_zero List.set_cons_succ Nat.zero_add forall_const true_and and_true and_self Bool.false_eq_true false_implies true_implies implies_true Bool.not_true Bool.not_false Bool.not_eq_true' Bool.not_eq_false' beq_self_eq_true Bool.bne_true Bool.bne_false
attribute [local go_sem] lenI lenS lenP lenQ lenB lenL lenT encI_0 encS_0 encP_0 encP_1 encQ_0 encQ_1 encQ_2 encQ_3 encB_0 encB_1 encL_0 encL_1 encT_0 encT_1
attribute [local go_sem low] whenA_bool guardH_bool
/-! impl.in -/
def L118_0 : List AStep := [⟨.mov (.c (.bool false)), (some 6), none, []⟩]
theorem v118_0 : VS L118_0.eq_1 := rfl
def L118_1 : List AStep := [⟨.mov (.t 14), (some 6), none, []⟩]
theorem v118_1 : VS L118_1.eq_1 := rfl
def L118_2 : List AStep := ⟨.bin .leq (.t 11) (.t 12), (some 13), (some (10, true)), []⟩ :: ⟨.pick (.t 10) (.t 13) (.c (.bool false)), (some 14), none, []⟩ :: L118_1
theorem v118_2 : VS L118_2.eq_1 := rfl
def L118_3 : List AStep := ⟨.mov (.t 0), (some 11), (some (10, true)), []⟩ :: ⟨.mov (.t 2), (some 12), (some (10, true)), []⟩ :: L118_2
theorem v118_3 : VS L118_3.eq_1 := rfl
def L118_4 : List AStep := ⟨.bin .geq (.t 7) (.t 8), (some 9), none, []⟩ :: ⟨.mov (.t 9), (some 10), none, []⟩ :: L118_3
theorem v118_4 : VS L118_4.eq_1 := rfl
def L118_5 : List AStep := ⟨.mov (.t 0), (some 7), none, []⟩ :: ⟨.mov (.t 1), (some 8), none, []⟩ :: L118_4
theorem v118_5 : VS L118_5.eq_1 := rfl
def C118_0 : ACode := .seq (.reg L118_5) .ret
theorem u118_0 : VC C118_0.eq_1 := rfl
def C118_1 : ACode := .seq (.reg L118_0) C118_0
theorem u118_1 : VC C118_1.eq_1 := rfl
def F118 : AFunc := ⟨15, [.tmp 6], C118_1⟩
theorem cF118 : compB Try.prog 118 = some F118 := by kernel_rfl
attribute [local go_sem ↓] u118_0 u118_1 v118_0 v118_1 v118_2 v118_3 v118_4 v118_5
theorem c_in (n lo hi : Int) (h : H) : bm Try.prog 118 [.one (.int .i64 n), .one (.int .i64 lo), .one (.int .i64 hi)] h = some (ib (decide (lo ≤ n) && decide (n ≤ hi)), h) := by
  refine bm_eq cF118 ?_
  simp +contextual (maxSteps := 2000000) only [go_sem, Nat.reduceEqDiff, reduceCtorEq, Nat.reduceAdd, Nat.reduceLeDiff, F118]
  (repeat' (first | refine And.intro ?_ ?_ | intro _)) <;> first | simp_all
/-! impl.isValue -/
def L119_0 : List AStep := [⟨.mov (.c (.bool false)), (some 2), none, []⟩]
theorem v119_0 : VS L119_0.eq_1 := rfl
def L119_1 : List AStep := [⟨.mov (.t 4), (some 2), none, []⟩]
theorem v119_1 : VS L119_1.eq_1 := rfl
def L119_2 : List AStep := ⟨.mov (.t 0), (some 3), none, []⟩ :: ⟨.call 118 [(.t 3), (.c (.int .i64 (-99))), (.c (.int .i64 99))], (some 4), none, []⟩ :: L119_1
theorem v119_2 : VS L119_2.eq_1 := rfl
def C119_0 : ACode := .seq (.reg L119_2) .ret
theorem u119_0 : VC C119_0.eq_1 := rfl
def C119_1 : ACode := .seq (.reg L119_0) C119_0
theorem u119_1 : VC C119_1.eq_1 := rfl
def F119 : AFunc := ⟨5, [.tmp 2], C119_1⟩
theorem cF119 : compB Try.prog 119 = some F119 := by kernel_rfl
attribute [local go_sem ↓] u119_0 u119_1 v119_0 v119_1 v119_2
theorem c_isValue (n : Int) (h : H) : bm Try.prog 119 [.one (.int .i64 n)] h = some (ib (okNum n), h) := by
  refine bm_eq cF119 ?_
  simp +contextual (maxSteps := 2000000) only [go_sem, Nat.reduceEqDiff, reduceCtorEq, Nat.reduceAdd, Nat.reduceLeDiff, F119, c_in, okNum]
/-! impl.isName -/
def L117_0 : List AStep := [⟨.mov (.c (.bool false)), (some 2), none, []⟩]
theorem v117_0 : VS L117_0.eq_1 := rfl
def L117_1 : List AStep := [⟨.mov (.c (.int .i64 0)), (some 3), none, []⟩]
theorem v117_1 : VS L117_1.eq_1 := rfl
def L117_2 : List AStep := [⟨.lenStr (.t 5), (some 6), none, []⟩, ⟨.bin .lss (.t 4) (.t 6), (some 7), none, []⟩]
theorem v117_2 : VS L117_2.eq_1 := rfl
def L117_3 : List AStep := ⟨.mov (.t 3), (some 4), none, []⟩ :: ⟨.mov (.t 0), (some 5), none, []⟩ :: L117_2
theorem v117_3 : VS L117_3.eq_1 := rfl
def L117_4 : List AStep := [⟨.bin .gtr (.t 17) (.c (.int .u8 122)), (some 18), (some (14, false)), []⟩, ⟨.pick (.t 14) (.c (.bool true)) (.t 18), (some 19), none, []⟩]
theorem v117_4 : VS L117_4.eq_1 := rfl
def L117_5 : List AStep := ⟨.mov (.t 3), (some 16), (some (14, false)), []⟩ :: ⟨.idxStr (.t 15) (.t 16), (some 17), (some (14, false)), []⟩ :: L117_4
theorem v117_5 : VS L117_5.eq_1 := rfl
def L117_6 : List AStep := ⟨.mov (.t 13), (some 14), none, []⟩ :: ⟨.mov (.t 0), (some 15), (some (14, false)), []⟩ :: L117_5
theorem v117_6 : VS L117_6.eq_1 := rfl
def L117_7 : List AStep := ⟨.idxStr (.t 10) (.t 11), (some 12), none, []⟩ :: ⟨.bin .lss (.t 12) (.c (.int .u8 97)), (some 13), none, []⟩ :: L117_6
theorem v117_7 : VS L117_7.eq_1 := rfl
def L117_8 : List AStep := ⟨.mov (.t 0), (some 10), none, []⟩ :: ⟨.mov (.t 3), (some 11), none, []⟩ :: L117_7
theorem v117_8 : VS L117_8.eq_1 := rfl
def L117_9 : List AStep := [⟨.mov (.c (.bool false)), (some 2), none, []⟩]
theorem v117_9 : VS L117_9.eq_1 := rfl
def L117_10 : List AStep := [⟨.mov (.t 9), (some 3), none, []⟩]
theorem v117_10 : VS L117_10.eq_1 := rfl
def L117_11 : List AStep := ⟨.mov (.t 3), (some 8), none, []⟩ :: ⟨.bin .add (.t 8) (.c (.int .i64 1)), (some 9), none, []⟩ :: L117_10
theorem v117_11 : VS L117_11.eq_1 := rfl
def L117_12 : List AStep := [⟨.call 118 [(.t 21), (.c (.int .i64 1)), (.c (.int .i64 6))], (some 22), none, []⟩, ⟨.mov (.t 22), (some 2), none, []⟩]
theorem v117_12 : VS L117_12.eq_1 := rfl
def L117_13 : List AStep := ⟨.mov (.t 0), (some 20), none, []⟩ :: ⟨.lenStr (.t 20), (some 21), none, []⟩ :: L117_12
theorem v117_13 : VS L117_13.eq_1 := rfl
def C117_0 : ACode := .cond (.t 7) .skip (.exit 0)
theorem u117_0 : VC C117_0.eq_1 := rfl
def C117_1 : ACode := .seq (.reg L117_3) C117_0
theorem u117_1 : VC C117_1.eq_1 := rfl
def C117_2 : ACode := .seq (.reg L117_9) .ret
theorem u117_2 : VC C117_2.eq_1 := rfl
def C117_3 : ACode := .cond (.t 19) C117_2 .skip
theorem u117_3 : VC C117_3.eq_1 := rfl
def C117_4 : ACode := .seq (.reg L117_8) C117_3
theorem u117_4 : VC C117_4.eq_1 := rfl
def C117_5 : ACode := .block 1 C117_4
theorem u117_5 : VC C117_5.eq_1 := rfl
def C117_6 : ACode := .seq C117_5 (.reg L117_11)
theorem u117_6 : VC C117_6.eq_1 := rfl
def C117_7 : ACode := .seq C117_1 C117_6
theorem u117_7 : VC C117_7.eq_1 := rfl
def C117_8 : ACode := .block 0 (.loop C117_7)
theorem u117_8 : VC C117_8.eq_1 := rfl
def C117_9 : ACode := .seq (.reg L117_1) C117_8
theorem u117_9 : VC C117_9.eq_1 := rfl
def C117_10 : ACode := .seq (.reg L117_13) .ret
theorem u117_10 : VC C117_10.eq_1 := rfl
def C117_11 : ACode := .seq C117_9 C117_10
theorem u117_11 : VC C117_11.eq_1 := rfl
def C117_12 : ACode := .seq (.reg L117_0) C117_11
theorem u117_12 : VC C117_12.eq_1 := rfl
def F117 : AFunc := ⟨23, [.tmp 2], C117_12⟩
theorem cF117 : compB Try.prog 117 = some F117 := by kernel_rfl
attribute [local go_sem ↓] u117_0 u117_1 u117_2 u117_3 u117_4 u117_5 u117_6 u117_7 u117_8 u117_9 u117_10 u117_11 u117_12 v117_0 v117_1 v117_2 v117_3 v117_4 v117_5 v117_6 v117_7 v117_8 v117_9 v117_10 v117_11 v117_12 v117_13
theorem c_isName (s : ByteArray) (h : H) (hn : s.size < 2 ^ 62) : bm Try.prog 117 [.one (.str s)] h = some (ib (okName s), h) := by
  refine bm_eq cF117 ?_
  simp +contextual (maxSteps := 2000000) only [go_sem, Nat.reduceEqDiff, reduceCtorEq, Nat.reduceAdd, Nat.reduceLeDiff, F117]
  have hsz : s.data.toList.length = s.size := Array.length_toList
  refine wpC_loop (fun i T L h' => h' = h ∧ T 0 = .v (.one (.str s)) ∧ T 3 = .v (.one (.int .i64 i)) ∧ Pre isLow true s.data.toList i) s.size ?_ ?_ (Nat.zero_le _) ?_
  · rintro i T L h' hi ⟨rfl, h0, h3, hp⟩
    simp +contextual (maxSteps := 2000000) only [go_sem, Nat.reduceEqDiff, reduceCtorEq, Nat.reduceAdd, Nat.reduceLeDiff, h0, h3, idx_at hi, lt_true hi]
    have e : s.data.toList[i]'(by omega) = s.data[i]'hi := Array.getElem_toList _
    have bad : isLow (s.data[i]'hi) = false → okName s = false := fun hx => by
      unfold okName
      rw [all_stop (l := s.data.toList) (i := i) (by omega) (by rw [e]; exact hx)]
      rfl
    have low : isLow (s.data[i]'hi) = (!(decide ((↑(s.data[i]'hi).toNat : Int) < 97)) && !(decide ((↑(s.data[i]'hi).toNat : Int) > 122))) := by
      unfold isLow
      rw [Bool.eq_iff_iff]
      simp
      omega
    (repeat' (first | refine And.intro ?_ ?_ | intro _)) <;> first | rfl | rw [wrap_next hi hn] | exact hp.next (by omega) (by rw [e, low]; simp_all) | rw [bad (by rw [low]; simp_all)]
  · rintro T L h' ⟨rfl, h0, h3, hp⟩
    rw [← hsz] at hp
    simp +contextual (maxSteps := 2000000) only [go_sem, Nat.reduceEqDiff, reduceCtorEq, Nat.reduceAdd, Nat.reduceLeDiff, h0, h3, lt_false, c_in, okName, hp.all, Bool.true_and]
  · simp +contextual (maxSteps := 2000000) only [go_sem, Nat.reduceEqDiff, reduceCtorEq, Nat.reduceAdd, Nat.reduceLeDiff]
    (repeat' (first | refine And.intro ?_ ?_ | intro _)) <;> first | rfl | exact Pre.zero
/-! (impl.Param).placed -/
def L113_0 : List AStep := [⟨.box 81 (.t 0), (some 1), none, []⟩, ⟨.mov (.c (.bool false)), (some 2), none, []⟩]
theorem v113_0 : VS L113_0.eq_1 := rfl
def L113_1 : List AStep := [⟨.mov (.t 10), (some 2), none, []⟩]
theorem v113_1 : VS L113_1.eq_1 := rfl
def L113_2 : List AStep := ⟨.bin .eql (.t 8) (.c (.int .i64 1)), (some 9), (some (6, false)), []⟩ :: ⟨.pick (.t 6) (.c (.bool true)) (.t 9), (some 10), none, []⟩ :: L113_1
theorem v113_2 : VS L113_2.eq_1 := rfl
def L113_3 : List AStep := ⟨.faddr 1 (.t 1), (some 7), (some (6, false)), []⟩ :: ⟨.load 1 false (.t 7), (some 8), (some (6, false)), []⟩ :: L113_2
theorem v113_3 : VS L113_3.eq_1 := rfl
def L113_4 : List AStep := ⟨.bin .eql (.t 4) (.c (.int .i64 0)), (some 5), none, []⟩ :: ⟨.mov (.t 5), (some 6), none, []⟩ :: L113_3
theorem v113_4 : VS L113_4.eq_1 := rfl
def L113_5 : List AStep := ⟨.faddr 1 (.t 1), (some 3), none, []⟩ :: ⟨.load 1 false (.t 3), (some 4), none, []⟩ :: L113_4
theorem v113_5 : VS L113_5.eq_1 := rfl
def C113_0 : ACode := .seq (.reg L113_5) .ret
theorem u113_0 : VC C113_0.eq_1 := rfl
def C113_1 : ACode := .seq (.reg L113_0) C113_0
theorem u113_1 : VC C113_1.eq_1 := rfl
def F113 : AFunc := ⟨11, [.tmp 2], C113_1⟩
theorem cF113 : compB Try.prog 113 = some F113 := by kernel_rfl
attribute [local go_sem ↓] u113_0 u113_1 v113_0 v113_1 v113_2 v113_3 v113_4 v113_5
theorem c_placed (p : Param) (h : H) : bm Try.prog 113 [.agg (encQ p)] h = some (ib (byPlace p), h) := by
  refine bm_eq cF113 ?_
  simp +contextual (maxSteps := 2000000) only [go_sem, Nat.reduceEqDiff, reduceCtorEq, Nat.reduceAdd, Nat.reduceLeDiff, F113, byPlace]
  (repeat' (first | refine And.intro ?_ ?_ | intro _)) <;> first | simp_all
/-! (impl.Param).named -/
def L134_0 : List AStep := [⟨.box 81 (.t 0), (some 1), none, []⟩, ⟨.mov (.c (.bool false)), (some 2), none, []⟩]
theorem v134_0 : VS L134_0.eq_1 := rfl
def L134_1 : List AStep := [⟨.mov (.t 10), (some 2), none, []⟩]
theorem v134_1 : VS L134_1.eq_1 := rfl
def L134_2 : List AStep := ⟨.bin .eql (.t 8) (.c (.int .i64 3)), (some 9), (some (6, false)), []⟩ :: ⟨.pick (.t 6) (.c (.bool true)) (.t 9), (some 10), none, []⟩ :: L134_1
theorem v134_2 : VS L134_2.eq_1 := rfl
def L134_3 : List AStep := ⟨.faddr 1 (.t 1), (some 7), (some (6, false)), []⟩ :: ⟨.load 1 false (.t 7), (some 8), (some (6, false)), []⟩ :: L134_2
theorem v134_3 : VS L134_3.eq_1 := rfl
def L134_4 : List AStep := ⟨.bin .eql (.t 4) (.c (.int .i64 1)), (some 5), none, []⟩ :: ⟨.mov (.t 5), (some 6), none, []⟩ :: L134_3
theorem v134_4 : VS L134_4.eq_1 := rfl
def L134_5 : List AStep := ⟨.faddr 1 (.t 1), (some 3), none, []⟩ :: ⟨.load 1 false (.t 3), (some 4), none, []⟩ :: L134_4
theorem v134_5 : VS L134_5.eq_1 := rfl
def C134_0 : ACode := .seq (.reg L134_5) .ret
theorem u134_0 : VC C134_0.eq_1 := rfl
def C134_1 : ACode := .seq (.reg L134_0) C134_0
theorem u134_1 : VC C134_1.eq_1 := rfl
def F134 : AFunc := ⟨11, [.tmp 2], C134_1⟩
theorem cF134 : compB Try.prog 134 = some F134 := by kernel_rfl
attribute [local go_sem ↓] u134_0 u134_1 v134_0 v134_1 v134_2 v134_3 v134_4 v134_5
theorem c_named (p : Param) (h : H) : bm Try.prog 134 [.agg (encQ p)] h = some (ib (byName p), h) := by
  refine bm_eq cF134 ?_
  simp +contextual (maxSteps := 2000000) only [go_sem, Nat.reduceEqDiff, reduceCtorEq, Nat.reduceAdd, Nat.reduceLeDiff, F134, byName]
  (repeat' (first | refine And.intro ?_ ?_ | intro _)) <;> first | simp_all
/-! (impl.Param).single -/
def L86_0 : List AStep := [⟨.box 81 (.t 0), (some 1), none, []⟩, ⟨.mov (.c (.bool false)), (some 2), none, []⟩]
theorem v86_0 : VS L86_0.eq_1 := rfl
def L86_1 : List AStep := [⟨.pick (.t 5) (.c (.bool true)) (.t 8), (some 9), none, []⟩, ⟨.mov (.t 9), (some 2), none, []⟩]
theorem v86_1 : VS L86_1.eq_1 := rfl
def L86_2 : List AStep := ⟨.load 1 false (.t 6), (some 7), (some (5, false)), []⟩ :: ⟨.bin .eql (.t 7) (.c (.int .i64 3)), (some 8), (some (5, false)), []⟩ :: L86_1
theorem v86_2 : VS L86_2.eq_1 := rfl
def L86_3 : List AStep := ⟨.mov (.t 4), (some 5), none, []⟩ :: ⟨.faddr 1 (.t 1), (some 6), (some (5, false)), []⟩ :: L86_2
theorem v86_3 : VS L86_3.eq_1 := rfl
def L86_4 : List AStep := ⟨.load 4 true (.t 1), (some 3), none, []⟩ :: ⟨.call 113 [(.t 3)], (some 4), none, []⟩ :: L86_3
theorem v86_4 : VS L86_4.eq_1 := rfl
def C86_0 : ACode := .seq (.reg L86_4) .ret
theorem u86_0 : VC C86_0.eq_1 := rfl
def C86_1 : ACode := .seq (.reg L86_0) C86_0
theorem u86_1 : VC C86_1.eq_1 := rfl
def F86 : AFunc := ⟨10, [.tmp 2], C86_1⟩
theorem cF86 : compB Try.prog 86 = some F86 := by kernel_rfl
attribute [local go_sem ↓] u86_0 u86_1 v86_0 v86_1 v86_2 v86_3 v86_4
theorem c_single (p : Param) (h : H) : bm Try.prog 86 [.agg (encQ p)] h = some (ib (single p), h) := by
  refine bm_eq cF86 ?_
  simp +contextual (maxSteps := 2000000) only [go_sem, Nat.reduceEqDiff, reduceCtorEq, Nat.reduceAdd, Nat.reduceLeDiff, F86, c_placed, single_eq]
  (repeat' (first | refine And.intro ?_ ?_ | intro _)) <;> first | simp_all
/-! (impl.Pair).valid -/
def L107_0 : List AStep := [⟨.box 109 (.t 0), (some 1), none, []⟩, ⟨.mov (.c (.bool false)), (some 2), none, []⟩]
theorem v107_0 : VS L107_0.eq_1 := rfl
def L107_1 : List AStep := [⟨.mov (.t 10), (some 2), none, []⟩]
theorem v107_1 : VS L107_1.eq_1 := rfl
def L107_2 : List AStep := ⟨.call 119 [(.t 8)], (some 9), (some (6, true)), []⟩ :: ⟨.pick (.t 6) (.t 9) (.c (.bool false)), (some 10), none, []⟩ :: L107_1
theorem v107_2 : VS L107_2.eq_1 := rfl
def L107_3 : List AStep := ⟨.faddr 1 (.t 1), (some 7), (some (6, true)), []⟩ :: ⟨.load 1 false (.t 7), (some 8), (some (6, true)), []⟩ :: L107_2
theorem v107_3 : VS L107_3.eq_1 := rfl
def L107_4 : List AStep := ⟨.call 117 [(.t 4)], (some 5), none, []⟩ :: ⟨.mov (.t 5), (some 6), none, []⟩ :: L107_3
theorem v107_4 : VS L107_4.eq_1 := rfl
def L107_5 : List AStep := ⟨.faddr 0 (.t 1), (some 3), none, []⟩ :: ⟨.load 1 false (.t 3), (some 4), none, []⟩ :: L107_4
theorem v107_5 : VS L107_5.eq_1 := rfl
def C107_0 : ACode := .seq (.reg L107_5) .ret
theorem u107_0 : VC C107_0.eq_1 := rfl
def C107_1 : ACode := .seq (.reg L107_0) C107_0
theorem u107_1 : VC C107_1.eq_1 := rfl
def F107 : AFunc := ⟨11, [.tmp 2], C107_1⟩
theorem cF107 : compB Try.prog 107 = some F107 := by kernel_rfl
attribute [local go_sem ↓] u107_0 u107_1 v107_0 v107_1 v107_2 v107_3 v107_4 v107_5
theorem c_okPair (p : Pair) (h : H) (hn : p.name.size < 2 ^ 62) : bm Try.prog 107 [.agg (encP p)] h = some (ib (okPair p), h) := by
  refine bm_eq cF107 ?_
  simp +contextual (maxSteps := 2000000) only [go_sem, Nat.reduceEqDiff, reduceCtorEq, Nat.reduceAdd, Nat.reduceLeDiff, F107, c_isName _ _ hn, c_isValue, okPair]
  (repeat' (first | refine And.intro ?_ ?_ | intro _)) <;> first | simp_all
/-! slices.IndexFunc(()impl.Pair,impl.Pair) -/
def L129_0 : List AStep := [⟨.mov (.c (.int .i64 0)), (some 4), none, []⟩]
theorem v129_0 : VS L129_0.eq_1 := rfl
def L129_1 : List AStep := [⟨.mov (.c (.int .i64 0)), (some 8), none, []⟩]
theorem v129_1 : VS L129_1.eq_1 := rfl
def L129_2 : List AStep := ⟨.mov (.t 0), (some 6), none, []⟩ :: ⟨.len (.t 6), (some 7), none, []⟩ :: L129_1
theorem v129_2 : VS L129_2.eq_1 := rfl
def L129_3 : List AStep := [⟨.bin .lss (.t 8) (.t 7), (some 9), none, []⟩]
theorem v129_3 : VS L129_3.eq_1 := rfl
def L129_4 : List AStep := [⟨.mov (.t 8), (some 10), none, []⟩, ⟨.mov (.t 10), (some 5), none, []⟩]
theorem v129_4 : VS L129_4.eq_1 := rfl
def L129_5 : List AStep := [⟨.load 2 true (.t 14), (some 15), none, []⟩, ⟨.callv (.t 11) [(.t 15)], (some 16), none, []⟩]
theorem v129_5 : VS L129_5.eq_1 := rfl
def L129_6 : List AStep := ⟨.mov (.t 5), (some 13), none, []⟩ :: ⟨.iaddr 2 (.t 12) (.t 13), (some 14), none, []⟩ :: L129_5
theorem v129_6 : VS L129_6.eq_1 := rfl
def L129_7 : List AStep := ⟨.mov (.t 1), (some 11), none, []⟩ :: ⟨.mov (.t 0), (some 12), none, []⟩ :: L129_6
theorem v129_7 : VS L129_7.eq_1 := rfl
def L129_8 : List AStep := [⟨.mov (.t 5), (some 17), none, []⟩, ⟨.mov (.t 17), (some 4), none, []⟩]
theorem v129_8 : VS L129_8.eq_1 := rfl
def L129_9 : List AStep := [⟨.bin .add (.t 8) (.c (.int .i64 1)), (some 18), none, []⟩, ⟨.mov (.t 18), (some 8), none, []⟩]
theorem v129_9 : VS L129_9.eq_1 := rfl
def L129_10 : List AStep := [⟨.mov (.c (.int .i64 (-1))), (some 4), none, []⟩]
theorem v129_10 : VS L129_10.eq_1 := rfl
def C129_0 : ACode := .cond (.t 9) .skip (.exit 0)
theorem u129_0 : VC C129_0.eq_1 := rfl
def C129_1 : ACode := .seq (.reg L129_8) .ret
theorem u129_1 : VC C129_1.eq_1 := rfl
def C129_2 : ACode := .cond (.t 16) C129_1 .skip
theorem u129_2 : VC C129_2.eq_1 := rfl
def C129_3 : ACode := .seq (.reg L129_7) C129_2
theorem u129_3 : VC C129_3.eq_1 := rfl
def C129_4 : ACode := .seq (.reg L129_4) C129_3
theorem u129_4 : VC C129_4.eq_1 := rfl
def C129_5 : ACode := .block 1 C129_4
theorem u129_5 : VC C129_5.eq_1 := rfl
def C129_6 : ACode := .seq C129_5 (.reg L129_9)
theorem u129_6 : VC C129_6.eq_1 := rfl
def C129_7 : ACode := .seq C129_0 C129_6
theorem u129_7 : VC C129_7.eq_1 := rfl
def C129_8 : ACode := .seq (.reg L129_3) C129_7
theorem u129_8 : VC C129_8.eq_1 := rfl
def C129_9 : ACode := .block 0 (.loop C129_8)
theorem u129_9 : VC C129_9.eq_1 := rfl
def C129_10 : ACode := .seq (.reg L129_2) C129_9
theorem u129_10 : VC C129_10.eq_1 := rfl
def C129_11 : ACode := .seq (.reg L129_10) .ret
theorem u129_11 : VC C129_11.eq_1 := rfl
def C129_12 : ACode := .seq C129_10 C129_11
theorem u129_12 : VC C129_12.eq_1 := rfl
def C129_13 : ACode := .seq (.reg L129_0) C129_12
theorem u129_13 : VC C129_13.eq_1 := rfl
def F129 : AFunc := ⟨19, [.tmp 4], C129_13⟩
theorem cF129 : compB Try.prog 129 = some F129 := by kernel_rfl
attribute [local go_sem ↓] u129_0 u129_1 u129_2 u129_3 u129_4 u129_5 u129_6 u129_7 u129_8 u129_9 u129_10 u129_11 u129_12 u129_13 v129_0 v129_1 v129_2 v129_3 v129_4 v129_5 v129_6 v129_7 v129_8 v129_9 v129_10
theorem c_indexP (l : List Pair) (v : AV) (f : Nat) (caps : List (Nat × Nat)) (p : Pair → Bool) (h : H) (hl : SlP h v l) (hn : l.length ≤ big) (hf : ∀ i (hi : i < l.length), ∀ x, x = l[i] → bm Try.prog f (.agg (encP x) :: caps.map fun a => .one (.ptr (some a))) h = some (ib (p x), h)) :
    bm Try.prog 129 [v, .one (.fn f caps)] h = some (ii (idx p l), h) := by
  refine bm_eq cF129 ?_
  simp +contextual (maxSteps := 2000000) only [go_sem, Nat.reduceEqDiff, reduceCtorEq, Nat.reduceAdd, Nat.reduceLeDiff, F129, hl.len]
  refine wpC_loop (fun i T L h' => h' = h ∧ T 0 = .v v ∧ T 1 = .v (.one (.fn f caps)) ∧ T 7 = .v (.one (.int .i64 l.length)) ∧ T 8 = .v (.one (.int .i64 i)) ∧ Pre p false l i) l.length ?_ ?_ (Nat.zero_le _) ?_
  · rintro i T L h' hi ⟨rfl, h0, h1, h7, h8, hp⟩
    simp +contextual (maxSteps := 2000000) only [go_sem, Nat.reduceEqDiff, reduceCtorEq, Nat.reduceAdd, Nat.reduceLeDiff, h0, h1, h7, h8, hl.iaddr hi, hl.whole hi, hf i hi _ rfl, lt_true hi]
    (repeat' (first | refine And.intro ?_ ?_ | intro _)) <;> first | rfl | rw [wrap_next hi (big_lt hn)] | exact hp.next hi ‹_› | rw [idx_hit hi hp ‹_›]
  · rintro T L h' ⟨rfl, h0, h1, h7, h8, hp⟩
    simp +contextual (maxSteps := 2000000) only [go_sem, Nat.reduceEqDiff, reduceCtorEq, Nat.reduceAdd, Nat.reduceLeDiff, h0, h1, h7, h8, lt_false, idx_none hp]
  · simp +contextual (maxSteps := 2000000) only [go_sem, Nat.reduceEqDiff, reduceCtorEq, Nat.reduceAdd, Nat.reduceLeDiff]
    (repeat' (first | refine And.intro ?_ ?_ | intro _)) <;> first | rfl | exact Pre.zero
/-! slices.IndexFunc(()impl.Param,impl.Param) -/
def L135_0 : List AStep := [⟨.mov (.c (.int .i64 0)), (some 4), none, []⟩]
theorem v135_0 : VS L135_0.eq_1 := rfl
def L135_1 : List AStep := [⟨.mov (.c (.int .i64 0)), (some 8), none, []⟩]
theorem v135_1 : VS L135_1.eq_1 := rfl
def L135_2 : List AStep := ⟨.mov (.t 0), (some 6), none, []⟩ :: ⟨.len (.t 6), (some 7), none, []⟩ :: L135_1
theorem v135_2 : VS L135_2.eq_1 := rfl
def L135_3 : List AStep := [⟨.bin .lss (.t 8) (.t 7), (some 9), none, []⟩]
theorem v135_3 : VS L135_3.eq_1 := rfl
def L135_4 : List AStep := [⟨.mov (.t 8), (some 10), none, []⟩, ⟨.mov (.t 10), (some 5), none, []⟩]
theorem v135_4 : VS L135_4.eq_1 := rfl
def L135_5 : List AStep := [⟨.load 4 true (.t 14), (some 15), none, []⟩, ⟨.callv (.t 11) [(.t 15)], (some 16), none, []⟩]
theorem v135_5 : VS L135_5.eq_1 := rfl
def L135_6 : List AStep := ⟨.mov (.t 5), (some 13), none, []⟩ :: ⟨.iaddr 4 (.t 12) (.t 13), (some 14), none, []⟩ :: L135_5
theorem v135_6 : VS L135_6.eq_1 := rfl
def L135_7 : List AStep := ⟨.mov (.t 1), (some 11), none, []⟩ :: ⟨.mov (.t 0), (some 12), none, []⟩ :: L135_6
theorem v135_7 : VS L135_7.eq_1 := rfl
def L135_8 : List AStep := [⟨.mov (.t 5), (some 17), none, []⟩, ⟨.mov (.t 17), (some 4), none, []⟩]
theorem v135_8 : VS L135_8.eq_1 := rfl
def L135_9 : List AStep := [⟨.bin .add (.t 8) (.c (.int .i64 1)), (some 18), none, []⟩, ⟨.mov (.t 18), (some 8), none, []⟩]
theorem v135_9 : VS L135_9.eq_1 := rfl
def L135_10 : List AStep := [⟨.mov (.c (.int .i64 (-1))), (some 4), none, []⟩]
theorem v135_10 : VS L135_10.eq_1 := rfl
def C135_0 : ACode := .cond (.t 9) .skip (.exit 0)
theorem u135_0 : VC C135_0.eq_1 := rfl
def C135_1 : ACode := .seq (.reg L135_8) .ret
theorem u135_1 : VC C135_1.eq_1 := rfl
def C135_2 : ACode := .cond (.t 16) C135_1 .skip
theorem u135_2 : VC C135_2.eq_1 := rfl
def C135_3 : ACode := .seq (.reg L135_7) C135_2
theorem u135_3 : VC C135_3.eq_1 := rfl
def C135_4 : ACode := .seq (.reg L135_4) C135_3
theorem u135_4 : VC C135_4.eq_1 := rfl
def C135_5 : ACode := .block 1 C135_4
theorem u135_5 : VC C135_5.eq_1 := rfl
def C135_6 : ACode := .seq C135_5 (.reg L135_9)
theorem u135_6 : VC C135_6.eq_1 := rfl
def C135_7 : ACode := .seq C135_0 C135_6
theorem u135_7 : VC C135_7.eq_1 := rfl
def C135_8 : ACode := .seq (.reg L135_3) C135_7
theorem u135_8 : VC C135_8.eq_1 := rfl
def C135_9 : ACode := .block 0 (.loop C135_8)
theorem u135_9 : VC C135_9.eq_1 := rfl
def C135_10 : ACode := .seq (.reg L135_2) C135_9
theorem u135_10 : VC C135_10.eq_1 := rfl
def C135_11 : ACode := .seq (.reg L135_10) .ret
theorem u135_11 : VC C135_11.eq_1 := rfl
def C135_12 : ACode := .seq C135_10 C135_11
theorem u135_12 : VC C135_12.eq_1 := rfl
def C135_13 : ACode := .seq (.reg L135_0) C135_12
theorem u135_13 : VC C135_13.eq_1 := rfl
def F135 : AFunc := ⟨19, [.tmp 4], C135_13⟩
theorem cF135 : compB Try.prog 135 = some F135 := by kernel_rfl
attribute [local go_sem ↓] u135_0 u135_1 u135_2 u135_3 u135_4 u135_5 u135_6 u135_7 u135_8 u135_9 u135_10 u135_11 u135_12 u135_13 v135_0 v135_1 v135_2 v135_3 v135_4 v135_5 v135_6 v135_7 v135_8 v135_9 v135_10
theorem c_indexQ (l : List Param) (v : AV) (f : Nat) (caps : List (Nat × Nat)) (p : Param → Bool) (h : H) (hl : SlQ h v l) (hn : l.length ≤ big) (hf : ∀ i (hi : i < l.length), ∀ x, x = l[i] → bm Try.prog f (.agg (encQ x) :: caps.map fun a => .one (.ptr (some a))) h = some (ib (p x), h)) :
    bm Try.prog 135 [v, .one (.fn f caps)] h = some (ii (idx p l), h) := by
  refine bm_eq cF135 ?_
  simp +contextual (maxSteps := 2000000) only [go_sem, Nat.reduceEqDiff, reduceCtorEq, Nat.reduceAdd, Nat.reduceLeDiff, F135, hl.len]
  refine wpC_loop (fun i T L h' => h' = h ∧ T 0 = .v v ∧ T 1 = .v (.one (.fn f caps)) ∧ T 7 = .v (.one (.int .i64 l.length)) ∧ T 8 = .v (.one (.int .i64 i)) ∧ Pre p false l i) l.length ?_ ?_ (Nat.zero_le _) ?_
  · rintro i T L h' hi ⟨rfl, h0, h1, h7, h8, hp⟩
    simp +contextual (maxSteps := 2000000) only [go_sem, Nat.reduceEqDiff, reduceCtorEq, Nat.reduceAdd, Nat.reduceLeDiff, h0, h1, h7, h8, hl.iaddr hi, hl.whole hi, hf i hi _ rfl, lt_true hi]
    (repeat' (first | refine And.intro ?_ ?_ | intro _)) <;> first | rfl | rw [wrap_next hi (big_lt hn)] | exact hp.next hi ‹_› | rw [idx_hit hi hp ‹_›]
  · rintro T L h' ⟨rfl, h0, h1, h7, h8, hp⟩
    simp +contextual (maxSteps := 2000000) only [go_sem, Nat.reduceEqDiff, reduceCtorEq, Nat.reduceAdd, Nat.reduceLeDiff, h0, h1, h7, h8, lt_false, idx_none hp]
  · simp +contextual (maxSteps := 2000000) only [go_sem, Nat.reduceEqDiff, reduceCtorEq, Nat.reduceAdd, Nat.reduceLeDiff]
    (repeat' (first | refine And.intro ?_ ?_ | intro _)) <;> first | rfl | exact Pre.zero
/-! slices.ContainsFunc(()impl.Param,impl.Param) -/
def L121_0 : List AStep := [⟨.mov (.c (.bool false)), (some 4), none, []⟩]
theorem v121_0 : VS L121_0.eq_1 := rfl
def L121_1 : List AStep := [⟨.mov (.t 8), (some 4), none, []⟩]
theorem v121_1 : VS L121_1.eq_1 := rfl
def L121_2 : List AStep := ⟨.call 135 [(.t 5), (.t 6)], (some 7), none, []⟩ :: ⟨.bin .geq (.t 7) (.c (.int .i64 0)), (some 8), none, []⟩ :: L121_1
theorem v121_2 : VS L121_2.eq_1 := rfl
def L121_3 : List AStep := ⟨.mov (.t 0), (some 5), none, []⟩ :: ⟨.mov (.t 1), (some 6), none, []⟩ :: L121_2
theorem v121_3 : VS L121_3.eq_1 := rfl
def C121_0 : ACode := .seq (.reg L121_3) .ret
theorem u121_0 : VC C121_0.eq_1 := rfl
def C121_1 : ACode := .seq (.reg L121_0) C121_0
theorem u121_1 : VC C121_1.eq_1 := rfl
def F121 : AFunc := ⟨9, [.tmp 4], C121_1⟩
theorem cF121 : compB Try.prog 121 = some F121 := by kernel_rfl
attribute [local go_sem ↓] u121_0 u121_1 v121_0 v121_1 v121_2 v121_3
theorem c_hasQ (l : List Param) (v : AV) (f : Nat) (caps : List (Nat × Nat)) (p : Param → Bool) (h : H) (hl : SlQ h v l) (hn : l.length ≤ big) (hf : ∀ i (hi : i < l.length), ∀ x, x = l[i] → bm Try.prog f (.agg (encQ x) :: caps.map fun a => .one (.ptr (some a))) h = some (ib (p x), h)) :
    bm Try.prog 121 [v, .one (.fn f caps)] h = some (ib (l.any p), h) := by
  refine bm_eq cF121 ?_
  have e := idx_any (p := p) (l := l)
  simp +contextual (maxSteps := 2000000) only [go_sem, Nat.reduceEqDiff, reduceCtorEq, Nat.reduceAdd, Nat.reduceLeDiff, F121, c_indexQ l v f caps p h hl hn hf, e]
/-! slices.IndexFunc(()int,int) -/
def L139_0 : List AStep := [⟨.mov (.c (.int .i64 0)), (some 4), none, []⟩]
theorem v139_0 : VS L139_0.eq_1 := rfl
def L139_1 : List AStep := [⟨.mov (.c (.int .i64 0)), (some 8), none, []⟩]
theorem v139_1 : VS L139_1.eq_1 := rfl
def L139_2 : List AStep := ⟨.mov (.t 0), (some 6), none, []⟩ :: ⟨.len (.t 6), (some 7), none, []⟩ :: L139_1
theorem v139_2 : VS L139_2.eq_1 := rfl
def L139_3 : List AStep := [⟨.bin .lss (.t 8) (.t 7), (some 9), none, []⟩]
theorem v139_3 : VS L139_3.eq_1 := rfl
def L139_4 : List AStep := [⟨.mov (.t 8), (some 10), none, []⟩, ⟨.mov (.t 10), (some 5), none, []⟩]
theorem v139_4 : VS L139_4.eq_1 := rfl
def L139_5 : List AStep := [⟨.load 1 false (.t 14), (some 15), none, []⟩, ⟨.callv (.t 11) [(.t 15)], (some 16), none, []⟩]
theorem v139_5 : VS L139_5.eq_1 := rfl
def L139_6 : List AStep := ⟨.mov (.t 5), (some 13), none, []⟩ :: ⟨.iaddr 1 (.t 12) (.t 13), (some 14), none, []⟩ :: L139_5
theorem v139_6 : VS L139_6.eq_1 := rfl
def L139_7 : List AStep := ⟨.mov (.t 1), (some 11), none, []⟩ :: ⟨.mov (.t 0), (some 12), none, []⟩ :: L139_6
theorem v139_7 : VS L139_7.eq_1 := rfl
def L139_8 : List AStep := [⟨.mov (.t 5), (some 17), none, []⟩, ⟨.mov (.t 17), (some 4), none, []⟩]
theorem v139_8 : VS L139_8.eq_1 := rfl
def L139_9 : List AStep := [⟨.bin .add (.t 8) (.c (.int .i64 1)), (some 18), none, []⟩, ⟨.mov (.t 18), (some 8), none, []⟩]
theorem v139_9 : VS L139_9.eq_1 := rfl
def L139_10 : List AStep := [⟨.mov (.c (.int .i64 (-1))), (some 4), none, []⟩]
theorem v139_10 : VS L139_10.eq_1 := rfl
def C139_0 : ACode := .cond (.t 9) .skip (.exit 0)
theorem u139_0 : VC C139_0.eq_1 := rfl
def C139_1 : ACode := .seq (.reg L139_8) .ret
theorem u139_1 : VC C139_1.eq_1 := rfl
def C139_2 : ACode := .cond (.t 16) C139_1 .skip
theorem u139_2 : VC C139_2.eq_1 := rfl
def C139_3 : ACode := .seq (.reg L139_7) C139_2
theorem u139_3 : VC C139_3.eq_1 := rfl
def C139_4 : ACode := .seq (.reg L139_4) C139_3
theorem u139_4 : VC C139_4.eq_1 := rfl
def C139_5 : ACode := .block 1 C139_4
theorem u139_5 : VC C139_5.eq_1 := rfl
def C139_6 : ACode := .seq C139_5 (.reg L139_9)
theorem u139_6 : VC C139_6.eq_1 := rfl
def C139_7 : ACode := .seq C139_0 C139_6
theorem u139_7 : VC C139_7.eq_1 := rfl
def C139_8 : ACode := .seq (.reg L139_3) C139_7
theorem u139_8 : VC C139_8.eq_1 := rfl
def C139_9 : ACode := .block 0 (.loop C139_8)
theorem u139_9 : VC C139_9.eq_1 := rfl
def C139_10 : ACode := .seq (.reg L139_2) C139_9
theorem u139_10 : VC C139_10.eq_1 := rfl
def C139_11 : ACode := .seq (.reg L139_10) .ret
theorem u139_11 : VC C139_11.eq_1 := rfl
def C139_12 : ACode := .seq C139_10 C139_11
theorem u139_12 : VC C139_12.eq_1 := rfl
def C139_13 : ACode := .seq (.reg L139_0) C139_12
theorem u139_13 : VC C139_13.eq_1 := rfl
def F139 : AFunc := ⟨19, [.tmp 4], C139_13⟩
theorem cF139 : compB Try.prog 139 = some F139 := by kernel_rfl
attribute [local go_sem ↓] u139_0 u139_1 u139_2 u139_3 u139_4 u139_5 u139_6 u139_7 u139_8 u139_9 u139_10 u139_11 u139_12 u139_13 v139_0 v139_1 v139_2 v139_3 v139_4 v139_5 v139_6 v139_7 v139_8 v139_9 v139_10
theorem c_indexI (l : List Int) (v : AV) (f : Nat) (caps : List (Nat × Nat)) (p : Int → Bool) (h : H) (hl : SlI h v l) (hn : l.length ≤ big) (hf : ∀ i (hi : i < l.length), ∀ x, x = l[i] → bm Try.prog f (.one (.int .i64 x) :: caps.map fun a => .one (.ptr (some a))) h = some (ib (p x), h)) :
    bm Try.prog 139 [v, .one (.fn f caps)] h = some (ii (idx p l), h) := by
  refine bm_eq cF139 ?_
  simp +contextual (maxSteps := 2000000) only [go_sem, Nat.reduceEqDiff, reduceCtorEq, Nat.reduceAdd, Nat.reduceLeDiff, F139, hl.len]
  refine wpC_loop (fun i T L h' => h' = h ∧ T 0 = .v v ∧ T 1 = .v (.one (.fn f caps)) ∧ T 7 = .v (.one (.int .i64 l.length)) ∧ T 8 = .v (.one (.int .i64 i)) ∧ Pre p false l i) l.length ?_ ?_ (Nat.zero_le _) ?_
  · rintro i T L h' hi ⟨rfl, h0, h1, h7, h8, hp⟩
    simp +contextual (maxSteps := 2000000) only [go_sem, Nat.reduceEqDiff, reduceCtorEq, Nat.reduceAdd, Nat.reduceLeDiff, h0, h1, h7, h8, hl.iaddr hi, hl.oneO hi, hf i hi _ rfl, lt_true hi]
    (repeat' (first | refine And.intro ?_ ?_ | intro _)) <;> first | rfl | rw [wrap_next hi (big_lt hn)] | exact hp.next hi ‹_› | rw [idx_hit hi hp ‹_›]
  · rintro T L h' ⟨rfl, h0, h1, h7, h8, hp⟩
    simp +contextual (maxSteps := 2000000) only [go_sem, Nat.reduceEqDiff, reduceCtorEq, Nat.reduceAdd, Nat.reduceLeDiff, h0, h1, h7, h8, lt_false, idx_none hp]
  · simp +contextual (maxSteps := 2000000) only [go_sem, Nat.reduceEqDiff, reduceCtorEq, Nat.reduceAdd, Nat.reduceLeDiff]
    (repeat' (first | refine And.intro ?_ ?_ | intro _)) <;> first | rfl | exact Pre.zero
/-! slices.ContainsFunc(()int,int) -/
def L131_0 : List AStep := [⟨.mov (.c (.bool false)), (some 4), none, []⟩]
theorem v131_0 : VS L131_0.eq_1 := rfl
def L131_1 : List AStep := [⟨.mov (.t 8), (some 4), none, []⟩]
theorem v131_1 : VS L131_1.eq_1 := rfl
def L131_2 : List AStep := ⟨.call 139 [(.t 5), (.t 6)], (some 7), none, []⟩ :: ⟨.bin .geq (.t 7) (.c (.int .i64 0)), (some 8), none, []⟩ :: L131_1
theorem v131_2 : VS L131_2.eq_1 := rfl
def L131_3 : List AStep := ⟨.mov (.t 0), (some 5), none, []⟩ :: ⟨.mov (.t 1), (some 6), none, []⟩ :: L131_2
theorem v131_3 : VS L131_3.eq_1 := rfl
def C131_0 : ACode := .seq (.reg L131_3) .ret
theorem u131_0 : VC C131_0.eq_1 := rfl
def C131_1 : ACode := .seq (.reg L131_0) C131_0
theorem u131_1 : VC C131_1.eq_1 := rfl
def F131 : AFunc := ⟨9, [.tmp 4], C131_1⟩
theorem cF131 : compB Try.prog 131 = some F131 := by kernel_rfl
attribute [local go_sem ↓] u131_0 u131_1 v131_0 v131_1 v131_2 v131_3
theorem c_hasI (l : List Int) (v : AV) (f : Nat) (caps : List (Nat × Nat)) (p : Int → Bool) (h : H) (hl : SlI h v l) (hn : l.length ≤ big) (hf : ∀ i (hi : i < l.length), ∀ x, x = l[i] → bm Try.prog f (.one (.int .i64 x) :: caps.map fun a => .one (.ptr (some a))) h = some (ib (p x), h)) :
    bm Try.prog 131 [v, .one (.fn f caps)] h = some (ib (l.any p), h) := by
  refine bm_eq cF131 ?_
  have e := idx_any (p := p) (l := l)
  simp +contextual (maxSteps := 2000000) only [go_sem, Nat.reduceEqDiff, reduceCtorEq, Nat.reduceAdd, Nat.reduceLeDiff, F131, c_indexI l v f caps p h hl hn hf, e]
/-! slices.IndexFunc(()impl.Problem,impl.Problem) -/
def L133_0 : List AStep := [⟨.mov (.c (.int .i64 0)), (some 4), none, []⟩]
theorem v133_0 : VS L133_0.eq_1 := rfl
def L133_1 : List AStep := [⟨.mov (.c (.int .i64 0)), (some 8), none, []⟩]
theorem v133_1 : VS L133_1.eq_1 := rfl
def L133_2 : List AStep := ⟨.mov (.t 0), (some 6), none, []⟩ :: ⟨.len (.t 6), (some 7), none, []⟩ :: L133_1
theorem v133_2 : VS L133_2.eq_1 := rfl
def L133_3 : List AStep := [⟨.bin .lss (.t 8) (.t 7), (some 9), none, []⟩]
theorem v133_3 : VS L133_3.eq_1 := rfl
def L133_4 : List AStep := [⟨.mov (.t 8), (some 10), none, []⟩, ⟨.mov (.t 10), (some 5), none, []⟩]
theorem v133_4 : VS L133_4.eq_1 := rfl
def L133_5 : List AStep := [⟨.load 2 true (.t 14), (some 15), none, []⟩, ⟨.callv (.t 11) [(.t 15)], (some 16), none, []⟩]
theorem v133_5 : VS L133_5.eq_1 := rfl
def L133_6 : List AStep := ⟨.mov (.t 5), (some 13), none, []⟩ :: ⟨.iaddr 2 (.t 12) (.t 13), (some 14), none, []⟩ :: L133_5
theorem v133_6 : VS L133_6.eq_1 := rfl
def L133_7 : List AStep := ⟨.mov (.t 1), (some 11), none, []⟩ :: ⟨.mov (.t 0), (some 12), none, []⟩ :: L133_6
theorem v133_7 : VS L133_7.eq_1 := rfl
def L133_8 : List AStep := [⟨.mov (.t 5), (some 17), none, []⟩, ⟨.mov (.t 17), (some 4), none, []⟩]
theorem v133_8 : VS L133_8.eq_1 := rfl
def L133_9 : List AStep := [⟨.bin .add (.t 8) (.c (.int .i64 1)), (some 18), none, []⟩, ⟨.mov (.t 18), (some 8), none, []⟩]
theorem v133_9 : VS L133_9.eq_1 := rfl
def L133_10 : List AStep := [⟨.mov (.c (.int .i64 (-1))), (some 4), none, []⟩]
theorem v133_10 : VS L133_10.eq_1 := rfl
def C133_0 : ACode := .cond (.t 9) .skip (.exit 0)
theorem u133_0 : VC C133_0.eq_1 := rfl
def C133_1 : ACode := .seq (.reg L133_8) .ret
theorem u133_1 : VC C133_1.eq_1 := rfl
def C133_2 : ACode := .cond (.t 16) C133_1 .skip
theorem u133_2 : VC C133_2.eq_1 := rfl
def C133_3 : ACode := .seq (.reg L133_7) C133_2
theorem u133_3 : VC C133_3.eq_1 := rfl
def C133_4 : ACode := .seq (.reg L133_4) C133_3
theorem u133_4 : VC C133_4.eq_1 := rfl
def C133_5 : ACode := .block 1 C133_4
theorem u133_5 : VC C133_5.eq_1 := rfl
def C133_6 : ACode := .seq C133_5 (.reg L133_9)
theorem u133_6 : VC C133_6.eq_1 := rfl
def C133_7 : ACode := .seq C133_0 C133_6
theorem u133_7 : VC C133_7.eq_1 := rfl
def C133_8 : ACode := .seq (.reg L133_3) C133_7
theorem u133_8 : VC C133_8.eq_1 := rfl
def C133_9 : ACode := .block 0 (.loop C133_8)
theorem u133_9 : VC C133_9.eq_1 := rfl
def C133_10 : ACode := .seq (.reg L133_2) C133_9
theorem u133_10 : VC C133_10.eq_1 := rfl
def C133_11 : ACode := .seq (.reg L133_10) .ret
theorem u133_11 : VC C133_11.eq_1 := rfl
def C133_12 : ACode := .seq C133_10 C133_11
theorem u133_12 : VC C133_12.eq_1 := rfl
def C133_13 : ACode := .seq (.reg L133_0) C133_12
theorem u133_13 : VC C133_13.eq_1 := rfl
def F133 : AFunc := ⟨19, [.tmp 4], C133_13⟩
theorem cF133 : compB Try.prog 133 = some F133 := by kernel_rfl
attribute [local go_sem ↓] u133_0 u133_1 u133_2 u133_3 u133_4 u133_5 u133_6 u133_7 u133_8 u133_9 u133_10 u133_11 u133_12 u133_13 v133_0 v133_1 v133_2 v133_3 v133_4 v133_5 v133_6 v133_7 v133_8 v133_9 v133_10
theorem c_indexB (l : List Problem) (v : AV) (f : Nat) (caps : List (Nat × Nat)) (p : Problem → Bool) (h : H) (hl : SlB h v l) (hn : l.length ≤ big) (hf : ∀ i (hi : i < l.length), ∀ x, x = l[i] → bm Try.prog f (.agg (encB x) :: caps.map fun a => .one (.ptr (some a))) h = some (ib (p x), h)) :
    bm Try.prog 133 [v, .one (.fn f caps)] h = some (ii (idx p l), h) := by
  refine bm_eq cF133 ?_
  simp +contextual (maxSteps := 2000000) only [go_sem, Nat.reduceEqDiff, reduceCtorEq, Nat.reduceAdd, Nat.reduceLeDiff, F133, hl.len]
  refine wpC_loop (fun i T L h' => h' = h ∧ T 0 = .v v ∧ T 1 = .v (.one (.fn f caps)) ∧ T 7 = .v (.one (.int .i64 l.length)) ∧ T 8 = .v (.one (.int .i64 i)) ∧ Pre p false l i) l.length ?_ ?_ (Nat.zero_le _) ?_
  · rintro i T L h' hi ⟨rfl, h0, h1, h7, h8, hp⟩
    simp +contextual (maxSteps := 2000000) only [go_sem, Nat.reduceEqDiff, reduceCtorEq, Nat.reduceAdd, Nat.reduceLeDiff, h0, h1, h7, h8, hl.iaddr hi, hl.whole hi, hf i hi _ rfl, lt_true hi]
    (repeat' (first | refine And.intro ?_ ?_ | intro _)) <;> first | rfl | rw [wrap_next hi (big_lt hn)] | exact hp.next hi ‹_› | rw [idx_hit hi hp ‹_›]
  · rintro T L h' ⟨rfl, h0, h1, h7, h8, hp⟩
    simp +contextual (maxSteps := 2000000) only [go_sem, Nat.reduceEqDiff, reduceCtorEq, Nat.reduceAdd, Nat.reduceLeDiff, h0, h1, h7, h8, lt_false, idx_none hp]
  · simp +contextual (maxSteps := 2000000) only [go_sem, Nat.reduceEqDiff, reduceCtorEq, Nat.reduceAdd, Nat.reduceLeDiff]
    (repeat' (first | refine And.intro ?_ ?_ | intro _)) <;> first | rfl | exact Pre.zero
/-! slices.ContainsFunc(()impl.Problem,impl.Problem) -/
def L111_0 : List AStep := [⟨.mov (.c (.bool false)), (some 4), none, []⟩]
theorem v111_0 : VS L111_0.eq_1 := rfl
def L111_1 : List AStep := [⟨.mov (.t 8), (some 4), none, []⟩]
theorem v111_1 : VS L111_1.eq_1 := rfl
def L111_2 : List AStep := ⟨.call 133 [(.t 5), (.t 6)], (some 7), none, []⟩ :: ⟨.bin .geq (.t 7) (.c (.int .i64 0)), (some 8), none, []⟩ :: L111_1
theorem v111_2 : VS L111_2.eq_1 := rfl
def L111_3 : List AStep := ⟨.mov (.t 0), (some 5), none, []⟩ :: ⟨.mov (.t 1), (some 6), none, []⟩ :: L111_2
theorem v111_3 : VS L111_3.eq_1 := rfl
def C111_0 : ACode := .seq (.reg L111_3) .ret
theorem u111_0 : VC C111_0.eq_1 := rfl
def C111_1 : ACode := .seq (.reg L111_0) C111_0
theorem u111_1 : VC C111_1.eq_1 := rfl
def F111 : AFunc := ⟨9, [.tmp 4], C111_1⟩
theorem cF111 : compB Try.prog 111 = some F111 := by kernel_rfl
attribute [local go_sem ↓] u111_0 u111_1 v111_0 v111_1 v111_2 v111_3
theorem c_hasB (l : List Problem) (v : AV) (f : Nat) (caps : List (Nat × Nat)) (p : Problem → Bool) (h : H) (hl : SlB h v l) (hn : l.length ≤ big) (hf : ∀ i (hi : i < l.length), ∀ x, x = l[i] → bm Try.prog f (.agg (encB x) :: caps.map fun a => .one (.ptr (some a))) h = some (ib (p x), h)) :
    bm Try.prog 111 [v, .one (.fn f caps)] h = some (ib (l.any p), h) := by
  refine bm_eq cF111 ?_
  have e := idx_any (p := p) (l := l)
  simp +contextual (maxSteps := 2000000) only [go_sem, Nat.reduceEqDiff, reduceCtorEq, Nat.reduceAdd, Nat.reduceLeDiff, F111, c_indexB l v f caps p h hl hn hf, e]
/-! impl.pairAt$1 -/
def L130_0 : List AStep := [⟨.box 109 (.t 0), (some 2), none, []⟩, ⟨.mov (.c (.bool false)), (some 3), none, []⟩]
theorem v130_0 : VS L130_0.eq_1 := rfl
def L130_1 : List AStep := [⟨.mov (.t 7), (some 3), none, []⟩]
theorem v130_1 : VS L130_1.eq_1 := rfl
def L130_2 : List AStep := ⟨.load 1 false (.t 1), (some 6), none, []⟩ :: ⟨.bin .eql (.t 5) (.t 6), (some 7), none, []⟩ :: L130_1
theorem v130_2 : VS L130_2.eq_1 := rfl
def L130_3 : List AStep := ⟨.faddr 0 (.t 2), (some 4), none, []⟩ :: ⟨.load 1 false (.t 4), (some 5), none, []⟩ :: L130_2
theorem v130_3 : VS L130_3.eq_1 := rfl
def C130_0 : ACode := .seq (.reg L130_3) .ret
theorem u130_0 : VC C130_0.eq_1 := rfl
def C130_1 : ACode := .seq (.reg L130_0) C130_0
theorem u130_1 : VC C130_1.eq_1 := rfl
def F130 : AFunc := ⟨8, [.tmp 3], C130_1⟩
theorem cF130 : compB Try.prog 130 = some F130 := by kernel_rfl
attribute [local go_sem ↓] u130_0 u130_1 v130_0 v130_1 v130_2 v130_3
theorem c_pairAt1 (p : Pair) (a : Nat × Nat) (s : ByteArray) (h : H) (ha : loadO 1 false h (.one (.ptr (some a))) = some (.one (.str s))) : bm Try.prog 130 [.agg (encP p), .one (.ptr (some a))] h = some (ib (decide (p.name = s)), h) := by
  refine bm_eq cF130 ?_
  simp +contextual (maxSteps := 2000000) only [go_sem, Nat.reduceEqDiff, reduceCtorEq, Nat.reduceAdd, Nat.reduceLeDiff, F130, ha]
/-! impl.pairAt -/
def L108_0 : List AStep := [⟨.box 9 (.t 1), (some 3), none, []⟩, ⟨.mov (.c (.int .i64 0)), (some 4), none, []⟩]
theorem v108_0 : VS L108_0.eq_1 := rfl
def L108_1 : List AStep := [⟨.call 129 [(.t 5), (.t 6)], (some 7), none, []⟩, ⟨.mov (.t 7), (some 4), none, []⟩]
theorem v108_1 : VS L108_1.eq_1 := rfl
def L108_2 : List AStep := ⟨.mov (.t 0), (some 5), none, []⟩ :: ⟨.mkfn 130 [(.t 3)], (some 6), none, []⟩ :: L108_1
theorem v108_2 : VS L108_2.eq_1 := rfl
def C108_0 : ACode := .seq (.reg L108_2) .ret
theorem u108_0 : VC C108_0.eq_1 := rfl
def C108_1 : ACode := .seq (.reg L108_0) C108_0
theorem u108_1 : VC C108_1.eq_1 := rfl
def F108 : AFunc := ⟨8, [.tmp 4], C108_1⟩
theorem cF108 : compB Try.prog 108 = some F108 := by kernel_rfl
attribute [local go_sem ↓] u108_0 u108_1 v108_0 v108_1 v108_2
theorem c_pairAtI (l : List Pair) (v : AV) (s : ByteArray) (h : H) (hl : SlP h v l) (hn : smP l) : bm Try.prog 108 [v, .one (.str s)] h = some (ii (pairAt l s), h) := by
  refine bm_eq cF108 ?_
  have e := c_indexP l v 130 [(h.n, 0)] (fun p => decide (p.name = s)) (h.alloc [.str s] 9) (hl.grow (Grow.alloc _ _ _)) hn.1 (fun i hi x hx => c_pairAt1 x (h.n, 0) s _ (Box.new.one rfl))
  simp +contextual (maxSteps := 2000000) only [go_sem, Nat.reduceEqDiff, reduceCtorEq, Nat.reduceAdd, Nat.reduceLeDiff, F108, e, pairAt]
/-! impl.find$1 -/
def L137_0 : List AStep := [⟨.box 81 (.t 0), (some 2), none, []⟩, ⟨.mov (.c (.bool false)), (some 3), none, []⟩]
theorem v137_0 : VS L137_0.eq_1 := rfl
def L137_1 : List AStep := [⟨.mov (.t 7), (some 3), none, []⟩]
theorem v137_1 : VS L137_1.eq_1 := rfl
def L137_2 : List AStep := ⟨.load 1 false (.t 1), (some 6), none, []⟩ :: ⟨.bin .eql (.t 5) (.t 6), (some 7), none, []⟩ :: L137_1
theorem v137_2 : VS L137_2.eq_1 := rfl
def L137_3 : List AStep := ⟨.faddr 0 (.t 2), (some 4), none, []⟩ :: ⟨.load 1 false (.t 4), (some 5), none, []⟩ :: L137_2
theorem v137_3 : VS L137_3.eq_1 := rfl
def C137_0 : ACode := .seq (.reg L137_3) .ret
theorem u137_0 : VC C137_0.eq_1 := rfl
def C137_1 : ACode := .seq (.reg L137_0) C137_0
theorem u137_1 : VC C137_1.eq_1 := rfl
def F137 : AFunc := ⟨8, [.tmp 3], C137_1⟩
theorem cF137 : compB Try.prog 137 = some F137 := by kernel_rfl
attribute [local go_sem ↓] u137_0 u137_1 v137_0 v137_1 v137_2 v137_3
theorem c_find1 (p : Param) (a : Nat × Nat) (s : ByteArray) (h : H) (ha : loadO 1 false h (.one (.ptr (some a))) = some (.one (.str s))) : bm Try.prog 137 [.agg (encQ p), .one (.ptr (some a))] h = some (ib (decide (p.name = s)), h) := by
  refine bm_eq cF137 ?_
  simp +contextual (maxSteps := 2000000) only [go_sem, Nat.reduceEqDiff, reduceCtorEq, Nat.reduceAdd, Nat.reduceLeDiff, F137, ha]
/-! impl.find -/
def L120_0 : List AStep := [⟨.box 9 (.t 1), (some 3), none, []⟩, ⟨.mov (.c (.int .i64 0)), (some 4), none, []⟩]
theorem v120_0 : VS L120_0.eq_1 := rfl
def L120_1 : List AStep := [⟨.call 135 [(.t 5), (.t 6)], (some 7), none, []⟩, ⟨.mov (.t 7), (some 4), none, []⟩]
theorem v120_1 : VS L120_1.eq_1 := rfl
def L120_2 : List AStep := ⟨.mov (.t 0), (some 5), none, []⟩ :: ⟨.mkfn 137 [(.t 3)], (some 6), none, []⟩ :: L120_1
theorem v120_2 : VS L120_2.eq_1 := rfl
def C120_0 : ACode := .seq (.reg L120_2) .ret
theorem u120_0 : VC C120_0.eq_1 := rfl
def C120_1 : ACode := .seq (.reg L120_0) C120_0
theorem u120_1 : VC C120_1.eq_1 := rfl
def F120 : AFunc := ⟨8, [.tmp 4], C120_1⟩
theorem cF120 : compB Try.prog 120 = some F120 := by kernel_rfl
attribute [local go_sem ↓] u120_0 u120_1 v120_0 v120_1 v120_2
theorem c_find (l : List Param) (v : AV) (s : ByteArray) (h : H) (hl : SlQ h v l) (hn : smQ l) : bm Try.prog 120 [v, .one (.str s)] h = some (ii (paramAt l s), h) := by
  refine bm_eq cF120 ?_
  have e := c_indexQ l v 137 [(h.n, 0)] (fun p => decide (p.name = s)) (h.alloc [.str s] 9) (hl.grow (Grow.alloc _ _ _)) hn.1 (fun i hi x hx => c_find1 x (h.n, 0) s _ (Box.new.one rfl))
  simp +contextual (maxSteps := 2000000) only [go_sem, Nat.reduceEqDiff, reduceCtorEq, Nat.reduceAdd, Nat.reduceLeDiff, F120, e, paramAt]
/-! (impl.Signature).takes$1 -/
def L136_0 : List AStep := [⟨.box 81 (.t 0), (some 1), none, []⟩, ⟨.mov (.c (.bool false)), (some 2), none, []⟩]
theorem v136_0 : VS L136_0.eq_1 := rfl
def L136_1 : List AStep := [⟨.bin .eql (.t 4) (.c (.int .i64 4)), (some 5), none, []⟩, ⟨.mov (.t 5), (some 2), none, []⟩]
theorem v136_1 : VS L136_1.eq_1 := rfl
def L136_2 : List AStep := ⟨.faddr 1 (.t 1), (some 3), none, []⟩ :: ⟨.load 1 false (.t 3), (some 4), none, []⟩ :: L136_1
theorem v136_2 : VS L136_2.eq_1 := rfl
def C136_0 : ACode := .seq (.reg L136_2) .ret
theorem u136_0 : VC C136_0.eq_1 := rfl
def C136_1 : ACode := .seq (.reg L136_0) C136_0
theorem u136_1 : VC C136_1.eq_1 := rfl
def F136 : AFunc := ⟨6, [.tmp 2], C136_1⟩
theorem cF136 : compB Try.prog 136 = some F136 := by kernel_rfl
attribute [local go_sem ↓] u136_0 u136_1 v136_0 v136_1 v136_2
theorem c_takes1 (p : Param) (h : H) : bm Try.prog 136 [.agg (encQ p)] h = some (ib (decide (p.kind = 4)), h) := by
  refine bm_eq cF136 ?_
  simp +contextual (maxSteps := 2000000) only [go_sem, Nat.reduceEqDiff, reduceCtorEq, Nat.reduceAdd, Nat.reduceLeDiff, F136]
/-! (impl.Signature).takes -/
def L114_0 : List AStep := [⟨.box 36 (.t 0), (some 2), none, []⟩, ⟨.mov (.c (.int .i64 0)), (some 4), none, []⟩]
theorem v114_0 : VS L114_0.eq_1 := rfl
def L114_1 : List AStep := [⟨.mov (.t 9), (some 5), none, []⟩]
theorem v114_1 : VS L114_1.eq_1 := rfl
def L114_2 : List AStep := ⟨.mov (.t 1), (some 8), none, []⟩ :: ⟨.call 120 [(.t 7), (.t 8)], (some 9), none, []⟩ :: L114_1
theorem v114_2 : VS L114_2.eq_1 := rfl
def L114_3 : List AStep := ⟨.faddr 0 (.t 2), (some 6), none, []⟩ :: ⟨.load 1 false (.t 6), (some 7), none, []⟩ :: L114_2
theorem v114_3 : VS L114_3.eq_1 := rfl
def L114_4 : List AStep := [⟨.call 134 [(.t 17)], (some 18), (some (12, true)), []⟩, ⟨.pick (.t 12) (.t 18) (.c (.bool false)), (some 19), none, []⟩]
theorem v114_4 : VS L114_4.eq_1 := rfl
def L114_5 : List AStep := ⟨.iaddr 4 (.t 14) (.t 15), (some 16), (some (12, true)), []⟩ :: ⟨.load 4 true (.t 16), (some 17), (some (12, true)), []⟩ :: L114_4
theorem v114_5 : VS L114_5.eq_1 := rfl
def L114_6 : List AStep := ⟨.load 1 false (.t 13), (some 14), (some (12, true)), []⟩ :: ⟨.mov (.t 5), (some 15), (some (12, true)), []⟩ :: L114_5
theorem v114_6 : VS L114_6.eq_1 := rfl
def L114_7 : List AStep := ⟨.mov (.t 11), (some 12), none, []⟩ :: ⟨.faddr 0 (.t 2), (some 13), (some (12, true)), []⟩ :: L114_6
theorem v114_7 : VS L114_7.eq_1 := rfl
def L114_8 : List AStep := ⟨.mov (.t 5), (some 10), none, []⟩ :: ⟨.bin .geq (.t 10) (.c (.int .i64 0)), (some 11), none, []⟩ :: L114_7
theorem v114_8 : VS L114_8.eq_1 := rfl
def L114_9 : List AStep := [⟨.mov (.t 5), (some 20), none, []⟩, ⟨.mov (.t 20), (some 4), none, []⟩]
theorem v114_9 : VS L114_9.eq_1 := rfl
def L114_10 : List AStep := [⟨.call 135 [(.t 22), (.c (.fn 136 []))], (some 23), none, []⟩, ⟨.mov (.t 23), (some 4), none, []⟩]
theorem v114_10 : VS L114_10.eq_1 := rfl
def L114_11 : List AStep := ⟨.faddr 0 (.t 2), (some 21), none, []⟩ :: ⟨.load 1 false (.t 21), (some 22), none, []⟩ :: L114_10
theorem v114_11 : VS L114_11.eq_1 := rfl
def C114_0 : ACode := .seq (.reg L114_9) .ret
theorem u114_0 : VC C114_0.eq_1 := rfl
def C114_1 : ACode := .cond (.t 19) C114_0 .skip
theorem u114_1 : VC C114_1.eq_1 := rfl
def C114_2 : ACode := .seq (.reg L114_8) C114_1
theorem u114_2 : VC C114_2.eq_1 := rfl
def C114_3 : ACode := .seq (.reg L114_3) C114_2
theorem u114_3 : VC C114_3.eq_1 := rfl
def C114_4 : ACode := .seq (.reg L114_11) .ret
theorem u114_4 : VC C114_4.eq_1 := rfl
def C114_5 : ACode := .seq C114_3 C114_4
theorem u114_5 : VC C114_5.eq_1 := rfl
def C114_6 : ACode := .seq (.reg L114_0) C114_5
theorem u114_6 : VC C114_6.eq_1 := rfl
def F114 : AFunc := ⟨24, [.tmp 4], C114_6⟩
theorem cF114 : compB Try.prog 114 = some F114 := by kernel_rfl
attribute [local go_sem ↓] u114_0 u114_1 u114_2 u114_3 u114_4 u114_5 u114_6 v114_0 v114_1 v114_2 v114_3 v114_4 v114_5 v114_6 v114_7 v114_8 v114_9 v114_10 v114_11
theorem c_takes (l : List Param) (pv : CV) (s : ByteArray) (h : H) (hl : SlQ h (.one pv) l) (hn : smQ l) : bm Try.prog 114 [.agg [pv], .one (.str s)] h = some (ii (takes l s), h) := by
  refine bm_eq cF114 ?_
  have e2 := c_indexQ l (.one pv) 136 [] (fun p => decide (p.kind = 4)) h hl hn.1 (fun i hi x hx => c_takes1 x h)
  rw [show idx (fun p : Param => decide (p.kind = 4)) l = kindAt l 4 from rfl] at e2
  rcases idx_cases (fun p : Param => decide (p.name = s)) l with e | ⟨j, hj, e, _⟩ <;> (replace e := (show paramAt l s = _ from e))
  · simp +contextual (maxSteps := 2000000) only [go_sem, Nat.reduceEqDiff, reduceCtorEq, Nat.reduceAdd, Nat.reduceLeDiff, F114, c_find _ _ _ _ hl hn, e, e2, takes_none e]
  · simp +contextual (maxSteps := 2000000) only [go_sem, Nat.reduceEqDiff, reduceCtorEq, Nat.reduceAdd, Nat.reduceLeDiff, F114, c_find _ _ _ _ hl hn, e, e2, takes_some hj e, hl.iaddr hj, hl.whole hj, c_named]
/-! impl.areValues$1 -/
def L132_0 : List AStep := [⟨.mov (.c (.bool false)), (some 2), none, []⟩]
theorem v132_0 : VS L132_0.eq_1 := rfl
def L132_1 : List AStep := [⟨.not (.t 4), (some 5), none, []⟩, ⟨.mov (.t 5), (some 2), none, []⟩]
theorem v132_1 : VS L132_1.eq_1 := rfl
def L132_2 : List AStep := ⟨.mov (.t 0), (some 3), none, []⟩ :: ⟨.call 119 [(.t 3)], (some 4), none, []⟩ :: L132_1
theorem v132_2 : VS L132_2.eq_1 := rfl
def C132_0 : ACode := .seq (.reg L132_2) .ret
theorem u132_0 : VC C132_0.eq_1 := rfl
def C132_1 : ACode := .seq (.reg L132_0) C132_0
theorem u132_1 : VC C132_1.eq_1 := rfl
def F132 : AFunc := ⟨6, [.tmp 2], C132_1⟩
theorem cF132 : compB Try.prog 132 = some F132 := by kernel_rfl
attribute [local go_sem ↓] u132_0 u132_1 v132_0 v132_1 v132_2
theorem c_areValues1 (n : Int) (h : H) : bm Try.prog 132 [.one (.int .i64 n)] h = some (ib (!(okNum n)), h) := by
  refine bm_eq cF132 ?_
  simp +contextual (maxSteps := 2000000) only [go_sem, Nat.reduceEqDiff, reduceCtorEq, Nat.reduceAdd, Nat.reduceLeDiff, F132, c_isValue]
/-! impl.areValues -/
def L109_0 : List AStep := [⟨.mov (.c (.bool false)), (some 2), none, []⟩]
theorem v109_0 : VS L109_0.eq_1 := rfl
def L109_1 : List AStep := [⟨.not (.t 4), (some 5), none, []⟩, ⟨.mov (.t 5), (some 2), none, []⟩]
theorem v109_1 : VS L109_1.eq_1 := rfl
def L109_2 : List AStep := ⟨.mov (.t 0), (some 3), none, []⟩ :: ⟨.call 131 [(.t 3), (.c (.fn 132 []))], (some 4), none, []⟩ :: L109_1
theorem v109_2 : VS L109_2.eq_1 := rfl
def C109_0 : ACode := .seq (.reg L109_2) .ret
theorem u109_0 : VC C109_0.eq_1 := rfl
def C109_1 : ACode := .seq (.reg L109_0) C109_0
theorem u109_1 : VC C109_1.eq_1 := rfl
def F109 : AFunc := ⟨6, [.tmp 2], C109_1⟩
theorem cF109 : compB Try.prog 109 = some F109 := by kernel_rfl
attribute [local go_sem ↓] u109_0 u109_1 v109_0 v109_1 v109_2
theorem c_areValues (l : List Int) (v : AV) (h : H) (hl : SlI h v l) (hn : l.length ≤ big) : bm Try.prog 109 [v] h = some (ib (l.all okNum), h) := by
  refine bm_eq cF109 ?_
  have e := c_hasI l v 132 [] (fun n => !(okNum n)) h hl hn (fun i hi x hx => c_areValues1 x h)
  simp +contextual (maxSteps := 2000000) only [go_sem, Nat.reduceEqDiff, reduceCtorEq, Nat.reduceAdd, Nat.reduceLeDiff, F109, e]
  simp [List.not_any_eq_all_not]
/-! impl.ValidFlat -/
def L76_0 : List AStep := [⟨.box 39 (.t 0), (some 1), none, []⟩, ⟨.mov (.c (.bool false)), (some 2), none, []⟩]
theorem v76_0 : VS L76_0.eq_1 := rfl
def L76_1 : List AStep := [⟨.len (.t 6), (some 7), none, []⟩, ⟨.mov (.c (.int .i64 0)), (some 8), none, []⟩]
theorem v76_1 : VS L76_1.eq_1 := rfl
def L76_2 : List AStep := ⟨.faddr 1 (.t 1), (some 5), none, []⟩ :: ⟨.load 1 false (.t 5), (some 6), none, []⟩ :: L76_1
theorem v76_2 : VS L76_2.eq_1 := rfl
def L76_3 : List AStep := [⟨.bin .lss (.t 8) (.t 7), (some 9), none, []⟩]
theorem v76_3 : VS L76_3.eq_1 := rfl
def L76_4 : List AStep := [⟨.mov (.t 10), (some 3), none, []⟩, ⟨.store 2 (.t 4) (.t 12), none, none, []⟩]
theorem v76_4 : VS L76_4.eq_1 := rfl
def L76_5 : List AStep := ⟨.load 2 true (.t 11), (some 12), none, []⟩ :: ⟨.alloc 109 [(.str (strOfNums [])), (.int .i64 0)], (some 4), none, []⟩ :: L76_4
theorem v76_5 : VS L76_5.eq_1 := rfl
def L76_6 : List AStep := ⟨.mov (.t 8), (some 10), none, []⟩ :: ⟨.iaddr 2 (.t 6) (.t 8), (some 11), none, []⟩ :: L76_5
theorem v76_6 : VS L76_6.eq_1 := rfl
def L76_7 : List AStep := [⟨.pick (.t 16) (.c (.bool true)) (.t 24), (some 25), none, []⟩]
theorem v76_7 : VS L76_7.eq_1 := rfl
def L76_8 : List AStep := ⟨.call 108 [(.t 20), (.t 22)], (some 23), (some (16, false)), []⟩ :: ⟨.bin .geq (.t 23) (.c (.int .i64 0)), (some 24), (some (16, false)), []⟩ :: L76_7
theorem v76_8 : VS L76_8.eq_1 := rfl
def L76_9 : List AStep := ⟨.faddr 0 (.t 4), (some 21), (some (16, false)), []⟩ :: ⟨.load 1 false (.t 21), (some 22), (some (16, false)), []⟩ :: L76_8
theorem v76_9 : VS L76_9.eq_1 := rfl
def L76_10 : List AStep := ⟨.mov (.t 3), (some 19), (some (16, false)), []⟩ :: ⟨.slice 109 2 (.t 18) none (some (.t 19)) none, (some 20), (some (16, false)), []⟩ :: L76_9
theorem v76_10 : VS L76_10.eq_1 := rfl
def L76_11 : List AStep := ⟨.faddr 1 (.t 1), (some 17), (some (16, false)), []⟩ :: ⟨.load 1 false (.t 17), (some 18), (some (16, false)), []⟩ :: L76_10
theorem v76_11 : VS L76_11.eq_1 := rfl
def L76_12 : List AStep := ⟨.not (.t 14), (some 15), none, []⟩ :: ⟨.mov (.t 15), (some 16), none, []⟩ :: L76_11
theorem v76_12 : VS L76_12.eq_1 := rfl
def L76_13 : List AStep := ⟨.load 2 true (.t 4), (some 13), none, []⟩ :: ⟨.call 107 [(.t 13)], (some 14), none, []⟩ :: L76_12
theorem v76_13 : VS L76_13.eq_1 := rfl
def L76_14 : List AStep := [⟨.mov (.c (.bool false)), (some 2), none, []⟩]
theorem v76_14 : VS L76_14.eq_1 := rfl
def L76_15 : List AStep := [⟨.bin .add (.t 8) (.c (.int .i64 1)), (some 26), none, []⟩, ⟨.mov (.t 26), (some 8), none, []⟩]
theorem v76_15 : VS L76_15.eq_1 := rfl
def L76_16 : List AStep := [⟨.pick (.t 37) (.t 40) (.c (.bool false)), (some 41), none, []⟩, ⟨.mov (.t 41), (some 2), none, []⟩]
theorem v76_16 : VS L76_16.eq_1 := rfl
def L76_17 : List AStep := ⟨.load 1 false (.t 38), (some 39), (some (37, true)), []⟩ :: ⟨.call 109 [(.t 39)], (some 40), (some (37, true)), []⟩ :: L76_16
theorem v76_17 : VS L76_17.eq_1 := rfl
def L76_18 : List AStep := ⟨.mov (.t 36), (some 37), none, []⟩ :: ⟨.faddr 0 (.t 1), (some 38), (some (37, true)), []⟩ :: L76_17
theorem v76_18 : VS L76_18.eq_1 := rfl
def L76_19 : List AStep := ⟨.bin .leq (.t 34) (.c (.int .i64 8)), (some 35), (some (31, true)), []⟩ :: ⟨.pick (.t 31) (.t 35) (.c (.bool false)), (some 36), none, []⟩ :: L76_18
theorem v76_19 : VS L76_19.eq_1 := rfl
def L76_20 : List AStep := ⟨.load 1 false (.t 32), (some 33), (some (31, true)), []⟩ :: ⟨.len (.t 33), (some 34), (some (31, true)), []⟩ :: L76_19
theorem v76_20 : VS L76_20.eq_1 := rfl
def L76_21 : List AStep := ⟨.mov (.t 30), (some 31), none, []⟩ :: ⟨.faddr 1 (.t 1), (some 32), (some (31, true)), []⟩ :: L76_20
theorem v76_21 : VS L76_21.eq_1 := rfl
def L76_22 : List AStep := ⟨.len (.t 28), (some 29), none, []⟩ :: ⟨.bin .leq (.t 29) (.c (.int .i64 8)), (some 30), none, []⟩ :: L76_21
theorem v76_22 : VS L76_22.eq_1 := rfl
def L76_23 : List AStep := ⟨.faddr 0 (.t 1), (some 27), none, []⟩ :: ⟨.load 1 false (.t 27), (some 28), none, []⟩ :: L76_22
theorem v76_23 : VS L76_23.eq_1 := rfl
def C76_0 : ACode := .cond (.t 9) .skip (.exit 0)
theorem u76_0 : VC C76_0.eq_1 := rfl
def C76_1 : ACode := .seq (.reg L76_14) .ret
theorem u76_1 : VC C76_1.eq_1 := rfl
def C76_2 : ACode := .cond (.t 25) C76_1 .skip
theorem u76_2 : VC C76_2.eq_1 := rfl
def C76_3 : ACode := .seq (.reg L76_13) C76_2
theorem u76_3 : VC C76_3.eq_1 := rfl
def C76_4 : ACode := .seq (.reg L76_6) C76_3
theorem u76_4 : VC C76_4.eq_1 := rfl
def C76_5 : ACode := .block 1 C76_4
theorem u76_5 : VC C76_5.eq_1 := rfl
def C76_6 : ACode := .seq C76_5 (.reg L76_15)
theorem u76_6 : VC C76_6.eq_1 := rfl
def C76_7 : ACode := .seq C76_0 C76_6
theorem u76_7 : VC C76_7.eq_1 := rfl
def C76_8 : ACode := .seq (.reg L76_3) C76_7
theorem u76_8 : VC C76_8.eq_1 := rfl
def C76_9 : ACode := .block 0 (.loop C76_8)
theorem u76_9 : VC C76_9.eq_1 := rfl
def C76_10 : ACode := .seq (.reg L76_2) C76_9
theorem u76_10 : VC C76_10.eq_1 := rfl
def C76_11 : ACode := .seq (.reg L76_23) .ret
theorem u76_11 : VC C76_11.eq_1 := rfl
def C76_12 : ACode := .seq C76_10 C76_11
theorem u76_12 : VC C76_12.eq_1 := rfl
def C76_13 : ACode := .seq (.reg L76_0) C76_12
theorem u76_13 : VC C76_13.eq_1 := rfl
def F76 : AFunc := ⟨42, [.tmp 2], C76_13⟩
theorem cF76 : compB Try.prog 76 = some F76 := by kernel_rfl
attribute [local go_sem ↓] u76_0 u76_1 u76_2 u76_3 u76_4 u76_5 u76_6 u76_7 u76_8 u76_9 u76_10 u76_11 u76_12 u76_13 v76_0 v76_1 v76_2 v76_3 v76_4 v76_5 v76_6 v76_7 v76_8 v76_9 v76_10 v76_11 v76_12 v76_13 v76_14 v76_15 v76_16 v76_17 v76_18 v76_19 v76_20 v76_21 v76_22 v76_23
theorem c_ValidFlat (f : Flat) (pv nv : CV) (h : H) (hp : SlI h (.one pv) f.pl) (hq : SlP h (.one nv) f.nl) (hn : smF f) : bm Try.prog 76 [.agg [pv, nv]] h = some (ib (okFlat f), h) := by
  refine bm_eq cF76 ?_
  simp +contextual (maxSteps := 2000000) only [go_sem, Nat.reduceEqDiff, reduceCtorEq, Nat.reduceAdd, Nat.reduceLeDiff, F76, hq.len]
  refine wpC_loop (fun i T L h' => h' = h ∧ T 1 = .lp 1 0 ∧ (L 1).2 = [pv, nv] ∧ T 6 = .v (.one nv) ∧ T 7 = .v (.one (.int .i64 f.nl.length)) ∧ T 8 = .v (.one (.int .i64 i)) ∧ Upto (newAt Pair.name f.nl) i ∧ Pre okPair true f.nl i) f.nl.length ?_ ?_ (Nat.zero_le _) ?_
  · rintro i T L h' hi ⟨rfl, t1, l1, t6, t7, t8, hu, hpre⟩
    obtain ⟨v', e1, s1⟩ := hq.takeO (i := i) (by omega) (kd := .i64)
    have e2 : decide (pairAt (f.nl.take i) f.nl[i].name ≥ 0) = !(newAt Pair.name f.nl i) := newAt_ge hi
    simp +contextual (maxSteps := 2000000) only [go_sem, Nat.reduceEqDiff, reduceCtorEq, Nat.reduceAdd, Nat.reduceLeDiff, e2, t1, l1, t6, t7, t8, hq.iaddr hi, hq.whole hi, lt_true hi, e1, c_okPair _ _ (hn.nl.at hi), c_pairAtI _ _ _ _ s1 (hn.nl.take i)]
    (repeat' (first | refine And.intro ?_ ?_ | intro _)) <;> first | rfl | rw [wrap_next hi hn.nl.len] | (refine hu.next ?_; simp_all; done) | (refine hpre.next hi ?_; simp_all; done) | (rw [okFlat, apart_not hi] <;> first | rfl | (simp_all; done)) | (rw [okFlat, all_stop (p := okPair) hi] <;> first | (simp; done) | (simp_all; done))
  · rintro T L h' ⟨rfl, t1, l1, t6, t7, t8, hu, hpre⟩
    simp +contextual (maxSteps := 2000000) only [go_sem, Nat.reduceEqDiff, reduceCtorEq, Nat.reduceAdd, Nat.reduceLeDiff, t1, l1, t6, t7, t8, hq.len, hp.len, lt_false, c_areValues _ _ _ hp hn.pl, okFlat, apart_of hu, hpre.all]
    (repeat' (first | refine And.intro ?_ ?_ | intro _)) <;> first | rfl | simp_all
  · simp +contextual (maxSteps := 2000000) only [go_sem, Nat.reduceEqDiff, reduceCtorEq, Nat.reduceAdd, Nat.reduceLeDiff]
    (repeat' (first | refine And.intro ?_ ?_ | intro _)) <;> first | rfl | exact Upto.zero | exact Pre.zero
end Go.Proofs.Ytdalgphpacikkab.Am
