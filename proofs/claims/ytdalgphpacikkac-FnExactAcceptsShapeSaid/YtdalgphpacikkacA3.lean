/- Contracts of the program: numbers, names, pairs, flat calls and signatures that are valid. -/
import Derived.Test.YtdalgphpacikkacDat
namespace Go.Proofs.Ytdalgphpacikkac.Am
open Go
set_option maxRecDepth 100000
set_option maxHeartbeats 4000000
set_option linter.unusedSimpArgs false
set_option linter.unusedVariables false
attribute [local go_sem ↓] bv_t bv_c ev_t ev_c put_same put_ne put_none kill_at pro_at lb_same lb_ne start_zero start_succ wpC_seq wpC_reg wpC_cond wpC_block wpC_skip wpC_exit wpC_ret thenQ_normal thenQ_exit thenQ_ret inBlk_normal inBlk_exit inBlk_ret wpS_nil wpS_step wpS_again wpS_guard wpO_mov wpO_load wpO_faddr wpO_nilCheck wpO_pick wpO_build wpO_bin wpO_eqb wpO_eqst wpO_eqnil wpO_not wpO_conv wpO_bytesStr wpO_iaddr wpO_idxStr wpO_field wpO_extract wpO_len wpO_lenStr wpO_cap wpO_min wpO_slice wpO_sliceStr wpO_alloc wpO_box wpO_store wpO_call wpO_callv wpO_mkfn wpO_buildSlice wpO_mkslice wpO_append wpO_appz proA_nil proA_cons tmpX_nil tmpX_tmp tmpX_cell doneB_normal doneB_ret agK_cons agK_nil agK_guard agG_tt agG_ff agG_tf agG_ft agG_undef pureB_load results_one results_two results_nil resBs_cons resBs_nil resB_tmp resB_cell
attribute [local go_sem] kill_v kill_lp_ne kill_lp_same pro_v pro_lp_same pro_lp_ne av_v av_lp optB_some optX_some valX_eq ldX_lp ldX_v faX_lp faX_v ncX_lp ncX_ptr ncX_fn boxK_one boxK_agg stL_some stK_lp_one stK_lp_agg stK_v_one stK_v_agg proM_v proM_lp callG_mk callVG_mk callvK_fn fnG_mk ptrsA_nil ptrsA_cons callH_some whenA_true whenA_false guardH_tt guardH_ff guardH_tf guardH_ft guardH_undef agV_one agV_agg lenO_sl lenStrO_str notO_bool pickO_bool convO_int eqbO_bool eqnilO_sl extractO_tup capO_sl minO_int loadL_one loadL_all storeL_eq fillA_nil fillA_one fillA_agg nat_ge neg_ge nat_lt neg_lt buildO bin_add bin_sub bin_mul bin_eql bin_neq bin_lss bin_leq bin_gtr bin_geq str_eql str_neq str_lss str_leq str_gtr str_geq retK_some endK_mk gcK_same gcK_int gcK_bool tupO_one tupO_agg rdy_self ib ii Option.map_none Option.map_some Option.some.injEq exists_eq_left' exists_eq_left ne_eq not_false_eq_true if_true if_false List.map_cons List.map_nil List.getElem?_cons_zero List.getElem?_cons_succ List.length_cons List.length_nil List.take_succ_cons List.take_zero List.take_nil List.drop_succ_cons List.drop_zero List.drop_nil List.cons_append List.nil_append List.append_nil List.set_cons_zero List.set_cons_succ Nat.zero_add forall_const true_and and_true and_self Bool.false_eq_true false_implies true_implies implies_true Bool.not_true Bool.not_false Bool.not_eq_true' Bool.not_eq_false' beq_self_eq_true Bool.bne_true Bool.bne_false
attribute [local go_sem] lenI lenS lenP lenQ lenB lenL lenT encI_0 encS_0 encP_0 encP_1 encQ_0 encQ_1 encQ_2 encQ_3 encB_0 encB_1 encL_0 encL_1 encT_0 encT_1
attribute [local go_sem low] whenA_bool guardH_bool
/-! impl.in -/
def L119_0 : List AStep := [⟨.mov (.c (.bool false)), (some 6), none, []⟩]
theorem v119_0 : VS L119_0.eq_1 := rfl
def L119_1 : List AStep := [⟨.mov (.t 14), (some 6), none, []⟩]
theorem v119_1 : VS L119_1.eq_1 := rfl
def L119_2 : List AStep := ⟨.bin .leq (.t 11) (.t 12), (some 13), (some (10, true)), []⟩ :: ⟨.pick (.t 10) (.t 13) (.c (.bool false)), (some 14), none, []⟩ :: L119_1
theorem v119_2 : VS L119_2.eq_1 := rfl
def L119_3 : List AStep := ⟨.mov (.t 0), (some 11), (some (10, true)), []⟩ :: ⟨.mov (.t 2), (some 12), (some (10, true)), []⟩ :: L119_2
theorem v119_3 : VS L119_3.eq_1 := rfl
def L119_4 : List AStep := ⟨.bin .geq (.t 7) (.t 8), (some 9), none, []⟩ :: ⟨.mov (.t 9), (some 10), none, []⟩ :: L119_3
theorem v119_4 : VS L119_4.eq_1 := rfl
def L119_5 : List AStep := ⟨.mov (.t 0), (some 7), none, []⟩ :: ⟨.mov (.t 1), (some 8), none, []⟩ :: L119_4
theorem v119_5 : VS L119_5.eq_1 := rfl
def C119_0 : ACode := .seq (.reg L119_5) .ret
theorem u119_0 : VC C119_0.eq_1 := rfl
def C119_1 : ACode := .seq (.reg L119_0) C119_0
theorem u119_1 : VC C119_1.eq_1 := rfl
def F119 : AFunc := ⟨15, [.tmp 6], C119_1⟩
theorem cF119 : compB Try.prog 119 = some F119 := by kernel_rfl
attribute [local go_sem ↓] u119_0 u119_1 v119_0 v119_1 v119_2 v119_3 v119_4 v119_5
theorem c_in (n lo hi : Int) (h : H) : bm Try.prog 119 [.one (.int .i64 n), .one (.int .i64 lo), .one (.int .i64 hi)] h = some (ib (decide (lo ≤ n) && decide (n ≤ hi)), h) := by
  refine bm_eq cF119 ?_
  simp +contextual (maxSteps := 2000000) only [go_sem, Nat.reduceEqDiff, reduceCtorEq, Nat.reduceAdd, Nat.reduceLeDiff, F119]
  (repeat' (first | refine And.intro ?_ ?_ | intro _)) <;> first | simp_all
/-! impl.isValue -/
def L128_0 : List AStep := [⟨.mov (.c (.bool false)), (some 2), none, []⟩]
theorem v128_0 : VS L128_0.eq_1 := rfl
def L128_1 : List AStep := [⟨.mov (.t 4), (some 2), none, []⟩]
theorem v128_1 : VS L128_1.eq_1 := rfl
def L128_2 : List AStep := ⟨.mov (.t 0), (some 3), none, []⟩ :: ⟨.call 119 [(.t 3), (.c (.int .i64 (-99))), (.c (.int .i64 99))], (some 4), none, []⟩ :: L128_1
theorem v128_2 : VS L128_2.eq_1 := rfl
def C128_0 : ACode := .seq (.reg L128_2) .ret
theorem u128_0 : VC C128_0.eq_1 := rfl
def C128_1 : ACode := .seq (.reg L128_0) C128_0
theorem u128_1 : VC C128_1.eq_1 := rfl
def F128 : AFunc := ⟨5, [.tmp 2], C128_1⟩
theorem cF128 : compB Try.prog 128 = some F128 := by kernel_rfl
attribute [local go_sem ↓] u128_0 u128_1 v128_0 v128_1 v128_2
theorem c_isValue (n : Int) (h : H) : bm Try.prog 128 [.one (.int .i64 n)] h = some (ib (okNum n), h) := by
  refine bm_eq cF128 ?_
  simp +contextual (maxSteps := 2000000) only [go_sem, Nat.reduceEqDiff, reduceCtorEq, Nat.reduceAdd, Nat.reduceLeDiff, F128, c_in, okNum]
/-! impl.isName -/
def L118_0 : List AStep := [⟨.mov (.c (.bool false)), (some 2), none, []⟩]
theorem v118_0 : VS L118_0.eq_1 := rfl
def L118_1 : List AStep := [⟨.mov (.c (.int .i64 0)), (some 3), none, []⟩]
theorem v118_1 : VS L118_1.eq_1 := rfl
def L118_2 : List AStep := [⟨.lenStr (.t 5), (some 6), none, []⟩, ⟨.bin .lss (.t 4) (.t 6), (some 7), none, []⟩]
theorem v118_2 : VS L118_2.eq_1 := rfl
def L118_3 : List AStep := ⟨.mov (.t 3), (some 4), none, []⟩ :: ⟨.mov (.t 0), (some 5), none, []⟩ :: L118_2
theorem v118_3 : VS L118_3.eq_1 := rfl
def L118_4 : List AStep := [⟨.bin .gtr (.t 17) (.c (.int .u8 122)), (some 18), (some (14, false)), []⟩, ⟨.pick (.t 14) (.c (.bool true)) (.t 18), (some 19), none, []⟩]
theorem v118_4 : VS L118_4.eq_1 := rfl
def L118_5 : List AStep := ⟨.mov (.t 3), (some 16), (some (14, false)), []⟩ :: ⟨.idxStr (.t 15) (.t 16), (some 17), (some (14, false)), []⟩ :: L118_4
theorem v118_5 : VS L118_5.eq_1 := rfl
def L118_6 : List AStep := ⟨.mov (.t 13), (some 14), none, []⟩ :: ⟨.mov (.t 0), (some 15), (some (14, false)), []⟩ :: L118_5
theorem v118_6 : VS L118_6.eq_1 := rfl
def L118_7 : List AStep := ⟨.idxStr (.t 10) (.t 11), (some 12), none, []⟩ :: ⟨.bin .lss (.t 12) (.c (.int .u8 97)), (some 13), none, []⟩ :: L118_6
theorem v118_7 : VS L118_7.eq_1 := rfl
def L118_8 : List AStep := ⟨.mov (.t 0), (some 10), none, []⟩ :: ⟨.mov (.t 3), (some 11), none, []⟩ :: L118_7
theorem v118_8 : VS L118_8.eq_1 := rfl
def L118_9 : List AStep := [⟨.mov (.c (.bool false)), (some 2), none, []⟩]
theorem v118_9 : VS L118_9.eq_1 := rfl
def L118_10 : List AStep := [⟨.mov (.t 9), (some 3), none, []⟩]
theorem v118_10 : VS L118_10.eq_1 := rfl
def L118_11 : List AStep := ⟨.mov (.t 3), (some 8), none, []⟩ :: ⟨.bin .add (.t 8) (.c (.int .i64 1)), (some 9), none, []⟩ :: L118_10
theorem v118_11 : VS L118_11.eq_1 := rfl
def L118_12 : List AStep := [⟨.call 119 [(.t 21), (.c (.int .i64 1)), (.c (.int .i64 6))], (some 22), none, []⟩, ⟨.mov (.t 22), (some 2), none, []⟩]
theorem v118_12 : VS L118_12.eq_1 := rfl
def L118_13 : List AStep := ⟨.mov (.t 0), (some 20), none, []⟩ :: ⟨.lenStr (.t 20), (some 21), none, []⟩ :: L118_12
theorem v118_13 : VS L118_13.eq_1 := rfl
def C118_0 : ACode := .cond (.t 7) .skip (.exit 0)
theorem u118_0 : VC C118_0.eq_1 := rfl
def C118_1 : ACode := .seq (.reg L118_3) C118_0
theorem u118_1 : VC C118_1.eq_1 := rfl
def C118_2 : ACode := .seq (.reg L118_9) .ret
theorem u118_2 : VC C118_2.eq_1 := rfl
def C118_3 : ACode := .cond (.t 19) C118_2 .skip
theorem u118_3 : VC C118_3.eq_1 := rfl
def C118_4 : ACode := .seq (.reg L118_8) C118_3
theorem u118_4 : VC C118_4.eq_1 := rfl
def C118_5 : ACode := .block 1 C118_4
theorem u118_5 : VC C118_5.eq_1 := rfl
def C118_6 : ACode := .seq C118_5 (.reg L118_11)
theorem u118_6 : VC C118_6.eq_1 := rfl
def C118_7 : ACode := .seq C118_1 C118_6
theorem u118_7 : VC C118_7.eq_1 := rfl
def C118_8 : ACode := .block 0 (.loop C118_7)
theorem u118_8 : VC C118_8.eq_1 := rfl
def C118_9 : ACode := .seq (.reg L118_1) C118_8
theorem u118_9 : VC C118_9.eq_1 := rfl
def C118_10 : ACode := .seq (.reg L118_13) .ret
theorem u118_10 : VC C118_10.eq_1 := rfl
def C118_11 : ACode := .seq C118_9 C118_10
theorem u118_11 : VC C118_11.eq_1 := rfl
def C118_12 : ACode := .seq (.reg L118_0) C118_11
theorem u118_12 : VC C118_12.eq_1 := rfl
def F118 : AFunc := ⟨23, [.tmp 2], C118_12⟩
theorem cF118 : compB Try.prog 118 = some F118 := by kernel_rfl
attribute [local go_sem ↓] u118_0 u118_1 u118_2 u118_3 u118_4 u118_5 u118_6 u118_7 u118_8 u118_9 u118_10 u118_11 u118_12 v118_0 v118_1 v118_2 v118_3 v118_4 v118_5 v118_6 v118_7 v118_8 v118_9 v118_10 v118_11 v118_12 v118_13
theorem c_isName (s : ByteArray) (h : H) (hn : s.size < 2 ^ 62) : bm Try.prog 118 [.one (.str s)] h = some (ib (okName s), h) := by
  refine bm_eq cF118 ?_
  simp +contextual (maxSteps := 2000000) only [go_sem, Nat.reduceEqDiff, reduceCtorEq, Nat.reduceAdd, Nat.reduceLeDiff, F118]
  have hsz : s.data.toList.length = s.size := Array.length_toList
  refine wpC_loop (fun i T L h' => h' = h ∧ T 0 = .v (.one (.str s)) ∧ T 3 = .v (.one (.int .i64 i)) ∧ Pre isLow true s.data.toList i) s.size ?_ ?_ (Nat.zero_le _) ?_
  · rintro i T L h' hi ⟨rfl, h0, h3, hp⟩
    simp +contextual (maxSteps := 2000000) only [go_sem, Nat.reduceEqDiff, reduceCtorEq, Nat.reduceAdd, Nat.reduceLeDiff, h0, h3, idx_at hi, lt_true hi]
    have e : s.data.toList[i]'(by omega) = s.data[i]'hi := Array.getElem_toList _
    have bad : isLow (s.data[i]'hi) = false → okName s = false := fun hx => by
      unfold okName
      rw [all_stop (l := s.data.toList) (i := i) (by omega) (by rw [e]; exact hx)]
      rfl
    have low : isLow (s.data[i]'hi) = (!(decide ((↑(s.data[i]'hi).toNat : Int) < 97)) && !(decide ((↑(s.data[i]'hi).toNat : Int) > 122))) := by
      unfold isLow
      rw [Bool.eq_iff_iff]
      simp
      omega
    (repeat' (first | refine And.intro ?_ ?_ | intro _)) <;> first | rfl | rw [wrap_next hi hn] | exact hp.next (by omega) (by rw [e, low]; simp_all) | rw [bad (by rw [low]; simp_all)]
  · rintro T L h' ⟨rfl, h0, h3, hp⟩
    rw [← hsz] at hp
    simp +contextual (maxSteps := 2000000) only [go_sem, Nat.reduceEqDiff, reduceCtorEq, Nat.reduceAdd, Nat.reduceLeDiff, h0, h3, lt_false, c_in, okName, hp.all, Bool.true_and]
  · simp +contextual (maxSteps := 2000000) only [go_sem, Nat.reduceEqDiff, reduceCtorEq, Nat.reduceAdd, Nat.reduceLeDiff]
    (repeat' (first | refine And.intro ?_ ?_ | intro _)) <;> first | rfl | exact Pre.zero
/-! (impl.Param).placed -/
def L157_0 : List AStep := [⟨.box 155 (.t 0), (some 1), none, []⟩, ⟨.mov (.c (.bool false)), (some 2), none, []⟩]
theorem v157_0 : VS L157_0.eq_1 := rfl
def L157_1 : List AStep := [⟨.mov (.t 10), (some 2), none, []⟩]
theorem v157_1 : VS L157_1.eq_1 := rfl
def L157_2 : List AStep := ⟨.bin .eql (.t 8) (.c (.int .i64 1)), (some 9), (some (6, false)), []⟩ :: ⟨.pick (.t 6) (.c (.bool true)) (.t 9), (some 10), none, []⟩ :: L157_1
theorem v157_2 : VS L157_2.eq_1 := rfl
def L157_3 : List AStep := ⟨.faddr 1 (.t 1), (some 7), (some (6, false)), []⟩ :: ⟨.load 1 false (.t 7), (some 8), (some (6, false)), []⟩ :: L157_2
theorem v157_3 : VS L157_3.eq_1 := rfl
def L157_4 : List AStep := ⟨.bin .eql (.t 4) (.c (.int .i64 0)), (some 5), none, []⟩ :: ⟨.mov (.t 5), (some 6), none, []⟩ :: L157_3
theorem v157_4 : VS L157_4.eq_1 := rfl
def L157_5 : List AStep := ⟨.faddr 1 (.t 1), (some 3), none, []⟩ :: ⟨.load 1 false (.t 3), (some 4), none, []⟩ :: L157_4
theorem v157_5 : VS L157_5.eq_1 := rfl
def C157_0 : ACode := .seq (.reg L157_5) .ret
theorem u157_0 : VC C157_0.eq_1 := rfl
def C157_1 : ACode := .seq (.reg L157_0) C157_0
theorem u157_1 : VC C157_1.eq_1 := rfl
def F157 : AFunc := ⟨11, [.tmp 2], C157_1⟩
theorem cF157 : compB Try.prog 157 = some F157 := by kernel_rfl
attribute [local go_sem ↓] u157_0 u157_1 v157_0 v157_1 v157_2 v157_3 v157_4 v157_5
theorem c_placed (p : Param) (h : H) : bm Try.prog 157 [.agg (encQ p)] h = some (ib (byPlace p), h) := by
  refine bm_eq cF157 ?_
  simp +contextual (maxSteps := 2000000) only [go_sem, Nat.reduceEqDiff, reduceCtorEq, Nat.reduceAdd, Nat.reduceLeDiff, F157, byPlace]
  (repeat' (first | refine And.intro ?_ ?_ | intro _)) <;> first | simp_all
/-! (impl.Param).named -/
def L186_0 : List AStep := [⟨.box 155 (.t 0), (some 1), none, []⟩, ⟨.mov (.c (.bool false)), (some 2), none, []⟩]
theorem v186_0 : VS L186_0.eq_1 := rfl
def L186_1 : List AStep := [⟨.mov (.t 10), (some 2), none, []⟩]
theorem v186_1 : VS L186_1.eq_1 := rfl
def L186_2 : List AStep := ⟨.bin .eql (.t 8) (.c (.int .i64 3)), (some 9), (some (6, false)), []⟩ :: ⟨.pick (.t 6) (.c (.bool true)) (.t 9), (some 10), none, []⟩ :: L186_1
theorem v186_2 : VS L186_2.eq_1 := rfl
def L186_3 : List AStep := ⟨.faddr 1 (.t 1), (some 7), (some (6, false)), []⟩ :: ⟨.load 1 false (.t 7), (some 8), (some (6, false)), []⟩ :: L186_2
theorem v186_3 : VS L186_3.eq_1 := rfl
def L186_4 : List AStep := ⟨.bin .eql (.t 4) (.c (.int .i64 1)), (some 5), none, []⟩ :: ⟨.mov (.t 5), (some 6), none, []⟩ :: L186_3
theorem v186_4 : VS L186_4.eq_1 := rfl
def L186_5 : List AStep := ⟨.faddr 1 (.t 1), (some 3), none, []⟩ :: ⟨.load 1 false (.t 3), (some 4), none, []⟩ :: L186_4
theorem v186_5 : VS L186_5.eq_1 := rfl
def C186_0 : ACode := .seq (.reg L186_5) .ret
theorem u186_0 : VC C186_0.eq_1 := rfl
def C186_1 : ACode := .seq (.reg L186_0) C186_0
theorem u186_1 : VC C186_1.eq_1 := rfl
def F186 : AFunc := ⟨11, [.tmp 2], C186_1⟩
theorem cF186 : compB Try.prog 186 = some F186 := by kernel_rfl
attribute [local go_sem ↓] u186_0 u186_1 v186_0 v186_1 v186_2 v186_3 v186_4 v186_5
theorem c_named (p : Param) (h : H) : bm Try.prog 186 [.agg (encQ p)] h = some (ib (byName p), h) := by
  refine bm_eq cF186 ?_
  simp +contextual (maxSteps := 2000000) only [go_sem, Nat.reduceEqDiff, reduceCtorEq, Nat.reduceAdd, Nat.reduceLeDiff, F186, byName]
  (repeat' (first | refine And.intro ?_ ?_ | intro _)) <;> first | simp_all
/-! (impl.Param).single -/
def L156_0 : List AStep := [⟨.box 155 (.t 0), (some 1), none, []⟩, ⟨.mov (.c (.bool false)), (some 2), none, []⟩]
theorem v156_0 : VS L156_0.eq_1 := rfl
def L156_1 : List AStep := [⟨.pick (.t 5) (.c (.bool true)) (.t 8), (some 9), none, []⟩, ⟨.mov (.t 9), (some 2), none, []⟩]
theorem v156_1 : VS L156_1.eq_1 := rfl
def L156_2 : List AStep := ⟨.load 1 false (.t 6), (some 7), (some (5, false)), []⟩ :: ⟨.bin .eql (.t 7) (.c (.int .i64 3)), (some 8), (some (5, false)), []⟩ :: L156_1
theorem v156_2 : VS L156_2.eq_1 := rfl
def L156_3 : List AStep := ⟨.mov (.t 4), (some 5), none, []⟩ :: ⟨.faddr 1 (.t 1), (some 6), (some (5, false)), []⟩ :: L156_2
theorem v156_3 : VS L156_3.eq_1 := rfl
def L156_4 : List AStep := ⟨.load 4 true (.t 1), (some 3), none, []⟩ :: ⟨.call 157 [(.t 3)], (some 4), none, []⟩ :: L156_3
theorem v156_4 : VS L156_4.eq_1 := rfl
def C156_0 : ACode := .seq (.reg L156_4) .ret
theorem u156_0 : VC C156_0.eq_1 := rfl
def C156_1 : ACode := .seq (.reg L156_0) C156_0
theorem u156_1 : VC C156_1.eq_1 := rfl
def F156 : AFunc := ⟨10, [.tmp 2], C156_1⟩
theorem cF156 : compB Try.prog 156 = some F156 := by kernel_rfl
attribute [local go_sem ↓] u156_0 u156_1 v156_0 v156_1 v156_2 v156_3 v156_4
theorem c_single (p : Param) (h : H) : bm Try.prog 156 [.agg (encQ p)] h = some (ib (single p), h) := by
  refine bm_eq cF156 ?_
  simp +contextual (maxSteps := 2000000) only [go_sem, Nat.reduceEqDiff, reduceCtorEq, Nat.reduceAdd, Nat.reduceLeDiff, F156, c_placed, single_eq]
  (repeat' (first | refine And.intro ?_ ?_ | intro _)) <;> first | simp_all
/-! (impl.Pair).valid -/
def L95_0 : List AStep := [⟨.box 106 (.t 0), (some 1), none, []⟩, ⟨.mov (.c (.bool false)), (some 2), none, []⟩]
theorem v95_0 : VS L95_0.eq_1 := rfl
def L95_1 : List AStep := [⟨.mov (.t 10), (some 2), none, []⟩]
theorem v95_1 : VS L95_1.eq_1 := rfl
def L95_2 : List AStep := ⟨.call 128 [(.t 8)], (some 9), (some (6, true)), []⟩ :: ⟨.pick (.t 6) (.t 9) (.c (.bool false)), (some 10), none, []⟩ :: L95_1
theorem v95_2 : VS L95_2.eq_1 := rfl
def L95_3 : List AStep := ⟨.faddr 1 (.t 1), (some 7), (some (6, true)), []⟩ :: ⟨.load 1 false (.t 7), (some 8), (some (6, true)), []⟩ :: L95_2
theorem v95_3 : VS L95_3.eq_1 := rfl
def L95_4 : List AStep := ⟨.call 118 [(.t 4)], (some 5), none, []⟩ :: ⟨.mov (.t 5), (some 6), none, []⟩ :: L95_3
theorem v95_4 : VS L95_4.eq_1 := rfl
def L95_5 : List AStep := ⟨.faddr 0 (.t 1), (some 3), none, []⟩ :: ⟨.load 1 false (.t 3), (some 4), none, []⟩ :: L95_4
theorem v95_5 : VS L95_5.eq_1 := rfl
def C95_0 : ACode := .seq (.reg L95_5) .ret
theorem u95_0 : VC C95_0.eq_1 := rfl
def C95_1 : ACode := .seq (.reg L95_0) C95_0
theorem u95_1 : VC C95_1.eq_1 := rfl
def F95 : AFunc := ⟨11, [.tmp 2], C95_1⟩
theorem cF95 : compB Try.prog 95 = some F95 := by kernel_rfl
attribute [local go_sem ↓] u95_0 u95_1 v95_0 v95_1 v95_2 v95_3 v95_4 v95_5
theorem c_okPair (p : Pair) (h : H) (hn : p.name.size < 2 ^ 62) : bm Try.prog 95 [.agg (encP p)] h = some (ib (okPair p), h) := by
  refine bm_eq cF95 ?_
  simp +contextual (maxSteps := 2000000) only [go_sem, Nat.reduceEqDiff, reduceCtorEq, Nat.reduceAdd, Nat.reduceLeDiff, F95, c_isName _ _ hn, c_isValue, okPair]
  (repeat' (first | refine And.intro ?_ ?_ | intro _)) <;> first | simp_all
/-! slices.IndexFunc(()impl.Pair,impl.Pair) -/
def L129_0 : List AStep := [⟨.mov (.c (.int .i64 0)), (some 4), none, []⟩]
theorem v129_0 : VS L129_0.eq_1 := rfl
def L129_1 : List AStep := [⟨.mov (.c (.int .i64 0)), (some 8), none, []⟩]
theorem v129_1 : VS L129_1.eq_1 := rfl
def L129_2 : List AStep := ⟨.mov (.t 0), (some 6), none, []⟩ :: ⟨.len (.t 6), (some 7), none, []⟩ :: L129_1
theorem v129_2 : VS L129_2.eq_1 := rfl
def L129_3 : List AStep := [⟨.bin .lss (.t 8) (.t 7), (some 9), none, []⟩]
theorem v129_3 : VS L129_3.eq_1 := rfl
def L129_4 : List AStep := [⟨.mov (.t 8), (some 10), none, []⟩, ⟨.mov (.t 10), (some 5), none, []⟩]
theorem v129_4 : VS L129_4.eq_1 := rfl
def L129_5 : List AStep := [⟨.load 2 true (.t 14), (some 15), none, []⟩, ⟨.callv (.t 11) [(.t 15)], (some 16), none, []⟩]
theorem v129_5 : VS L129_5.eq_1 := rfl
def L129_6 : List AStep := ⟨.mov (.t 5), (some 13), none, []⟩ :: ⟨.iaddr 2 (.t 12) (.t 13), (some 14), none, []⟩ :: L129_5
theorem v129_6 : VS L129_6.eq_1 := rfl
def L129_7 : List AStep := ⟨.mov (.t 1), (some 11), none, []⟩ :: ⟨.mov (.t 0), (some 12), none, []⟩ :: L129_6
theorem v129_7 : VS L129_7.eq_1 := rfl
def L129_8 : List AStep := [⟨.mov (.t 5), (some 17), none, []⟩, ⟨.mov (.t 17), (some 4), none, []⟩]
theorem v129_8 : VS L129_8.eq_1 := rfl
def L129_9 : List AStep := [⟨.bin .add (.t 8) (.c (.int .i64 1)), (some 18), none, []⟩, ⟨.mov (.t 18), (some 8), none, []⟩]
theorem v129_9 : VS L129_9.eq_1 := rfl
def L129_10 : List AStep := [⟨.mov (.c (.int .i64 (-1))), (some 4), none, []⟩]
theorem v129_10 : VS L129_10.eq_1 := rfl
def C129_0 : ACode := .cond (.t 9) .skip (.exit 0)
theorem u129_0 : VC C129_0.eq_1 := rfl
def C129_1 : ACode := .seq (.reg L129_8) .ret
theorem u129_1 : VC C129_1.eq_1 := rfl
def C129_2 : ACode := .cond (.t 16) C129_1 .skip
theorem u129_2 : VC C129_2.eq_1 := rfl
def C129_3 : ACode := .seq (.reg L129_7) C129_2
theorem u129_3 : VC C129_3.eq_1 := rfl
def C129_4 : ACode := .seq (.reg L129_4) C129_3
theorem u129_4 : VC C129_4.eq_1 := rfl
def C129_5 : ACode := .block 1 C129_4
theorem u129_5 : VC C129_5.eq_1 := rfl
def C129_6 : ACode := .seq C129_5 (.reg L129_9)
theorem u129_6 : VC C129_6.eq_1 := rfl
def C129_7 : ACode := .seq C129_0 C129_6
theorem u129_7 : VC C129_7.eq_1 := rfl
def C129_8 : ACode := .seq (.reg L129_3) C129_7
theorem u129_8 : VC C129_8.eq_1 := rfl
def C129_9 : ACode := .block 0 (.loop C129_8)
theorem u129_9 : VC C129_9.eq_1 := rfl
def C129_10 : ACode := .seq (.reg L129_2) C129_9
theorem u129_10 : VC C129_10.eq_1 := rfl
def C129_11 : ACode := .seq (.reg L129_10) .ret
theorem u129_11 : VC C129_11.eq_1 := rfl
def C129_12 : ACode := .seq C129_10 C129_11
theorem u129_12 : VC C129_12.eq_1 := rfl
def C129_13 : ACode := .seq (.reg L129_0) C129_12
theorem u129_13 : VC C129_13.eq_1 := rfl
def F129 : AFunc := ⟨19, [.tmp 4], C129_13⟩
theorem cF129 : compB Try.prog 129 = some F129 := by kernel_rfl
attribute [local go_sem ↓] u129_0 u129_1 u129_2 u129_3 u129_4 u129_5 u129_6 u129_7 u129_8 u129_9 u129_10 u129_11 u129_12 u129_13 v129_0 v129_1 v129_2 v129_3 v129_4 v129_5 v129_6 v129_7 v129_8 v129_9 v129_10
theorem c_indexP (l : List Pair) (v : AV) (f : Nat) (caps : List (Nat × Nat)) (p : Pair → Bool) (h : H) (hl : SlP h v l) (hn : l.length ≤ big) (hf : ∀ i (hi : i < l.length), ∀ x, x = l[i] → bm Try.prog f (.agg (encP x) :: caps.map fun a => .one (.ptr (some a))) h = some (ib (p x), h)) :
    bm Try.prog 129 [v, .one (.fn f caps)] h = some (ii (idx p l), h) := by
  refine bm_eq cF129 ?_
  simp +contextual (maxSteps := 2000000) only [go_sem, Nat.reduceEqDiff, reduceCtorEq, Nat.reduceAdd, Nat.reduceLeDiff, F129, hl.len]
  refine wpC_loop (fun i T L h' => h' = h ∧ T 0 = .v v ∧ T 1 = .v (.one (.fn f caps)) ∧ T 7 = .v (.one (.int .i64 l.length)) ∧ T 8 = .v (.one (.int .i64 i)) ∧ Pre p false l i) l.length ?_ ?_ (Nat.zero_le _) ?_
  · rintro i T L h' hi ⟨rfl, h0, h1, h7, h8, hp⟩
    simp +contextual (maxSteps := 2000000) only [go_sem, Nat.reduceEqDiff, reduceCtorEq, Nat.reduceAdd, Nat.reduceLeDiff, h0, h1, h7, h8, hl.iaddr hi, hl.whole hi, hf i hi _ rfl, lt_true hi]
    (repeat' (first | refine And.intro ?_ ?_ | intro _)) <;> first | rfl | rw [wrap_next hi (big_lt hn)] | exact hp.next hi ‹_› | rw [idx_hit hi hp ‹_›]
  · rintro T L h' ⟨rfl, h0, h1, h7, h8, hp⟩
    simp +contextual (maxSteps := 2000000) only [go_sem, Nat.reduceEqDiff, reduceCtorEq, Nat.reduceAdd, Nat.reduceLeDiff, h0, h1, h7, h8, lt_false, idx_none hp]
  · simp +contextual (maxSteps := 2000000) only [go_sem, Nat.reduceEqDiff, reduceCtorEq, Nat.reduceAdd, Nat.reduceLeDiff]
    (repeat' (first | refine And.intro ?_ ?_ | intro _)) <;> first | rfl | exact Pre.zero
/-! slices.IndexFunc(()impl.Param,impl.Param) -/
def L180_0 : List AStep := [⟨.mov (.c (.int .i64 0)), (some 4), none, []⟩]
theorem v180_0 : VS L180_0.eq_1 := rfl
def L180_1 : List AStep := [⟨.mov (.c (.int .i64 0)), (some 8), none, []⟩]
theorem v180_1 : VS L180_1.eq_1 := rfl
def L180_2 : List AStep := ⟨.mov (.t 0), (some 6), none, []⟩ :: ⟨.len (.t 6), (some 7), none, []⟩ :: L180_1
theorem v180_2 : VS L180_2.eq_1 := rfl
def L180_3 : List AStep := [⟨.bin .lss (.t 8) (.t 7), (some 9), none, []⟩]
theorem v180_3 : VS L180_3.eq_1 := rfl
def L180_4 : List AStep := [⟨.mov (.t 8), (some 10), none, []⟩, ⟨.mov (.t 10), (some 5), none, []⟩]
theorem v180_4 : VS L180_4.eq_1 := rfl
def L180_5 : List AStep := [⟨.load 4 true (.t 14), (some 15), none, []⟩, ⟨.callv (.t 11) [(.t 15)], (some 16), none, []⟩]
theorem v180_5 : VS L180_5.eq_1 := rfl
def L180_6 : List AStep := ⟨.mov (.t 5), (some 13), none, []⟩ :: ⟨.iaddr 4 (.t 12) (.t 13), (some 14), none, []⟩ :: L180_5
theorem v180_6 : VS L180_6.eq_1 := rfl
def L180_7 : List AStep := ⟨.mov (.t 1), (some 11), none, []⟩ :: ⟨.mov (.t 0), (some 12), none, []⟩ :: L180_6
theorem v180_7 : VS L180_7.eq_1 := rfl
def L180_8 : List AStep := [⟨.mov (.t 5), (some 17), none, []⟩, ⟨.mov (.t 17), (some 4), none, []⟩]
theorem v180_8 : VS L180_8.eq_1 := rfl
def L180_9 : List AStep := [⟨.bin .add (.t 8) (.c (.int .i64 1)), (some 18), none, []⟩, ⟨.mov (.t 18), (some 8), none, []⟩]
theorem v180_9 : VS L180_9.eq_1 := rfl
def L180_10 : List AStep := [⟨.mov (.c (.int .i64 (-1))), (some 4), none, []⟩]
theorem v180_10 : VS L180_10.eq_1 := rfl
def C180_0 : ACode := .cond (.t 9) .skip (.exit 0)
theorem u180_0 : VC C180_0.eq_1 := rfl
def C180_1 : ACode := .seq (.reg L180_8) .ret
theorem u180_1 : VC C180_1.eq_1 := rfl
def C180_2 : ACode := .cond (.t 16) C180_1 .skip
theorem u180_2 : VC C180_2.eq_1 := rfl
def C180_3 : ACode := .seq (.reg L180_7) C180_2
theorem u180_3 : VC C180_3.eq_1 := rfl
def C180_4 : ACode := .seq (.reg L180_4) C180_3
theorem u180_4 : VC C180_4.eq_1 := rfl
def C180_5 : ACode := .block 1 C180_4
theorem u180_5 : VC C180_5.eq_1 := rfl
def C180_6 : ACode := .seq C180_5 (.reg L180_9)
theorem u180_6 : VC C180_6.eq_1 := rfl
def C180_7 : ACode := .seq C180_0 C180_6
theorem u180_7 : VC C180_7.eq_1 := rfl
def C180_8 : ACode := .seq (.reg L180_3) C180_7
theorem u180_8 : VC C180_8.eq_1 := rfl
def C180_9 : ACode := .block 0 (.loop C180_8)
theorem u180_9 : VC C180_9.eq_1 := rfl
def C180_10 : ACode := .seq (.reg L180_2) C180_9
theorem u180_10 : VC C180_10.eq_1 := rfl
def C180_11 : ACode := .seq (.reg L180_10) .ret
theorem u180_11 : VC C180_11.eq_1 := rfl
def C180_12 : ACode := .seq C180_10 C180_11
theorem u180_12 : VC C180_12.eq_1 := rfl
def C180_13 : ACode := .seq (.reg L180_0) C180_12
theorem u180_13 : VC C180_13.eq_1 := rfl
def F180 : AFunc := ⟨19, [.tmp 4], C180_13⟩
theorem cF180 : compB Try.prog 180 = some F180 := by kernel_rfl
attribute [local go_sem ↓] u180_0 u180_1 u180_2 u180_3 u180_4 u180_5 u180_6 u180_7 u180_8 u180_9 u180_10 u180_11 u180_12 u180_13 v180_0 v180_1 v180_2 v180_3 v180_4 v180_5 v180_6 v180_7 v180_8 v180_9 v180_10
theorem c_indexQ (l : List Param) (v : AV) (f : Nat) (caps : List (Nat × Nat)) (p : Param → Bool) (h : H) (hl : SlQ h v l) (hn : l.length ≤ big) (hf : ∀ i (hi : i < l.length), ∀ x, x = l[i] → bm Try.prog f (.agg (encQ x) :: caps.map fun a => .one (.ptr (some a))) h = some (ib (p x), h)) :
    bm Try.prog 180 [v, .one (.fn f caps)] h = some (ii (idx p l), h) := by
  refine bm_eq cF180 ?_
  simp +contextual (maxSteps := 2000000) only [go_sem, Nat.reduceEqDiff, reduceCtorEq, Nat.reduceAdd, Nat.reduceLeDiff, F180, hl.len]
  refine wpC_loop (fun i T L h' => h' = h ∧ T 0 = .v v ∧ T 1 = .v (.one (.fn f caps)) ∧ T 7 = .v (.one (.int .i64 l.length)) ∧ T 8 = .v (.one (.int .i64 i)) ∧ Pre p false l i) l.length ?_ ?_ (Nat.zero_le _) ?_
  · rintro i T L h' hi ⟨rfl, h0, h1, h7, h8, hp⟩
    simp +contextual (maxSteps := 2000000) only [go_sem, Nat.reduceEqDiff, reduceCtorEq, Nat.reduceAdd, Nat.reduceLeDiff, h0, h1, h7, h8, hl.iaddr hi, hl.whole hi, hf i hi _ rfl, lt_true hi]
    (repeat' (first | refine And.intro ?_ ?_ | intro _)) <;> first | rfl | rw [wrap_next hi (big_lt hn)] | exact hp.next hi ‹_› | rw [idx_hit hi hp ‹_›]
  · rintro T L h' ⟨rfl, h0, h1, h7, h8, hp⟩
    simp +contextual (maxSteps := 2000000) only [go_sem, Nat.reduceEqDiff, reduceCtorEq, Nat.reduceAdd, Nat.reduceLeDiff, h0, h1, h7, h8, lt_false, idx_none hp]
  · simp +contextual (maxSteps := 2000000) only [go_sem, Nat.reduceEqDiff, reduceCtorEq, Nat.reduceAdd, Nat.reduceLeDiff]
    (repeat' (first | refine And.intro ?_ ?_ | intro _)) <;> first | rfl | exact Pre.zero
/-! slices.IndexFunc(()int,int) -/
def L163_0 : List AStep := [⟨.mov (.c (.int .i64 0)), (some 4), none, []⟩]
theorem v163_0 : VS L163_0.eq_1 := rfl
def L163_1 : List AStep := [⟨.mov (.c (.int .i64 0)), (some 8), none, []⟩]
theorem v163_1 : VS L163_1.eq_1 := rfl
def L163_2 : List AStep := ⟨.mov (.t 0), (some 6), none, []⟩ :: ⟨.len (.t 6), (some 7), none, []⟩ :: L163_1
theorem v163_2 : VS L163_2.eq_1 := rfl
def L163_3 : List AStep := [⟨.bin .lss (.t 8) (.t 7), (some 9), none, []⟩]
theorem v163_3 : VS L163_3.eq_1 := rfl
def L163_4 : List AStep := [⟨.mov (.t 8), (some 10), none, []⟩, ⟨.mov (.t 10), (some 5), none, []⟩]
theorem v163_4 : VS L163_4.eq_1 := rfl
def L163_5 : List AStep := [⟨.load 1 false (.t 14), (some 15), none, []⟩, ⟨.callv (.t 11) [(.t 15)], (some 16), none, []⟩]
theorem v163_5 : VS L163_5.eq_1 := rfl
def L163_6 : List AStep := ⟨.mov (.t 5), (some 13), none, []⟩ :: ⟨.iaddr 1 (.t 12) (.t 13), (some 14), none, []⟩ :: L163_5
theorem v163_6 : VS L163_6.eq_1 := rfl
def L163_7 : List AStep := ⟨.mov (.t 1), (some 11), none, []⟩ :: ⟨.mov (.t 0), (some 12), none, []⟩ :: L163_6
theorem v163_7 : VS L163_7.eq_1 := rfl
def L163_8 : List AStep := [⟨.mov (.t 5), (some 17), none, []⟩, ⟨.mov (.t 17), (some 4), none, []⟩]
theorem v163_8 : VS L163_8.eq_1 := rfl
def L163_9 : List AStep := [⟨.bin .add (.t 8) (.c (.int .i64 1)), (some 18), none, []⟩, ⟨.mov (.t 18), (some 8), none, []⟩]
theorem v163_9 : VS L163_9.eq_1 := rfl
def L163_10 : List AStep := [⟨.mov (.c (.int .i64 (-1))), (some 4), none, []⟩]
theorem v163_10 : VS L163_10.eq_1 := rfl
def C163_0 : ACode := .cond (.t 9) .skip (.exit 0)
theorem u163_0 : VC C163_0.eq_1 := rfl
def C163_1 : ACode := .seq (.reg L163_8) .ret
theorem u163_1 : VC C163_1.eq_1 := rfl
def C163_2 : ACode := .cond (.t 16) C163_1 .skip
theorem u163_2 : VC C163_2.eq_1 := rfl
def C163_3 : ACode := .seq (.reg L163_7) C163_2
theorem u163_3 : VC C163_3.eq_1 := rfl
def C163_4 : ACode := .seq (.reg L163_4) C163_3
theorem u163_4 : VC C163_4.eq_1 := rfl
def C163_5 : ACode := .block 1 C163_4
theorem u163_5 : VC C163_5.eq_1 := rfl
def C163_6 : ACode := .seq C163_5 (.reg L163_9)
theorem u163_6 : VC C163_6.eq_1 := rfl
def C163_7 : ACode := .seq C163_0 C163_6
theorem u163_7 : VC C163_7.eq_1 := rfl
def C163_8 : ACode := .seq (.reg L163_3) C163_7
theorem u163_8 : VC C163_8.eq_1 := rfl
def C163_9 : ACode := .block 0 (.loop C163_8)
theorem u163_9 : VC C163_9.eq_1 := rfl
def C163_10 : ACode := .seq (.reg L163_2) C163_9
theorem u163_10 : VC C163_10.eq_1 := rfl
def C163_11 : ACode := .seq (.reg L163_10) .ret
theorem u163_11 : VC C163_11.eq_1 := rfl
def C163_12 : ACode := .seq C163_10 C163_11
theorem u163_12 : VC C163_12.eq_1 := rfl
def C163_13 : ACode := .seq (.reg L163_0) C163_12
theorem u163_13 : VC C163_13.eq_1 := rfl
def F163 : AFunc := ⟨19, [.tmp 4], C163_13⟩
theorem cF163 : compB Try.prog 163 = some F163 := by kernel_rfl
attribute [local go_sem ↓] u163_0 u163_1 u163_2 u163_3 u163_4 u163_5 u163_6 u163_7 u163_8 u163_9 u163_10 u163_11 u163_12 u163_13 v163_0 v163_1 v163_2 v163_3 v163_4 v163_5 v163_6 v163_7 v163_8 v163_9 v163_10
theorem c_indexI (l : List Int) (v : AV) (f : Nat) (caps : List (Nat × Nat)) (p : Int → Bool) (h : H) (hl : SlI h v l) (hn : l.length ≤ big) (hf : ∀ i (hi : i < l.length), ∀ x, x = l[i] → bm Try.prog f (.one (.int .i64 x) :: caps.map fun a => .one (.ptr (some a))) h = some (ib (p x), h)) :
    bm Try.prog 163 [v, .one (.fn f caps)] h = some (ii (idx p l), h) := by
  refine bm_eq cF163 ?_
  simp +contextual (maxSteps := 2000000) only [go_sem, Nat.reduceEqDiff, reduceCtorEq, Nat.reduceAdd, Nat.reduceLeDiff, F163, hl.len]
  refine wpC_loop (fun i T L h' => h' = h ∧ T 0 = .v v ∧ T 1 = .v (.one (.fn f caps)) ∧ T 7 = .v (.one (.int .i64 l.length)) ∧ T 8 = .v (.one (.int .i64 i)) ∧ Pre p false l i) l.length ?_ ?_ (Nat.zero_le _) ?_
  · rintro i T L h' hi ⟨rfl, h0, h1, h7, h8, hp⟩
    simp +contextual (maxSteps := 2000000) only [go_sem, Nat.reduceEqDiff, reduceCtorEq, Nat.reduceAdd, Nat.reduceLeDiff, h0, h1, h7, h8, hl.iaddr hi, hl.oneO hi, hf i hi _ rfl, lt_true hi]
    (repeat' (first | refine And.intro ?_ ?_ | intro _)) <;> first | rfl | rw [wrap_next hi (big_lt hn)] | exact hp.next hi ‹_› | rw [idx_hit hi hp ‹_›]
  · rintro T L h' ⟨rfl, h0, h1, h7, h8, hp⟩
    simp +contextual (maxSteps := 2000000) only [go_sem, Nat.reduceEqDiff, reduceCtorEq, Nat.reduceAdd, Nat.reduceLeDiff, h0, h1, h7, h8, lt_false, idx_none hp]
  · simp +contextual (maxSteps := 2000000) only [go_sem, Nat.reduceEqDiff, reduceCtorEq, Nat.reduceAdd, Nat.reduceLeDiff]
    (repeat' (first | refine And.intro ?_ ?_ | intro _)) <;> first | rfl | exact Pre.zero
/-! slices.ContainsFunc(()int,int) -/
def L131_0 : List AStep := [⟨.mov (.c (.bool false)), (some 4), none, []⟩]
theorem v131_0 : VS L131_0.eq_1 := rfl
def L131_1 : List AStep := [⟨.mov (.t 8), (some 4), none, []⟩]
theorem v131_1 : VS L131_1.eq_1 := rfl
def L131_2 : List AStep := ⟨.call 163 [(.t 5), (.t 6)], (some 7), none, []⟩ :: ⟨.bin .geq (.t 7) (.c (.int .i64 0)), (some 8), none, []⟩ :: L131_1
theorem v131_2 : VS L131_2.eq_1 := rfl
def L131_3 : List AStep := ⟨.mov (.t 0), (some 5), none, []⟩ :: ⟨.mov (.t 1), (some 6), none, []⟩ :: L131_2
theorem v131_3 : VS L131_3.eq_1 := rfl
def C131_0 : ACode := .seq (.reg L131_3) .ret
theorem u131_0 : VC C131_0.eq_1 := rfl
def C131_1 : ACode := .seq (.reg L131_0) C131_0
theorem u131_1 : VC C131_1.eq_1 := rfl
def F131 : AFunc := ⟨9, [.tmp 4], C131_1⟩
theorem cF131 : compB Try.prog 131 = some F131 := by kernel_rfl
attribute [local go_sem ↓] u131_0 u131_1 v131_0 v131_1 v131_2 v131_3
theorem c_hasI (l : List Int) (v : AV) (f : Nat) (caps : List (Nat × Nat)) (p : Int → Bool) (h : H) (hl : SlI h v l) (hn : l.length ≤ big) (hf : ∀ i (hi : i < l.length), ∀ x, x = l[i] → bm Try.prog f (.one (.int .i64 x) :: caps.map fun a => .one (.ptr (some a))) h = some (ib (p x), h)) :
    bm Try.prog 131 [v, .one (.fn f caps)] h = some (ib (l.any p), h) := by
  refine bm_eq cF131 ?_
  have e := idx_any (p := p) (l := l)
  simp +contextual (maxSteps := 2000000) only [go_sem, Nat.reduceEqDiff, reduceCtorEq, Nat.reduceAdd, Nat.reduceLeDiff, F131, c_indexI l v f caps p h hl hn hf, e]
/-! impl.pairAt$1 -/
def L130_0 : List AStep := [⟨.box 106 (.t 0), (some 2), none, []⟩, ⟨.mov (.c (.bool false)), (some 3), none, []⟩]
theorem v130_0 : VS L130_0.eq_1 := rfl
def L130_1 : List AStep := [⟨.mov (.t 7), (some 3), none, []⟩]
theorem v130_1 : VS L130_1.eq_1 := rfl
def L130_2 : List AStep := ⟨.load 1 false (.t 1), (some 6), none, []⟩ :: ⟨.bin .eql (.t 5) (.t 6), (some 7), none, []⟩ :: L130_1
theorem v130_2 : VS L130_2.eq_1 := rfl
def L130_3 : List AStep := ⟨.faddr 0 (.t 2), (some 4), none, []⟩ :: ⟨.load 1 false (.t 4), (some 5), none, []⟩ :: L130_2
theorem v130_3 : VS L130_3.eq_1 := rfl
def C130_0 : ACode := .seq (.reg L130_3) .ret
theorem u130_0 : VC C130_0.eq_1 := rfl
def C130_1 : ACode := .seq (.reg L130_0) C130_0
theorem u130_1 : VC C130_1.eq_1 := rfl
def F130 : AFunc := ⟨8, [.tmp 3], C130_1⟩
theorem cF130 : compB Try.prog 130 = some F130 := by kernel_rfl
attribute [local go_sem ↓] u130_0 u130_1 v130_0 v130_1 v130_2 v130_3
theorem c_pairAt1 (p : Pair) (a : Nat × Nat) (s : ByteArray) (h : H) (ha : loadO 1 false h (.one (.ptr (some a))) = some (.one (.str s))) : bm Try.prog 130 [.agg (encP p), .one (.ptr (some a))] h = some (ib (decide (p.name = s)), h) := by
  refine bm_eq cF130 ?_
  simp +contextual (maxSteps := 2000000) only [go_sem, Nat.reduceEqDiff, reduceCtorEq, Nat.reduceAdd, Nat.reduceLeDiff, F130, ha]
/-! impl.pairAt -/
def L96_0 : List AStep := [⟨.box 9 (.t 1), (some 3), none, []⟩, ⟨.mov (.c (.int .i64 0)), (some 4), none, []⟩]
theorem v96_0 : VS L96_0.eq_1 := rfl
def L96_1 : List AStep := [⟨.call 129 [(.t 5), (.t 6)], (some 7), none, []⟩, ⟨.mov (.t 7), (some 4), none, []⟩]
theorem v96_1 : VS L96_1.eq_1 := rfl
def L96_2 : List AStep := ⟨.mov (.t 0), (some 5), none, []⟩ :: ⟨.mkfn 130 [(.t 3)], (some 6), none, []⟩ :: L96_1
theorem v96_2 : VS L96_2.eq_1 := rfl
def C96_0 : ACode := .seq (.reg L96_2) .ret
theorem u96_0 : VC C96_0.eq_1 := rfl
def C96_1 : ACode := .seq (.reg L96_0) C96_0
theorem u96_1 : VC C96_1.eq_1 := rfl
def F96 : AFunc := ⟨8, [.tmp 4], C96_1⟩
theorem cF96 : compB Try.prog 96 = some F96 := by kernel_rfl
attribute [local go_sem ↓] u96_0 u96_1 v96_0 v96_1 v96_2
theorem c_pairAtI (l : List Pair) (v : AV) (s : ByteArray) (h : H) (hl : SlP h v l) (hn : smP l) : bm Try.prog 96 [v, .one (.str s)] h = some (ii (pairAt l s), h) := by
  refine bm_eq cF96 ?_
  have e := c_indexP l v 130 [(h.n, 0)] (fun p => decide (p.name = s)) (h.alloc [.str s] 9) (hl.grow (Grow.alloc _ _ _)) hn.1 (fun i hi x hx => c_pairAt1 x (h.n, 0) s _ (Box.new.one rfl))
  simp +contextual (maxSteps := 2000000) only [go_sem, Nat.reduceEqDiff, reduceCtorEq, Nat.reduceAdd, Nat.reduceLeDiff, F96, e, pairAt]
/-! impl.find$1 -/
def L181_0 : List AStep := [⟨.box 155 (.t 0), (some 2), none, []⟩, ⟨.mov (.c (.bool false)), (some 3), none, []⟩]
theorem v181_0 : VS L181_0.eq_1 := rfl
def L181_1 : List AStep := [⟨.mov (.t 7), (some 3), none, []⟩]
theorem v181_1 : VS L181_1.eq_1 := rfl
def L181_2 : List AStep := ⟨.load 1 false (.t 1), (some 6), none, []⟩ :: ⟨.bin .eql (.t 5) (.t 6), (some 7), none, []⟩ :: L181_1
theorem v181_2 : VS L181_2.eq_1 := rfl
def L181_3 : List AStep := ⟨.faddr 0 (.t 2), (some 4), none, []⟩ :: ⟨.load 1 false (.t 4), (some 5), none, []⟩ :: L181_2
theorem v181_3 : VS L181_3.eq_1 := rfl
def C181_0 : ACode := .seq (.reg L181_3) .ret
theorem u181_0 : VC C181_0.eq_1 := rfl
def C181_1 : ACode := .seq (.reg L181_0) C181_0
theorem u181_1 : VC C181_1.eq_1 := rfl
def F181 : AFunc := ⟨8, [.tmp 3], C181_1⟩
theorem cF181 : compB Try.prog 181 = some F181 := by kernel_rfl
attribute [local go_sem ↓] u181_0 u181_1 v181_0 v181_1 v181_2 v181_3
theorem c_find1 (p : Param) (a : Nat × Nat) (s : ByteArray) (h : H) (ha : loadO 1 false h (.one (.ptr (some a))) = some (.one (.str s))) : bm Try.prog 181 [.agg (encQ p), .one (.ptr (some a))] h = some (ib (decide (p.name = s)), h) := by
  refine bm_eq cF181 ?_
  simp +contextual (maxSteps := 2000000) only [go_sem, Nat.reduceEqDiff, reduceCtorEq, Nat.reduceAdd, Nat.reduceLeDiff, F181, ha]
/-! impl.find -/
def L158_0 : List AStep := [⟨.box 9 (.t 1), (some 3), none, []⟩, ⟨.mov (.c (.int .i64 0)), (some 4), none, []⟩]
theorem v158_0 : VS L158_0.eq_1 := rfl
def L158_1 : List AStep := [⟨.call 180 [(.t 5), (.t 6)], (some 7), none, []⟩, ⟨.mov (.t 7), (some 4), none, []⟩]
theorem v158_1 : VS L158_1.eq_1 := rfl
def L158_2 : List AStep := ⟨.mov (.t 0), (some 5), none, []⟩ :: ⟨.mkfn 181 [(.t 3)], (some 6), none, []⟩ :: L158_1
theorem v158_2 : VS L158_2.eq_1 := rfl
def C158_0 : ACode := .seq (.reg L158_2) .ret
theorem u158_0 : VC C158_0.eq_1 := rfl
def C158_1 : ACode := .seq (.reg L158_0) C158_0
theorem u158_1 : VC C158_1.eq_1 := rfl
def F158 : AFunc := ⟨8, [.tmp 4], C158_1⟩
theorem cF158 : compB Try.prog 158 = some F158 := by kernel_rfl
attribute [local go_sem ↓] u158_0 u158_1 v158_0 v158_1 v158_2
theorem c_find (l : List Param) (v : AV) (s : ByteArray) (h : H) (hl : SlQ h v l) (hn : smQ l) : bm Try.prog 158 [v, .one (.str s)] h = some (ii (paramAt l s), h) := by
  refine bm_eq cF158 ?_
  have e := c_indexQ l v 181 [(h.n, 0)] (fun p => decide (p.name = s)) (h.alloc [.str s] 9) (hl.grow (Grow.alloc _ _ _)) hn.1 (fun i hi x hx => c_find1 x (h.n, 0) s _ (Box.new.one rfl))
  simp +contextual (maxSteps := 2000000) only [go_sem, Nat.reduceEqDiff, reduceCtorEq, Nat.reduceAdd, Nat.reduceLeDiff, F158, e, paramAt]
/-! (impl.Signature).takes$1 -/
def L187_0 : List AStep := [⟨.box 155 (.t 0), (some 1), none, []⟩, ⟨.mov (.c (.bool false)), (some 2), none, []⟩]
theorem v187_0 : VS L187_0.eq_1 := rfl
def L187_1 : List AStep := [⟨.bin .eql (.t 4) (.c (.int .i64 4)), (some 5), none, []⟩, ⟨.mov (.t 5), (some 2), none, []⟩]
theorem v187_1 : VS L187_1.eq_1 := rfl
def L187_2 : List AStep := ⟨.faddr 1 (.t 1), (some 3), none, []⟩ :: ⟨.load 1 false (.t 3), (some 4), none, []⟩ :: L187_1
theorem v187_2 : VS L187_2.eq_1 := rfl
def C187_0 : ACode := .seq (.reg L187_2) .ret
theorem u187_0 : VC C187_0.eq_1 := rfl
def C187_1 : ACode := .seq (.reg L187_0) C187_0
theorem u187_1 : VC C187_1.eq_1 := rfl
def F187 : AFunc := ⟨6, [.tmp 2], C187_1⟩
theorem cF187 : compB Try.prog 187 = some F187 := by kernel_rfl
attribute [local go_sem ↓] u187_0 u187_1 v187_0 v187_1 v187_2
theorem c_takes1 (p : Param) (h : H) : bm Try.prog 187 [.agg (encQ p)] h = some (ib (decide (p.kind = 4)), h) := by
  refine bm_eq cF187 ?_
  simp +contextual (maxSteps := 2000000) only [go_sem, Nat.reduceEqDiff, reduceCtorEq, Nat.reduceAdd, Nat.reduceLeDiff, F187]
/-! (impl.Signature).takes -/
def L168_0 : List AStep := [⟨.box 69 (.t 0), (some 2), none, []⟩, ⟨.mov (.c (.int .i64 0)), (some 4), none, []⟩]
theorem v168_0 : VS L168_0.eq_1 := rfl
def L168_1 : List AStep := [⟨.mov (.t 9), (some 5), none, []⟩]
theorem v168_1 : VS L168_1.eq_1 := rfl
def L168_2 : List AStep := ⟨.mov (.t 1), (some 8), none, []⟩ :: ⟨.call 158 [(.t 7), (.t 8)], (some 9), none, []⟩ :: L168_1
theorem v168_2 : VS L168_2.eq_1 := rfl
def L168_3 : List AStep := ⟨.faddr 0 (.t 2), (some 6), none, []⟩ :: ⟨.load 1 false (.t 6), (some 7), none, []⟩ :: L168_2
theorem v168_3 : VS L168_3.eq_1 := rfl
def L168_4 : List AStep := [⟨.call 186 [(.t 17)], (some 18), (some (12, true)), []⟩, ⟨.pick (.t 12) (.t 18) (.c (.bool false)), (some 19), none, []⟩]
theorem v168_4 : VS L168_4.eq_1 := rfl
def L168_5 : List AStep := ⟨.iaddr 4 (.t 14) (.t 15), (some 16), (some (12, true)), []⟩ :: ⟨.load 4 true (.t 16), (some 17), (some (12, true)), []⟩ :: L168_4
theorem v168_5 : VS L168_5.eq_1 := rfl
def L168_6 : List AStep := ⟨.load 1 false (.t 13), (some 14), (some (12, true)), []⟩ :: ⟨.mov (.t 5), (some 15), (some (12, true)), []⟩ :: L168_5
theorem v168_6 : VS L168_6.eq_1 := rfl
def L168_7 : List AStep := ⟨.mov (.t 11), (some 12), none, []⟩ :: ⟨.faddr 0 (.t 2), (some 13), (some (12, true)), []⟩ :: L168_6
theorem v168_7 : VS L168_7.eq_1 := rfl
def L168_8 : List AStep := ⟨.mov (.t 5), (some 10), none, []⟩ :: ⟨.bin .geq (.t 10) (.c (.int .i64 0)), (some 11), none, []⟩ :: L168_7
theorem v168_8 : VS L168_8.eq_1 := rfl
def L168_9 : List AStep := [⟨.mov (.t 5), (some 20), none, []⟩, ⟨.mov (.t 20), (some 4), none, []⟩]
theorem v168_9 : VS L168_9.eq_1 := rfl
def L168_10 : List AStep := [⟨.call 180 [(.t 22), (.c (.fn 187 []))], (some 23), none, []⟩, ⟨.mov (.t 23), (some 4), none, []⟩]
theorem v168_10 : VS L168_10.eq_1 := rfl
def L168_11 : List AStep := ⟨.faddr 0 (.t 2), (some 21), none, []⟩ :: ⟨.load 1 false (.t 21), (some 22), none, []⟩ :: L168_10
theorem v168_11 : VS L168_11.eq_1 := rfl
def C168_0 : ACode := .seq (.reg L168_9) .ret
theorem u168_0 : VC C168_0.eq_1 := rfl
def C168_1 : ACode := .cond (.t 19) C168_0 .skip
theorem u168_1 : VC C168_1.eq_1 := rfl
def C168_2 : ACode := .seq (.reg L168_8) C168_1
theorem u168_2 : VC C168_2.eq_1 := rfl
def C168_3 : ACode := .seq (.reg L168_3) C168_2
theorem u168_3 : VC C168_3.eq_1 := rfl
def C168_4 : ACode := .seq (.reg L168_11) .ret
theorem u168_4 : VC C168_4.eq_1 := rfl
def C168_5 : ACode := .seq C168_3 C168_4
theorem u168_5 : VC C168_5.eq_1 := rfl
def C168_6 : ACode := .seq (.reg L168_0) C168_5
theorem u168_6 : VC C168_6.eq_1 := rfl
def F168 : AFunc := ⟨24, [.tmp 4], C168_6⟩
theorem cF168 : compB Try.prog 168 = some F168 := by kernel_rfl
attribute [local go_sem ↓] u168_0 u168_1 u168_2 u168_3 u168_4 u168_5 u168_6 v168_0 v168_1 v168_2 v168_3 v168_4 v168_5 v168_6 v168_7 v168_8 v168_9 v168_10 v168_11
theorem c_takes (l : List Param) (pv : CV) (s : ByteArray) (h : H) (hl : SlQ h (.one pv) l) (hn : smQ l) : bm Try.prog 168 [.agg [pv], .one (.str s)] h = some (ii (takes l s), h) := by
  refine bm_eq cF168 ?_
  have e2 := c_indexQ l (.one pv) 187 [] (fun p => decide (p.kind = 4)) h hl hn.1 (fun i hi x hx => c_takes1 x h)
  rw [show idx (fun p : Param => decide (p.kind = 4)) l = kindAt l 4 from rfl] at e2
  rcases idx_cases (fun p : Param => decide (p.name = s)) l with e | ⟨j, hj, e, _⟩ <;> (replace e := (show paramAt l s = _ from e))
  · simp +contextual (maxSteps := 2000000) only [go_sem, Nat.reduceEqDiff, reduceCtorEq, Nat.reduceAdd, Nat.reduceLeDiff, F168, c_find _ _ _ _ hl hn, e, e2, takes_none e]
  · simp +contextual (maxSteps := 2000000) only [go_sem, Nat.reduceEqDiff, reduceCtorEq, Nat.reduceAdd, Nat.reduceLeDiff, F168, c_find _ _ _ _ hl hn, e, e2, takes_some hj e, hl.iaddr hj, hl.whole hj, c_named]
/-! impl.areValues$1 -/
def L132_0 : List AStep := [⟨.mov (.c (.bool false)), (some 2), none, []⟩]
theorem v132_0 : VS L132_0.eq_1 := rfl
def L132_1 : List AStep := [⟨.not (.t 4), (some 5), none, []⟩, ⟨.mov (.t 5), (some 2), none, []⟩]
theorem v132_1 : VS L132_1.eq_1 := rfl
def L132_2 : List AStep := ⟨.mov (.t 0), (some 3), none, []⟩ :: ⟨.call 128 [(.t 3)], (some 4), none, []⟩ :: L132_1
theorem v132_2 : VS L132_2.eq_1 := rfl
def C132_0 : ACode := .seq (.reg L132_2) .ret
theorem u132_0 : VC C132_0.eq_1 := rfl
def C132_1 : ACode := .seq (.reg L132_0) C132_0
theorem u132_1 : VC C132_1.eq_1 := rfl
def F132 : AFunc := ⟨6, [.tmp 2], C132_1⟩
theorem cF132 : compB Try.prog 132 = some F132 := by kernel_rfl
attribute [local go_sem ↓] u132_0 u132_1 v132_0 v132_1 v132_2
theorem c_areValues1 (n : Int) (h : H) : bm Try.prog 132 [.one (.int .i64 n)] h = some (ib (!(okNum n)), h) := by
  refine bm_eq cF132 ?_
  simp +contextual (maxSteps := 2000000) only [go_sem, Nat.reduceEqDiff, reduceCtorEq, Nat.reduceAdd, Nat.reduceLeDiff, F132, c_isValue]
/-! impl.areValues -/
def L97_0 : List AStep := [⟨.mov (.c (.bool false)), (some 2), none, []⟩]
theorem v97_0 : VS L97_0.eq_1 := rfl
def L97_1 : List AStep := [⟨.not (.t 4), (some 5), none, []⟩, ⟨.mov (.t 5), (some 2), none, []⟩]
theorem v97_1 : VS L97_1.eq_1 := rfl
def L97_2 : List AStep := ⟨.mov (.t 0), (some 3), none, []⟩ :: ⟨.call 131 [(.t 3), (.c (.fn 132 []))], (some 4), none, []⟩ :: L97_1
theorem v97_2 : VS L97_2.eq_1 := rfl
def C97_0 : ACode := .seq (.reg L97_2) .ret
theorem u97_0 : VC C97_0.eq_1 := rfl
def C97_1 : ACode := .seq (.reg L97_0) C97_0
theorem u97_1 : VC C97_1.eq_1 := rfl
def F97 : AFunc := ⟨6, [.tmp 2], C97_1⟩
theorem cF97 : compB Try.prog 97 = some F97 := by kernel_rfl
attribute [local go_sem ↓] u97_0 u97_1 v97_0 v97_1 v97_2
theorem c_areValues (l : List Int) (v : AV) (h : H) (hl : SlI h v l) (hn : l.length ≤ big) : bm Try.prog 97 [v] h = some (ib (l.all okNum), h) := by
  refine bm_eq cF97 ?_
  have e := c_hasI l v 132 [] (fun n => !(okNum n)) h hl hn (fun i hi x hx => c_areValues1 x h)
  simp +contextual (maxSteps := 2000000) only [go_sem, Nat.reduceEqDiff, reduceCtorEq, Nat.reduceAdd, Nat.reduceLeDiff, F97, e]
  simp [List.not_any_eq_all_not]
/-! impl.ValidFlat -/
def L48_0 : List AStep := [⟨.box 33 (.t 0), (some 1), none, []⟩, ⟨.mov (.c (.bool false)), (some 2), none, []⟩]
theorem v48_0 : VS L48_0.eq_1 := rfl
def L48_1 : List AStep := [⟨.len (.t 6), (some 7), none, []⟩, ⟨.mov (.c (.int .i64 0)), (some 8), none, []⟩]
theorem v48_1 : VS L48_1.eq_1 := rfl
def L48_2 : List AStep := ⟨.faddr 1 (.t 1), (some 5), none, []⟩ :: ⟨.load 1 false (.t 5), (some 6), none, []⟩ :: L48_1
theorem v48_2 : VS L48_2.eq_1 := rfl
def L48_3 : List AStep := [⟨.bin .lss (.t 8) (.t 7), (some 9), none, []⟩]
theorem v48_3 : VS L48_3.eq_1 := rfl
def L48_4 : List AStep := [⟨.mov (.t 10), (some 3), none, []⟩, ⟨.store 2 (.t 4) (.t 12), none, none, []⟩]
theorem v48_4 : VS L48_4.eq_1 := rfl
def L48_5 : List AStep := ⟨.load 2 true (.t 11), (some 12), none, []⟩ :: ⟨.alloc 106 [(.str (strOfNums [])), (.int .i64 0)], (some 4), none, []⟩ :: L48_4
theorem v48_5 : VS L48_5.eq_1 := rfl
def L48_6 : List AStep := ⟨.mov (.t 8), (some 10), none, []⟩ :: ⟨.iaddr 2 (.t 6) (.t 8), (some 11), none, []⟩ :: L48_5
theorem v48_6 : VS L48_6.eq_1 := rfl
def L48_7 : List AStep := [⟨.pick (.t 16) (.c (.bool true)) (.t 24), (some 25), none, []⟩]
theorem v48_7 : VS L48_7.eq_1 := rfl
def L48_8 : List AStep := ⟨.call 96 [(.t 20), (.t 22)], (some 23), (some (16, false)), []⟩ :: ⟨.bin .geq (.t 23) (.c (.int .i64 0)), (some 24), (some (16, false)), []⟩ :: L48_7
theorem v48_8 : VS L48_8.eq_1 := rfl
def L48_9 : List AStep := ⟨.faddr 0 (.t 4), (some 21), (some (16, false)), []⟩ :: ⟨.load 1 false (.t 21), (some 22), (some (16, false)), []⟩ :: L48_8
theorem v48_9 : VS L48_9.eq_1 := rfl
def L48_10 : List AStep := ⟨.mov (.t 3), (some 19), (some (16, false)), []⟩ :: ⟨.slice 106 2 (.t 18) none (some (.t 19)) none, (some 20), (some (16, false)), []⟩ :: L48_9
theorem v48_10 : VS L48_10.eq_1 := rfl
def L48_11 : List AStep := ⟨.faddr 1 (.t 1), (some 17), (some (16, false)), []⟩ :: ⟨.load 1 false (.t 17), (some 18), (some (16, false)), []⟩ :: L48_10
theorem v48_11 : VS L48_11.eq_1 := rfl
def L48_12 : List AStep := ⟨.not (.t 14), (some 15), none, []⟩ :: ⟨.mov (.t 15), (some 16), none, []⟩ :: L48_11
theorem v48_12 : VS L48_12.eq_1 := rfl
def L48_13 : List AStep := ⟨.load 2 true (.t 4), (some 13), none, []⟩ :: ⟨.call 95 [(.t 13)], (some 14), none, []⟩ :: L48_12
theorem v48_13 : VS L48_13.eq_1 := rfl
def L48_14 : List AStep := [⟨.mov (.c (.bool false)), (some 2), none, []⟩]
theorem v48_14 : VS L48_14.eq_1 := rfl
def L48_15 : List AStep := [⟨.bin .add (.t 8) (.c (.int .i64 1)), (some 26), none, []⟩, ⟨.mov (.t 26), (some 8), none, []⟩]
theorem v48_15 : VS L48_15.eq_1 := rfl
def L48_16 : List AStep := [⟨.pick (.t 37) (.t 40) (.c (.bool false)), (some 41), none, []⟩, ⟨.mov (.t 41), (some 2), none, []⟩]
theorem v48_16 : VS L48_16.eq_1 := rfl
def L48_17 : List AStep := ⟨.load 1 false (.t 38), (some 39), (some (37, true)), []⟩ :: ⟨.call 97 [(.t 39)], (some 40), (some (37, true)), []⟩ :: L48_16
theorem v48_17 : VS L48_17.eq_1 := rfl
def L48_18 : List AStep := ⟨.mov (.t 36), (some 37), none, []⟩ :: ⟨.faddr 0 (.t 1), (some 38), (some (37, true)), []⟩ :: L48_17
theorem v48_18 : VS L48_18.eq_1 := rfl
def L48_19 : List AStep := ⟨.bin .leq (.t 34) (.c (.int .i64 8)), (some 35), (some (31, true)), []⟩ :: ⟨.pick (.t 31) (.t 35) (.c (.bool false)), (some 36), none, []⟩ :: L48_18
theorem v48_19 : VS L48_19.eq_1 := rfl
def L48_20 : List AStep := ⟨.load 1 false (.t 32), (some 33), (some (31, true)), []⟩ :: ⟨.len (.t 33), (some 34), (some (31, true)), []⟩ :: L48_19
theorem v48_20 : VS L48_20.eq_1 := rfl
def L48_21 : List AStep := ⟨.mov (.t 30), (some 31), none, []⟩ :: ⟨.faddr 1 (.t 1), (some 32), (some (31, true)), []⟩ :: L48_20
theorem v48_21 : VS L48_21.eq_1 := rfl
def L48_22 : List AStep := ⟨.len (.t 28), (some 29), none, []⟩ :: ⟨.bin .leq (.t 29) (.c (.int .i64 8)), (some 30), none, []⟩ :: L48_21
theorem v48_22 : VS L48_22.eq_1 := rfl
def L48_23 : List AStep := ⟨.faddr 0 (.t 1), (some 27), none, []⟩ :: ⟨.load 1 false (.t 27), (some 28), none, []⟩ :: L48_22
theorem v48_23 : VS L48_23.eq_1 := rfl
def C48_0 : ACode := .cond (.t 9) .skip (.exit 0)
theorem u48_0 : VC C48_0.eq_1 := rfl
def C48_1 : ACode := .seq (.reg L48_14) .ret
theorem u48_1 : VC C48_1.eq_1 := rfl
def C48_2 : ACode := .cond (.t 25) C48_1 .skip
theorem u48_2 : VC C48_2.eq_1 := rfl
def C48_3 : ACode := .seq (.reg L48_13) C48_2
theorem u48_3 : VC C48_3.eq_1 := rfl
def C48_4 : ACode := .seq (.reg L48_6) C48_3
theorem u48_4 : VC C48_4.eq_1 := rfl
def C48_5 : ACode := .block 1 C48_4
theorem u48_5 : VC C48_5.eq_1 := rfl
def C48_6 : ACode := .seq C48_5 (.reg L48_15)
theorem u48_6 : VC C48_6.eq_1 := rfl
def C48_7 : ACode := .seq C48_0 C48_6
theorem u48_7 : VC C48_7.eq_1 := rfl
def C48_8 : ACode := .seq (.reg L48_3) C48_7
theorem u48_8 : VC C48_8.eq_1 := rfl
def C48_9 : ACode := .block 0 (.loop C48_8)
theorem u48_9 : VC C48_9.eq_1 := rfl
def C48_10 : ACode := .seq (.reg L48_2) C48_9
theorem u48_10 : VC C48_10.eq_1 := rfl
def C48_11 : ACode := .seq (.reg L48_23) .ret
theorem u48_11 : VC C48_11.eq_1 := rfl
def C48_12 : ACode := .seq C48_10 C48_11
theorem u48_12 : VC C48_12.eq_1 := rfl
def C48_13 : ACode := .seq (.reg L48_0) C48_12
theorem u48_13 : VC C48_13.eq_1 := rfl
def F48 : AFunc := ⟨42, [.tmp 2], C48_13⟩
theorem cF48 : compB Try.prog 48 = some F48 := by kernel_rfl
attribute [local go_sem ↓] u48_0 u48_1 u48_2 u48_3 u48_4 u48_5 u48_6 u48_7 u48_8 u48_9 u48_10 u48_11 u48_12 u48_13 v48_0 v48_1 v48_2 v48_3 v48_4 v48_5 v48_6 v48_7 v48_8 v48_9 v48_10 v48_11 v48_12 v48_13 v48_14 v48_15 v48_16 v48_17 v48_18 v48_19 v48_20 v48_21 v48_22 v48_23
theorem c_ValidFlat (f : Flat) (pv nv : CV) (h : H) (hp : SlI h (.one pv) f.pl) (hq : SlP h (.one nv) f.nl) (hn : smF f) : bm Try.prog 48 [.agg [pv, nv]] h = some (ib (okFlat f), h) := by
  refine bm_eq cF48 ?_
  simp +contextual (maxSteps := 2000000) only [go_sem, Nat.reduceEqDiff, reduceCtorEq, Nat.reduceAdd, Nat.reduceLeDiff, F48, hq.len]
  refine wpC_loop (fun i T L h' => h' = h ∧ T 1 = .lp 1 0 ∧ (L 1).2 = [pv, nv] ∧ T 6 = .v (.one nv) ∧ T 7 = .v (.one (.int .i64 f.nl.length)) ∧ T 8 = .v (.one (.int .i64 i)) ∧ Upto (newAt Pair.name f.nl) i ∧ Pre okPair true f.nl i) f.nl.length ?_ ?_ (Nat.zero_le _) ?_
  · rintro i T L h' hi ⟨rfl, t1, l1, t6, t7, t8, hu, hpre⟩
    obtain ⟨v', e1, s1⟩ := hq.takeO (i := i) (by omega) (kd := .i64)
    have e2 : decide (pairAt (f.nl.take i) f.nl[i].name ≥ 0) = !(newAt Pair.name f.nl i) := newAt_ge hi
    simp +contextual (maxSteps := 2000000) only [go_sem, Nat.reduceEqDiff, reduceCtorEq, Nat.reduceAdd, Nat.reduceLeDiff, e2, t1, l1, t6, t7, t8, hq.iaddr hi, hq.whole hi, lt_true hi, e1, c_okPair _ _ (hn.nl.at hi), c_pairAtI _ _ _ _ s1 (hn.nl.take i)]
    (repeat' (first | refine And.intro ?_ ?_ | intro _)) <;> first | rfl | rw [wrap_next hi hn.nl.len] | (refine hu.next ?_; simp_all; done) | (refine hpre.next hi ?_; simp_all; done) | (rw [okFlat, apart_not hi] <;> first | rfl | (simp_all; done)) | (rw [okFlat, all_stop (p := okPair) hi] <;> first | (simp; done) | (simp_all; done))
  · rintro T L h' ⟨rfl, t1, l1, t6, t7, t8, hu, hpre⟩
    simp +contextual (maxSteps := 2000000) only [go_sem, Nat.reduceEqDiff, reduceCtorEq, Nat.reduceAdd, Nat.reduceLeDiff, t1, l1, t6, t7, t8, hq.len, hp.len, lt_false, c_areValues _ _ _ hp hn.pl, okFlat, apart_of hu, hpre.all]
    (repeat' (first | refine And.intro ?_ ?_ | intro _)) <;> first | rfl | simp_all
  · simp +contextual (maxSteps := 2000000) only [go_sem, Nat.reduceEqDiff, reduceCtorEq, Nat.reduceAdd, Nat.reduceLeDiff]
    (repeat' (first | refine And.intro ?_ ?_ | intro _)) <;> first | rfl | exact Upto.zero | exact Pre.zero
end Go.Proofs.Ytdalgphpacikkac.Am
