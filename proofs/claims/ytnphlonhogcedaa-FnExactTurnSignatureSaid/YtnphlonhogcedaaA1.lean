/- Contracts of the reference: numbers, names, pairs, flat calls and signatures that are valid. -/
import Derived.Test.YtnphlonhogcedaaDat
namespace Go.Proofs.Ytnphlonhogcedaa.Am
open Go
set_option maxRecDepth 100000
set_option maxHeartbeats 4000000
set_option linter.unusedSimpArgs false
set_option linter.unusedVariables false
attribute [local go_sem ↓] bv_t bv_c ev_t ev_c put_same put_ne put_none kill_at pro_at lb_same lb_ne start_zero start_succ wpC_seq wpC_reg wpC_cond wpC_block wpC_skip wpC_exit wpC_ret thenQ_normal thenQ_exit thenQ_ret inBlk_normal inBlk_exit inBlk_ret wpS_nil wpS_step wpS_again wpS_guard wpO_mov wpO_load wpO_faddr wpO_nilCheck wpO_pick wpO_build wpO_bin wpO_eqb wpO_eqst wpO_eqnil wpO_not wpO_conv wpO_bytesStr wpO_iaddr wpO_idxStr wpO_field wpO_extract wpO_len wpO_lenStr wpO_cap wpO_min wpO_slice wpO_sliceStr wpO_alloc wpO_box wpO_store wpO_call wpO_callv wpO_mkfn wpO_buildSlice wpO_mkslice wpO_append wpO_appz proA_nil proA_cons tmpX_nil tmpX_tmp tmpX_cell doneB_normal doneB_ret agK_cons agK_nil pureB_load results_one results_two results_nil resBs_cons resBs_nil resB_tmp resB_cell
attribute [local go_sem] kill_v kill_lp_ne kill_lp_same pro_v pro_lp_same pro_lp_ne av_v av_lp optB_some optX_some valX_eq ldX_lp ldX_v faX_lp faX_v ncX_lp ncX_ptr ncX_fn boxK_one boxK_agg stL_some stK_lp_one stK_lp_agg stK_v_one stK_v_agg proM_v proM_lp callG_mk callVG_mk callvK_fn fnG_mk ptrsA_nil ptrsA_cons callH_some whenA_true whenA_false guardH_tt guardH_ff guardH_tf guardH_ft guardH_undef agV_one agV_agg lenO_sl lenStrO_str notO_bool pickO_bool convO_int eqbO_bool eqnilO_sl extractO_tup capO_sl minO_int loadL_one loadL_all storeL_eq fillA_nil fillA_one fillA_agg nat_ge neg_ge nat_lt neg_lt buildO bin_add bin_sub bin_mul bin_eql bin_neq bin_lss bin_leq bin_gtr bin_geq str_eql str_neq str_lss str_leq str_gtr str_geq retK_some endK_mk gcK_same gcK_int gcK_bool tupO_one tupO_agg rdy_self ib ii Option.map_none Option.map_some Option.some.injEq exists_eq_left' exists_eq_left ne_eq not_false_eq_true if_true if_false List.map_cons List.map_nil List.getElem?_cons_zero List.getElem?_cons_succ List.length_cons List.length_nil List.take_succ_cons List.take_zero List.take_nil List.drop_succ_cons List.drop_zero List.drop_nil List.cons_append List.nil_append List.append_nil List.set_cons_zero List.set_cons_succ Nat.zero_add forall_const true_and and_true and_self Bool.false_eq_true false_implies true_implies implies_true Bool.not_true Bool.not_false Bool.not_eq_true' Bool.not_eq_false' beq_self_eq_true Bool.bne_true Bool.bne_false
attribute [local go_sem] lenI lenS lenP lenQ lenB lenL lenT encI_0 encS_0 encP_0 encP_1 encQ_0 encQ_1 encQ_2 encQ_3 encB_0 encB_1 encL_0 encL_1 encT_0 encT_1
attribute [local go_sem low] whenA_bool guardH_bool
section
variable {P : Program} {T : Tb} {L : Lb} {h : H} {Q : PostC} {K : Post}
/-! spec.inRange -/
def L213_0 : List AStep := [⟨.mov (.c (.bool false)), (some 6), none, []⟩]
theorem v213_0 : wpS P L213_0 T L (rdy h) K = wpS P ([⟨.mov (.c (.bool false)), (some 6), none, []⟩]) T L (rdy h) K := rfl
def L213_1 : List AStep := [⟨.mov (.t 14), (some 6), none, []⟩]
theorem v213_1 : wpS P L213_1 T L (rdy h) K = wpS P ([⟨.mov (.t 14), (some 6), none, []⟩]) T L (rdy h) K := rfl
def L213_2 : List AStep := ⟨.bin .leq (.t 11) (.t 12), (some 13), (some (10, true)), []⟩ :: ⟨.pick (.t 10) (.t 13) (.c (.bool false)), (some 14), none, []⟩ :: L213_1
theorem v213_2 : wpS P L213_2 T L (rdy h) K = wpS P (⟨.bin .leq (.t 11) (.t 12), (some 13), (some (10, true)), []⟩ :: ⟨.pick (.t 10) (.t 13) (.c (.bool false)), (some 14), none, []⟩ :: L213_1) T L (rdy h) K := rfl
def L213_3 : List AStep := ⟨.mov (.t 0), (some 11), (some (10, true)), []⟩ :: ⟨.mov (.t 2), (some 12), (some (10, true)), []⟩ :: L213_2
theorem v213_3 : wpS P L213_3 T L (rdy h) K = wpS P (⟨.mov (.t 0), (some 11), (some (10, true)), []⟩ :: ⟨.mov (.t 2), (some 12), (some (10, true)), []⟩ :: L213_2) T L (rdy h) K := rfl
def L213_4 : List AStep := ⟨.bin .leq (.t 7) (.t 8), (some 9), none, []⟩ :: ⟨.mov (.t 9), (some 10), none, []⟩ :: L213_3
theorem v213_4 : wpS P L213_4 T L (rdy h) K = wpS P (⟨.bin .leq (.t 7) (.t 8), (some 9), none, []⟩ :: ⟨.mov (.t 9), (some 10), none, []⟩ :: L213_3) T L (rdy h) K := rfl
def L213_5 : List AStep := ⟨.mov (.t 1), (some 7), none, []⟩ :: ⟨.mov (.t 0), (some 8), none, []⟩ :: L213_4
theorem v213_5 : wpS P L213_5 T L (rdy h) K = wpS P (⟨.mov (.t 1), (some 7), none, []⟩ :: ⟨.mov (.t 0), (some 8), none, []⟩ :: L213_4) T L (rdy h) K := rfl
def C213_0 : ACode := .seq (.reg L213_5) .ret
theorem u213_0 : wpC P C213_0 T L (rdy h) Q = wpC P (.seq (.reg L213_5) .ret) T L (rdy h) Q := rfl
def C213_1 : ACode := .seq (.reg L213_0) C213_0
theorem u213_1 : wpC P C213_1 T L (rdy h) Q = wpC P (.seq (.reg L213_0) C213_0) T L (rdy h) Q := rfl
def F213 : AFunc := ⟨15, [.tmp 6], C213_1⟩
theorem cF213 : compB Try.prog 213 = some F213 := by kernel_rfl
end
attribute [local go_sem ↓] u213_0 u213_1 v213_0 v213_1 v213_2 v213_3 v213_4 v213_5
theorem c_inRange (n lo hi : Int) (h : H) : bm Try.prog 213 [.one (.int .i64 n), .one (.int .i64 lo), .one (.int .i64 hi)] h = some (ib (decide (lo ≤ n) && decide (n ≤ hi)), h) := by
  refine bm_eq cF213 ?_
  simp +contextual (maxSteps := 2000000) only [go_sem, Nat.reduceEqDiff, reduceCtorEq, Nat.reduceAdd, Nat.reduceLeDiff, F213]
  cases decide (lo ≤ n) <;> simp
section
variable {P : Program} {T : Tb} {L : Lb} {h : H} {Q : PostC} {K : Post}
/-! spec.validNumber -/
def L168_0 : List AStep := [⟨.mov (.c (.bool false)), (some 2), none, []⟩]
theorem v168_0 : wpS P L168_0 T L (rdy h) K = wpS P ([⟨.mov (.c (.bool false)), (some 2), none, []⟩]) T L (rdy h) K := rfl
def L168_1 : List AStep := [⟨.mov (.t 4), (some 2), none, []⟩]
theorem v168_1 : wpS P L168_1 T L (rdy h) K = wpS P ([⟨.mov (.t 4), (some 2), none, []⟩]) T L (rdy h) K := rfl
def L168_2 : List AStep := ⟨.mov (.t 0), (some 3), none, []⟩ :: ⟨.call 213 [(.t 3), (.c (.int .i64 (-99))), (.c (.int .i64 99))], (some 4), none, []⟩ :: L168_1
theorem v168_2 : wpS P L168_2 T L (rdy h) K = wpS P (⟨.mov (.t 0), (some 3), none, []⟩ :: ⟨.call 213 [(.t 3), (.c (.int .i64 (-99))), (.c (.int .i64 99))], (some 4), none, []⟩ :: L168_1) T L (rdy h) K := rfl
def C168_0 : ACode := .seq (.reg L168_2) .ret
theorem u168_0 : wpC P C168_0 T L (rdy h) Q = wpC P (.seq (.reg L168_2) .ret) T L (rdy h) Q := rfl
def C168_1 : ACode := .seq (.reg L168_0) C168_0
theorem u168_1 : wpC P C168_1 T L (rdy h) Q = wpC P (.seq (.reg L168_0) C168_0) T L (rdy h) Q := rfl
def F168 : AFunc := ⟨5, [.tmp 2], C168_1⟩
theorem cF168 : compB Try.prog 168 = some F168 := by kernel_rfl
end
attribute [local go_sem ↓] u168_0 u168_1 v168_0 v168_1 v168_2
theorem c_validNumber (n : Int) (h : H) : bm Try.prog 168 [.one (.int .i64 n)] h = some (ib (okNum n), h) := by
  refine bm_eq cF168 ?_
  simp +contextual (maxSteps := 2000000) only [go_sem, Nat.reduceEqDiff, reduceCtorEq, Nat.reduceAdd, Nat.reduceLeDiff, F168, c_inRange, okNum]
section
variable {P : Program} {T : Tb} {L : Lb} {h : H} {Q : PostC} {K : Post}
/-! spec.validName -/
def L201_0 : List AStep := [⟨.mov (.c (.bool false)), (some 2), none, []⟩]
theorem v201_0 : wpS P L201_0 T L (rdy h) K = wpS P ([⟨.mov (.c (.bool false)), (some 2), none, []⟩]) T L (rdy h) K := rfl
def L201_1 : List AStep := [⟨.mov (.c (.int .i64 0)), (some 3), none, []⟩]
theorem v201_1 : wpS P L201_1 T L (rdy h) K = wpS P ([⟨.mov (.c (.int .i64 0)), (some 3), none, []⟩]) T L (rdy h) K := rfl
def L201_2 : List AStep := [⟨.lenStr (.t 5), (some 6), none, []⟩, ⟨.bin .lss (.t 4) (.t 6), (some 7), none, []⟩]
theorem v201_2 : wpS P L201_2 T L (rdy h) K = wpS P ([⟨.lenStr (.t 5), (some 6), none, []⟩, ⟨.bin .lss (.t 4) (.t 6), (some 7), none, []⟩]) T L (rdy h) K := rfl
def L201_3 : List AStep := ⟨.mov (.t 3), (some 4), none, []⟩ :: ⟨.mov (.t 0), (some 5), none, []⟩ :: L201_2
theorem v201_3 : wpS P L201_3 T L (rdy h) K = wpS P (⟨.mov (.t 3), (some 4), none, []⟩ :: ⟨.mov (.t 0), (some 5), none, []⟩ :: L201_2) T L (rdy h) K := rfl
def L201_4 : List AStep := [⟨.bin .gtr (.t 17) (.c (.int .u8 122)), (some 18), (some (14, false)), []⟩, ⟨.pick (.t 14) (.c (.bool true)) (.t 18), (some 19), none, []⟩]
theorem v201_4 : wpS P L201_4 T L (rdy h) K = wpS P ([⟨.bin .gtr (.t 17) (.c (.int .u8 122)), (some 18), (some (14, false)), []⟩, ⟨.pick (.t 14) (.c (.bool true)) (.t 18), (some 19), none, []⟩]) T L (rdy h) K := rfl
def L201_5 : List AStep := ⟨.mov (.t 3), (some 16), (some (14, false)), []⟩ :: ⟨.idxStr (.t 15) (.t 16), (some 17), (some (14, false)), []⟩ :: L201_4
theorem v201_5 : wpS P L201_5 T L (rdy h) K = wpS P (⟨.mov (.t 3), (some 16), (some (14, false)), []⟩ :: ⟨.idxStr (.t 15) (.t 16), (some 17), (some (14, false)), []⟩ :: L201_4) T L (rdy h) K := rfl
def L201_6 : List AStep := ⟨.mov (.t 13), (some 14), none, []⟩ :: ⟨.mov (.t 0), (some 15), (some (14, false)), []⟩ :: L201_5
theorem v201_6 : wpS P L201_6 T L (rdy h) K = wpS P (⟨.mov (.t 13), (some 14), none, []⟩ :: ⟨.mov (.t 0), (some 15), (some (14, false)), []⟩ :: L201_5) T L (rdy h) K := rfl
def L201_7 : List AStep := ⟨.idxStr (.t 10) (.t 11), (some 12), none, []⟩ :: ⟨.bin .lss (.t 12) (.c (.int .u8 97)), (some 13), none, []⟩ :: L201_6
theorem v201_7 : wpS P L201_7 T L (rdy h) K = wpS P (⟨.idxStr (.t 10) (.t 11), (some 12), none, []⟩ :: ⟨.bin .lss (.t 12) (.c (.int .u8 97)), (some 13), none, []⟩ :: L201_6) T L (rdy h) K := rfl
def L201_8 : List AStep := ⟨.mov (.t 0), (some 10), none, []⟩ :: ⟨.mov (.t 3), (some 11), none, []⟩ :: L201_7
theorem v201_8 : wpS P L201_8 T L (rdy h) K = wpS P (⟨.mov (.t 0), (some 10), none, []⟩ :: ⟨.mov (.t 3), (some 11), none, []⟩ :: L201_7) T L (rdy h) K := rfl
def L201_9 : List AStep := [⟨.mov (.c (.bool false)), (some 2), none, []⟩]
theorem v201_9 : wpS P L201_9 T L (rdy h) K = wpS P ([⟨.mov (.c (.bool false)), (some 2), none, []⟩]) T L (rdy h) K := rfl
def L201_10 : List AStep := [⟨.mov (.t 9), (some 3), none, []⟩]
theorem v201_10 : wpS P L201_10 T L (rdy h) K = wpS P ([⟨.mov (.t 9), (some 3), none, []⟩]) T L (rdy h) K := rfl
def L201_11 : List AStep := ⟨.mov (.t 3), (some 8), none, []⟩ :: ⟨.bin .add (.t 8) (.c (.int .i64 1)), (some 9), none, []⟩ :: L201_10
theorem v201_11 : wpS P L201_11 T L (rdy h) K = wpS P (⟨.mov (.t 3), (some 8), none, []⟩ :: ⟨.bin .add (.t 8) (.c (.int .i64 1)), (some 9), none, []⟩ :: L201_10) T L (rdy h) K := rfl
def L201_12 : List AStep := [⟨.call 213 [(.t 21), (.c (.int .i64 1)), (.c (.int .i64 6))], (some 22), none, []⟩, ⟨.mov (.t 22), (some 2), none, []⟩]
theorem v201_12 : wpS P L201_12 T L (rdy h) K = wpS P ([⟨.call 213 [(.t 21), (.c (.int .i64 1)), (.c (.int .i64 6))], (some 22), none, []⟩, ⟨.mov (.t 22), (some 2), none, []⟩]) T L (rdy h) K := rfl
def L201_13 : List AStep := ⟨.mov (.t 0), (some 20), none, []⟩ :: ⟨.lenStr (.t 20), (some 21), none, []⟩ :: L201_12
theorem v201_13 : wpS P L201_13 T L (rdy h) K = wpS P (⟨.mov (.t 0), (some 20), none, []⟩ :: ⟨.lenStr (.t 20), (some 21), none, []⟩ :: L201_12) T L (rdy h) K := rfl
def C201_0 : ACode := .cond (.t 7) .skip (.exit 0)
theorem u201_0 : wpC P C201_0 T L (rdy h) Q = wpC P (.cond (.t 7) .skip (.exit 0)) T L (rdy h) Q := rfl
def C201_1 : ACode := .seq (.reg L201_3) C201_0
theorem u201_1 : wpC P C201_1 T L (rdy h) Q = wpC P (.seq (.reg L201_3) C201_0) T L (rdy h) Q := rfl
def C201_2 : ACode := .seq (.reg L201_9) .ret
theorem u201_2 : wpC P C201_2 T L (rdy h) Q = wpC P (.seq (.reg L201_9) .ret) T L (rdy h) Q := rfl
def C201_3 : ACode := .cond (.t 19) C201_2 .skip
theorem u201_3 : wpC P C201_3 T L (rdy h) Q = wpC P (.cond (.t 19) C201_2 .skip) T L (rdy h) Q := rfl
def C201_4 : ACode := .seq (.reg L201_8) C201_3
theorem u201_4 : wpC P C201_4 T L (rdy h) Q = wpC P (.seq (.reg L201_8) C201_3) T L (rdy h) Q := rfl
def C201_5 : ACode := .block 1 C201_4
theorem u201_5 : wpC P C201_5 T L (rdy h) Q = wpC P (.block 1 C201_4) T L (rdy h) Q := rfl
def C201_6 : ACode := .seq C201_5 (.reg L201_11)
theorem u201_6 : wpC P C201_6 T L (rdy h) Q = wpC P (.seq C201_5 (.reg L201_11)) T L (rdy h) Q := rfl
def C201_7 : ACode := .seq C201_1 C201_6
theorem u201_7 : wpC P C201_7 T L (rdy h) Q = wpC P (.seq C201_1 C201_6) T L (rdy h) Q := rfl
def C201_8 : ACode := .block 0 (.loop C201_7)
theorem u201_8 : wpC P C201_8 T L (rdy h) Q = wpC P (.block 0 (.loop C201_7)) T L (rdy h) Q := rfl
def C201_9 : ACode := .seq (.reg L201_1) C201_8
theorem u201_9 : wpC P C201_9 T L (rdy h) Q = wpC P (.seq (.reg L201_1) C201_8) T L (rdy h) Q := rfl
def C201_10 : ACode := .seq (.reg L201_13) .ret
theorem u201_10 : wpC P C201_10 T L (rdy h) Q = wpC P (.seq (.reg L201_13) .ret) T L (rdy h) Q := rfl
def C201_11 : ACode := .seq C201_9 C201_10
theorem u201_11 : wpC P C201_11 T L (rdy h) Q = wpC P (.seq C201_9 C201_10) T L (rdy h) Q := rfl
def C201_12 : ACode := .seq (.reg L201_0) C201_11
theorem u201_12 : wpC P C201_12 T L (rdy h) Q = wpC P (.seq (.reg L201_0) C201_11) T L (rdy h) Q := rfl
def F201 : AFunc := ⟨23, [.tmp 2], C201_12⟩
theorem cF201 : compB Try.prog 201 = some F201 := by kernel_rfl
end
attribute [local go_sem ↓] u201_0 u201_1 u201_2 u201_3 u201_4 u201_5 u201_6 u201_7 u201_8 u201_9 u201_10 u201_11 u201_12 v201_0 v201_1 v201_2 v201_3 v201_4 v201_5 v201_6 v201_7 v201_8 v201_9 v201_10 v201_11 v201_12 v201_13
theorem c_validName (s : ByteArray) (h : H) (hn : s.size < 2 ^ 62) : bm Try.prog 201 [.one (.str s)] h = some (ib (okName s), h) := by
  refine bm_eq cF201 ?_
  simp +contextual (maxSteps := 2000000) only [go_sem, Nat.reduceEqDiff, reduceCtorEq, Nat.reduceAdd, Nat.reduceLeDiff, F201]
  have hsz : s.data.toList.length = s.size := Array.length_toList
  refine wpC_loop (fun i T L h' => h' = h ∧ T 0 = .v (.one (.str s)) ∧ T 3 = .v (.one (.int .i64 i)) ∧ Pre isLow true s.data.toList i) s.size ?_ ?_ (Nat.zero_le _) ?_
  · rintro i T L h' hi ⟨rfl, h0, h3, hp⟩
    simp +contextual (maxSteps := 2000000) only [go_sem, Nat.reduceEqDiff, reduceCtorEq, Nat.reduceAdd, Nat.reduceLeDiff, h0, h3, idx_at hi, lt_true hi]
    have e : s.data.toList[i]'(by omega) = s.data[i]'hi := Array.getElem_toList _
    have bad : isLow (s.data[i]'hi) = false → okName s = false := fun hx => by
      unfold okName
      rw [all_stop (l := s.data.toList) (i := i) (by omega) (by rw [e]; exact hx)]
      rfl
    have low : isLow (s.data[i]'hi) = (!(decide ((↑(s.data[i]'hi).toNat : Int) < 97)) && !(decide ((↑(s.data[i]'hi).toNat : Int) > 122))) := by
      unfold isLow
      rw [Bool.eq_iff_iff]
      simp
      omega
    (repeat' (first | refine And.intro ?_ ?_ | intro _)) <;> first | rfl | rw [wrap_next hi hn] | exact hp.next (by omega) (by rw [e, low]; simp_all) | rw [bad (by rw [low]; simp_all)]
  · rintro T L h' ⟨rfl, h0, h3, hp⟩
    rw [← hsz] at hp
    simp +contextual (maxSteps := 2000000) only [go_sem, Nat.reduceEqDiff, reduceCtorEq, Nat.reduceAdd, Nat.reduceLeDiff, h0, h3, lt_false, c_inRange, okName, hp.all, Bool.true_and]
  · simp +contextual (maxSteps := 2000000) only [go_sem, Nat.reduceEqDiff, reduceCtorEq, Nat.reduceAdd, Nat.reduceLeDiff]
    (repeat' (first | refine And.intro ?_ ?_ | intro _)) <;> first | rfl | exact Pre.zero
section
variable {P : Program} {T : Tb} {L : Lb} {h : H} {Q : PostC} {K : Post}
/-! spec.byPlace -/
def L177_0 : List AStep := [⟨.box 108 (.t 0), (some 1), none, []⟩, ⟨.mov (.c (.bool false)), (some 2), none, []⟩]
theorem v177_0 : wpS P L177_0 T L (rdy h) K = wpS P ([⟨.box 108 (.t 0), (some 1), none, []⟩, ⟨.mov (.c (.bool false)), (some 2), none, []⟩]) T L (rdy h) K := rfl
def L177_1 : List AStep := [⟨.mov (.t 10), (some 2), none, []⟩]
theorem v177_1 : wpS P L177_1 T L (rdy h) K = wpS P ([⟨.mov (.t 10), (some 2), none, []⟩]) T L (rdy h) K := rfl
def L177_2 : List AStep := ⟨.bin .eql (.t 8) (.c (.int .i64 1)), (some 9), (some (6, false)), []⟩ :: ⟨.pick (.t 6) (.c (.bool true)) (.t 9), (some 10), none, []⟩ :: L177_1
theorem v177_2 : wpS P L177_2 T L (rdy h) K = wpS P (⟨.bin .eql (.t 8) (.c (.int .i64 1)), (some 9), (some (6, false)), []⟩ :: ⟨.pick (.t 6) (.c (.bool true)) (.t 9), (some 10), none, []⟩ :: L177_1) T L (rdy h) K := rfl
def L177_3 : List AStep := ⟨.faddr 1 (.t 1), (some 7), (some (6, false)), []⟩ :: ⟨.load 1 false (.t 7), (some 8), (some (6, false)), []⟩ :: L177_2
theorem v177_3 : wpS P L177_3 T L (rdy h) K = wpS P (⟨.faddr 1 (.t 1), (some 7), (some (6, false)), []⟩ :: ⟨.load 1 false (.t 7), (some 8), (some (6, false)), []⟩ :: L177_2) T L (rdy h) K := rfl
def L177_4 : List AStep := ⟨.bin .eql (.t 4) (.c (.int .i64 0)), (some 5), none, []⟩ :: ⟨.mov (.t 5), (some 6), none, []⟩ :: L177_3
theorem v177_4 : wpS P L177_4 T L (rdy h) K = wpS P (⟨.bin .eql (.t 4) (.c (.int .i64 0)), (some 5), none, []⟩ :: ⟨.mov (.t 5), (some 6), none, []⟩ :: L177_3) T L (rdy h) K := rfl
def L177_5 : List AStep := ⟨.faddr 1 (.t 1), (some 3), none, []⟩ :: ⟨.load 1 false (.t 3), (some 4), none, []⟩ :: L177_4
theorem v177_5 : wpS P L177_5 T L (rdy h) K = wpS P (⟨.faddr 1 (.t 1), (some 3), none, []⟩ :: ⟨.load 1 false (.t 3), (some 4), none, []⟩ :: L177_4) T L (rdy h) K := rfl
def C177_0 : ACode := .seq (.reg L177_5) .ret
theorem u177_0 : wpC P C177_0 T L (rdy h) Q = wpC P (.seq (.reg L177_5) .ret) T L (rdy h) Q := rfl
def C177_1 : ACode := .seq (.reg L177_0) C177_0
theorem u177_1 : wpC P C177_1 T L (rdy h) Q = wpC P (.seq (.reg L177_0) C177_0) T L (rdy h) Q := rfl
def F177 : AFunc := ⟨11, [.tmp 2], C177_1⟩
theorem cF177 : compB Try.prog 177 = some F177 := by kernel_rfl
end
attribute [local go_sem ↓] u177_0 u177_1 v177_0 v177_1 v177_2 v177_3 v177_4 v177_5
theorem c_byPlace (p : Param) (h : H) : bm Try.prog 177 [.agg (encQ p)] h = some (ib (byPlace p), h) := by
  refine bm_eq cF177 ?_
  simp +contextual (maxSteps := 2000000) only [go_sem, Nat.reduceEqDiff, reduceCtorEq, Nat.reduceAdd, Nat.reduceLeDiff, F177, byPlace]
  cases decide (p.kind = 0) <;> simp
section
variable {P : Program} {T : Tb} {L : Lb} {h : H} {Q : PostC} {K : Post}
/-! spec.byName -/
def L227_0 : List AStep := [⟨.box 108 (.t 0), (some 1), none, []⟩, ⟨.mov (.c (.bool false)), (some 2), none, []⟩]
theorem v227_0 : wpS P L227_0 T L (rdy h) K = wpS P ([⟨.box 108 (.t 0), (some 1), none, []⟩, ⟨.mov (.c (.bool false)), (some 2), none, []⟩]) T L (rdy h) K := rfl
def L227_1 : List AStep := [⟨.mov (.t 10), (some 2), none, []⟩]
theorem v227_1 : wpS P L227_1 T L (rdy h) K = wpS P ([⟨.mov (.t 10), (some 2), none, []⟩]) T L (rdy h) K := rfl
def L227_2 : List AStep := ⟨.bin .eql (.t 8) (.c (.int .i64 3)), (some 9), (some (6, false)), []⟩ :: ⟨.pick (.t 6) (.c (.bool true)) (.t 9), (some 10), none, []⟩ :: L227_1
theorem v227_2 : wpS P L227_2 T L (rdy h) K = wpS P (⟨.bin .eql (.t 8) (.c (.int .i64 3)), (some 9), (some (6, false)), []⟩ :: ⟨.pick (.t 6) (.c (.bool true)) (.t 9), (some 10), none, []⟩ :: L227_1) T L (rdy h) K := rfl
def L227_3 : List AStep := ⟨.faddr 1 (.t 1), (some 7), (some (6, false)), []⟩ :: ⟨.load 1 false (.t 7), (some 8), (some (6, false)), []⟩ :: L227_2
theorem v227_3 : wpS P L227_3 T L (rdy h) K = wpS P (⟨.faddr 1 (.t 1), (some 7), (some (6, false)), []⟩ :: ⟨.load 1 false (.t 7), (some 8), (some (6, false)), []⟩ :: L227_2) T L (rdy h) K := rfl
def L227_4 : List AStep := ⟨.bin .eql (.t 4) (.c (.int .i64 1)), (some 5), none, []⟩ :: ⟨.mov (.t 5), (some 6), none, []⟩ :: L227_3
theorem v227_4 : wpS P L227_4 T L (rdy h) K = wpS P (⟨.bin .eql (.t 4) (.c (.int .i64 1)), (some 5), none, []⟩ :: ⟨.mov (.t 5), (some 6), none, []⟩ :: L227_3) T L (rdy h) K := rfl
def L227_5 : List AStep := ⟨.faddr 1 (.t 1), (some 3), none, []⟩ :: ⟨.load 1 false (.t 3), (some 4), none, []⟩ :: L227_4
theorem v227_5 : wpS P L227_5 T L (rdy h) K = wpS P (⟨.faddr 1 (.t 1), (some 3), none, []⟩ :: ⟨.load 1 false (.t 3), (some 4), none, []⟩ :: L227_4) T L (rdy h) K := rfl
def C227_0 : ACode := .seq (.reg L227_5) .ret
theorem u227_0 : wpC P C227_0 T L (rdy h) Q = wpC P (.seq (.reg L227_5) .ret) T L (rdy h) Q := rfl
def C227_1 : ACode := .seq (.reg L227_0) C227_0
theorem u227_1 : wpC P C227_1 T L (rdy h) Q = wpC P (.seq (.reg L227_0) C227_0) T L (rdy h) Q := rfl
def F227 : AFunc := ⟨11, [.tmp 2], C227_1⟩
theorem cF227 : compB Try.prog 227 = some F227 := by kernel_rfl
end
attribute [local go_sem ↓] u227_0 u227_1 v227_0 v227_1 v227_2 v227_3 v227_4 v227_5
theorem c_byName (p : Param) (h : H) : bm Try.prog 227 [.agg (encQ p)] h = some (ib (byName p), h) := by
  refine bm_eq cF227 ?_
  simp +contextual (maxSteps := 2000000) only [go_sem, Nat.reduceEqDiff, reduceCtorEq, Nat.reduceAdd, Nat.reduceLeDiff, F227, byName]
  cases decide (p.kind = 1) <;> simp
section
variable {P : Program} {T : Tb} {L : Lb} {h : H} {Q : PostC} {K : Post}
/-! spec.isSingle -/
def L214_0 : List AStep := [⟨.box 108 (.t 0), (some 1), none, []⟩, ⟨.mov (.c (.bool false)), (some 2), none, []⟩]
theorem v214_0 : wpS P L214_0 T L (rdy h) K = wpS P ([⟨.box 108 (.t 0), (some 1), none, []⟩, ⟨.mov (.c (.bool false)), (some 2), none, []⟩]) T L (rdy h) K := rfl
def L214_1 : List AStep := [⟨.mov (.t 8), (some 2), none, []⟩]
theorem v214_1 : wpS P L214_1 T L (rdy h) K = wpS P ([⟨.mov (.t 8), (some 2), none, []⟩]) T L (rdy h) K := rfl
def L214_2 : List AStep := ⟨.call 227 [(.t 6)], (some 7), (some (5, false)), []⟩ :: ⟨.pick (.t 5) (.c (.bool true)) (.t 7), (some 8), none, []⟩ :: L214_1
theorem v214_2 : wpS P L214_2 T L (rdy h) K = wpS P (⟨.call 227 [(.t 6)], (some 7), (some (5, false)), []⟩ :: ⟨.pick (.t 5) (.c (.bool true)) (.t 7), (some 8), none, []⟩ :: L214_1) T L (rdy h) K := rfl
def L214_3 : List AStep := ⟨.mov (.t 4), (some 5), none, []⟩ :: ⟨.load 4 true (.t 1), (some 6), (some (5, false)), []⟩ :: L214_2
theorem v214_3 : wpS P L214_3 T L (rdy h) K = wpS P (⟨.mov (.t 4), (some 5), none, []⟩ :: ⟨.load 4 true (.t 1), (some 6), (some (5, false)), []⟩ :: L214_2) T L (rdy h) K := rfl
def L214_4 : List AStep := ⟨.load 4 true (.t 1), (some 3), none, []⟩ :: ⟨.call 177 [(.t 3)], (some 4), none, []⟩ :: L214_3
theorem v214_4 : wpS P L214_4 T L (rdy h) K = wpS P (⟨.load 4 true (.t 1), (some 3), none, []⟩ :: ⟨.call 177 [(.t 3)], (some 4), none, []⟩ :: L214_3) T L (rdy h) K := rfl
def C214_0 : ACode := .seq (.reg L214_4) .ret
theorem u214_0 : wpC P C214_0 T L (rdy h) Q = wpC P (.seq (.reg L214_4) .ret) T L (rdy h) Q := rfl
def C214_1 : ACode := .seq (.reg L214_0) C214_0
theorem u214_1 : wpC P C214_1 T L (rdy h) Q = wpC P (.seq (.reg L214_0) C214_0) T L (rdy h) Q := rfl
def F214 : AFunc := ⟨9, [.tmp 2], C214_1⟩
theorem cF214 : compB Try.prog 214 = some F214 := by kernel_rfl
end
attribute [local go_sem ↓] u214_0 u214_1 v214_0 v214_1 v214_2 v214_3 v214_4
theorem c_isSingle (p : Param) (h : H) : bm Try.prog 214 [.agg (encQ p)] h = some (ib (single p), h) := by
  refine bm_eq cF214 ?_
  simp +contextual (maxSteps := 2000000) only [go_sem, Nat.reduceEqDiff, reduceCtorEq, Nat.reduceAdd, Nat.reduceLeDiff, F214, c_byPlace, c_byName, single]
  cases byPlace p <;> simp
end Go.Proofs.Ytnphlonhogcedaa.Am
