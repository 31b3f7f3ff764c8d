/- Contracts of the program: numbers, names, pairs, flat calls and signatures that are valid. -/
import Derived.Test.YtoeceafibmafpaaDoorDat
namespace Go.Proofs.YtoeceafibmafpaaDoor.Am
open Go
set_option maxRecDepth 100000
set_option maxHeartbeats 4000000
set_option linter.unusedSimpArgs false
set_option linter.unusedVariables false
attribute [local go_sem ↓] bv_t bv_c ev_t ev_c put_same put_ne put_none kill_at pro_at lb_same lb_ne start_zero start_succ wpC_seq wpC_reg wpC_cond wpC_block wpC_skip wpC_exit wpC_ret thenQ_normal thenQ_exit thenQ_ret inBlk_normal inBlk_exit inBlk_ret wpS_nil wpS_step wpS_again wpS_guard wpO_mov wpO_load wpO_faddr wpO_nilCheck wpO_pick wpO_build wpO_bin wpO_eqb wpO_eqst wpO_eqnil wpO_not wpO_conv wpO_bytesStr wpO_iaddr wpO_idxStr wpO_field wpO_extract wpO_len wpO_lenStr wpO_cap wpO_min wpO_slice wpO_sliceStr wpO_alloc wpO_box wpO_store wpO_call wpO_callv wpO_mkfn wpO_buildSlice wpO_mkslice wpO_append wpO_appz proA_nil proA_cons tmpX_nil tmpX_tmp tmpX_cell doneB_normal doneB_ret agK_cons agK_nil agK_guard agG_tt agG_ff agG_tf agG_ft agG_undef pureB_load results_one results_two results_nil resBs_cons resBs_nil resB_tmp resB_cell
attribute [local go_sem] kill_v kill_lp_ne kill_lp_same pro_v pro_lp_same pro_lp_ne av_v av_lp optB_some optX_some valX_eq ldX_lp ldX_v faX_lp faX_v ncX_lp ncX_ptr ncX_fn boxK_one boxK_agg stL_some stK_lp_one stK_lp_agg stK_v_one stK_v_agg proM_v proM_lp callG_mk callVG_mk callvK_fn fnG_mk ptrsA_nil ptrsA_cons callH_some whenA_true whenA_false guardH_tt guardH_ff guardH_tf guardH_ft guardH_undef agV_one agV_agg lenO_sl lenStrO_str notO_bool pickO_bool convO_int eqbO_bool eqnilO_sl extractO_tup capO_sl minO_int loadL_one loadL_all storeL_eq fillA_nil fillA_one fillA_agg nat_ge neg_ge nat_lt neg_lt buildO bin_add bin_sub bin_mul bin_eql bin_neq bin_lss bin_leq bin_gtr bin_geq str_eql str_neq str_lss str_leq str_gtr str_geq retK_some endK_mk gcK_same gcK_int gcK_bool tupO_one tupO_agg rdy_self ib ii Option.map_none Option.map_some Option.some.injEq exists_eq_left' exists_eq_left ne_eq not_false_eq_true if_true if_false List.map_cons List.map_nil List.getElem?_cons_zero List.getElem?_cons_succ List.length_cons List.length_nil List.take_succ_cons List.take_zero List.take_nil List.drop_succ_cons List.drop_zero List.drop_nil List.cons_append List.nil_append List.append_nil List.set_cons_zero List.set_cons_succ Nat.zero_add forall_const true_and and_true and_self Bool.false_eq_true false_implies true_implies implies_true Bool.not_true Bool.not_false Bool.not_eq_true' Bool.not_eq_false' beq_self_eq_true Bool.bne_true Bool.bne_false
attribute [local go_sem] lenI lenS lenP lenQ lenB lenL lenT encI_0 encS_0 encP_0 encP_1 encQ_0 encQ_1 encQ_2 encQ_3 encB_0 encB_1 encL_0 encL_1 encT_0 encT_1
attribute [local go_sem low] whenA_bool guardH_bool
/-! impl.in -/
def L69_0 : List AStep := [⟨.mov (.c (.bool false)), (some 6), none, []⟩]
theorem v69_0 : VS L69_0.eq_1 := rfl
def L69_1 : List AStep := [⟨.mov (.t 14), (some 6), none, []⟩]
theorem v69_1 : VS L69_1.eq_1 := rfl
def L69_2 : List AStep := ⟨.bin .leq (.t 11) (.t 12), (some 13), (some (10, true)), []⟩ :: ⟨.pick (.t 10) (.t 13) (.c (.bool false)), (some 14), none, []⟩ :: L69_1
theorem v69_2 : VS L69_2.eq_1 := rfl
def L69_3 : List AStep := ⟨.mov (.t 0), (some 11), (some (10, true)), []⟩ :: ⟨.mov (.t 2), (some 12), (some (10, true)), []⟩ :: L69_2
theorem v69_3 : VS L69_3.eq_1 := rfl
def L69_4 : List AStep := ⟨.bin .geq (.t 7) (.t 8), (some 9), none, []⟩ :: ⟨.mov (.t 9), (some 10), none, []⟩ :: L69_3
theorem v69_4 : VS L69_4.eq_1 := rfl
def L69_5 : List AStep := ⟨.mov (.t 0), (some 7), none, []⟩ :: ⟨.mov (.t 1), (some 8), none, []⟩ :: L69_4
theorem v69_5 : VS L69_5.eq_1 := rfl
def C69_0 : ACode := .seq (.reg L69_5) .ret
theorem u69_0 : VC C69_0.eq_1 := rfl
def C69_1 : ACode := .seq (.reg L69_0) C69_0
theorem u69_1 : VC C69_1.eq_1 := rfl
def F69 : AFunc := ⟨15, [.tmp 6], C69_1⟩
theorem cF69 : compB Tryd.prog 69 = some F69 := by kernel_rfl
attribute [local go_sem ↓] u69_0 u69_1 v69_0 v69_1 v69_2 v69_3 v69_4 v69_5
theorem c_in (n lo hi : Int) (h : H) : bm Tryd.prog 69 [.one (.int .i64 n), .one (.int .i64 lo), .one (.int .i64 hi)] h = some (ib (decide (lo ≤ n) && decide (n ≤ hi)), h) := by
  refine bm_eq cF69 ?_
  simp +contextual (maxSteps := 2000000) only [go_sem, Nat.reduceEqDiff, reduceCtorEq, Nat.reduceAdd, Nat.reduceLeDiff, F69]
  (repeat' (first | refine And.intro ?_ ?_ | intro _)) <;> first | simp_all
/-! impl.isName -/
def L56_0 : List AStep := [⟨.mov (.c (.bool false)), (some 2), none, []⟩]
theorem v56_0 : VS L56_0.eq_1 := rfl
def L56_1 : List AStep := [⟨.mov (.c (.int .i64 0)), (some 3), none, []⟩]
theorem v56_1 : VS L56_1.eq_1 := rfl
def L56_2 : List AStep := [⟨.lenStr (.t 5), (some 6), none, []⟩, ⟨.bin .lss (.t 4) (.t 6), (some 7), none, []⟩]
theorem v56_2 : VS L56_2.eq_1 := rfl
def L56_3 : List AStep := ⟨.mov (.t 3), (some 4), none, []⟩ :: ⟨.mov (.t 0), (some 5), none, []⟩ :: L56_2
theorem v56_3 : VS L56_3.eq_1 := rfl
def L56_4 : List AStep := [⟨.bin .gtr (.t 17) (.c (.int .u8 122)), (some 18), (some (14, false)), []⟩, ⟨.pick (.t 14) (.c (.bool true)) (.t 18), (some 19), none, []⟩]
theorem v56_4 : VS L56_4.eq_1 := rfl
def L56_5 : List AStep := ⟨.mov (.t 3), (some 16), (some (14, false)), []⟩ :: ⟨.idxStr (.t 15) (.t 16), (some 17), (some (14, false)), []⟩ :: L56_4
theorem v56_5 : VS L56_5.eq_1 := rfl
def L56_6 : List AStep := ⟨.mov (.t 13), (some 14), none, []⟩ :: ⟨.mov (.t 0), (some 15), (some (14, false)), []⟩ :: L56_5
theorem v56_6 : VS L56_6.eq_1 := rfl
def L56_7 : List AStep := ⟨.idxStr (.t 10) (.t 11), (some 12), none, []⟩ :: ⟨.bin .lss (.t 12) (.c (.int .u8 97)), (some 13), none, []⟩ :: L56_6
theorem v56_7 : VS L56_7.eq_1 := rfl
def L56_8 : List AStep := ⟨.mov (.t 0), (some 10), none, []⟩ :: ⟨.mov (.t 3), (some 11), none, []⟩ :: L56_7
theorem v56_8 : VS L56_8.eq_1 := rfl
def L56_9 : List AStep := [⟨.mov (.c (.bool false)), (some 2), none, []⟩]
theorem v56_9 : VS L56_9.eq_1 := rfl
def L56_10 : List AStep := [⟨.mov (.t 9), (some 3), none, []⟩]
theorem v56_10 : VS L56_10.eq_1 := rfl
def L56_11 : List AStep := ⟨.mov (.t 3), (some 8), none, []⟩ :: ⟨.bin .add (.t 8) (.c (.int .i64 1)), (some 9), none, []⟩ :: L56_10
theorem v56_11 : VS L56_11.eq_1 := rfl
def L56_12 : List AStep := [⟨.call 69 [(.t 21), (.c (.int .i64 1)), (.c (.int .i64 6))], (some 22), none, []⟩, ⟨.mov (.t 22), (some 2), none, []⟩]
theorem v56_12 : VS L56_12.eq_1 := rfl
def L56_13 : List AStep := ⟨.mov (.t 0), (some 20), none, []⟩ :: ⟨.lenStr (.t 20), (some 21), none, []⟩ :: L56_12
theorem v56_13 : VS L56_13.eq_1 := rfl
def C56_0 : ACode := .cond (.t 7) .skip (.exit 0)
theorem u56_0 : VC C56_0.eq_1 := rfl
def C56_1 : ACode := .seq (.reg L56_3) C56_0
theorem u56_1 : VC C56_1.eq_1 := rfl
def C56_2 : ACode := .seq (.reg L56_9) .ret
theorem u56_2 : VC C56_2.eq_1 := rfl
def C56_3 : ACode := .cond (.t 19) C56_2 .skip
theorem u56_3 : VC C56_3.eq_1 := rfl
def C56_4 : ACode := .seq (.reg L56_8) C56_3
theorem u56_4 : VC C56_4.eq_1 := rfl
def C56_5 : ACode := .block 1 C56_4
theorem u56_5 : VC C56_5.eq_1 := rfl
def C56_6 : ACode := .seq C56_5 (.reg L56_11)
theorem u56_6 : VC C56_6.eq_1 := rfl
def C56_7 : ACode := .seq C56_1 C56_6
theorem u56_7 : VC C56_7.eq_1 := rfl
def C56_8 : ACode := .block 0 (.loop C56_7)
theorem u56_8 : VC C56_8.eq_1 := rfl
def C56_9 : ACode := .seq (.reg L56_1) C56_8
theorem u56_9 : VC C56_9.eq_1 := rfl
def C56_10 : ACode := .seq (.reg L56_13) .ret
theorem u56_10 : VC C56_10.eq_1 := rfl
def C56_11 : ACode := .seq C56_9 C56_10
theorem u56_11 : VC C56_11.eq_1 := rfl
def C56_12 : ACode := .seq (.reg L56_0) C56_11
theorem u56_12 : VC C56_12.eq_1 := rfl
def F56 : AFunc := ⟨23, [.tmp 2], C56_12⟩
theorem cF56 : compB Tryd.prog 56 = some F56 := by kernel_rfl
attribute [local go_sem ↓] u56_0 u56_1 u56_2 u56_3 u56_4 u56_5 u56_6 u56_7 u56_8 u56_9 u56_10 u56_11 u56_12 v56_0 v56_1 v56_2 v56_3 v56_4 v56_5 v56_6 v56_7 v56_8 v56_9 v56_10 v56_11 v56_12 v56_13
theorem c_isName (s : ByteArray) (h : H) (hn : s.size < 2 ^ 62) : bm Tryd.prog 56 [.one (.str s)] h = some (ib (okName s), h) := by
  refine bm_eq cF56 ?_
  simp +contextual (maxSteps := 2000000) only [go_sem, Nat.reduceEqDiff, reduceCtorEq, Nat.reduceAdd, Nat.reduceLeDiff, F56]
  have hsz : s.data.toList.length = s.size := Array.length_toList
  refine wpC_loop (fun i T L h' => h' = h ∧ T 0 = .v (.one (.str s)) ∧ T 3 = .v (.one (.int .i64 i)) ∧ Pre isLow true s.data.toList i) s.size ?_ ?_ (Nat.zero_le _) ?_
  · rintro i T L h' hi ⟨rfl, h0, h3, hp⟩
    simp +contextual (maxSteps := 2000000) only [go_sem, Nat.reduceEqDiff, reduceCtorEq, Nat.reduceAdd, Nat.reduceLeDiff, h0, h3, idx_at hi, lt_true hi]
    have e : s.data.toList[i]'(by omega) = s.data[i]'hi := Array.getElem_toList _
    have bad : isLow (s.data[i]'hi) = false → okName s = false := fun hx => by
      unfold okName
      rw [all_stop (l := s.data.toList) (i := i) (by omega) (by rw [e]; exact hx)]
      rfl
    have low : isLow (s.data[i]'hi) = (!(decide ((↑(s.data[i]'hi).toNat : Int) < 97)) && !(decide ((↑(s.data[i]'hi).toNat : Int) > 122))) := by
      unfold isLow
      rw [Bool.eq_iff_iff]
      simp
      omega
    (repeat' (first | refine And.intro ?_ ?_ | intro _)) <;> first | rfl | rw [wrap_next hi hn] | exact hp.next (by omega) (by rw [e, low]; simp_all) | rw [bad (by rw [low]; simp_all)]
  · rintro T L h' ⟨rfl, h0, h3, hp⟩
    rw [← hsz] at hp
    simp +contextual (maxSteps := 2000000) only [go_sem, Nat.reduceEqDiff, reduceCtorEq, Nat.reduceAdd, Nat.reduceLeDiff, h0, h3, lt_false, c_in, okName, hp.all, Bool.true_and]
  · simp +contextual (maxSteps := 2000000) only [go_sem, Nat.reduceEqDiff, reduceCtorEq, Nat.reduceAdd, Nat.reduceLeDiff]
    (repeat' (first | refine And.intro ?_ ?_ | intro _)) <;> first | rfl | exact Pre.zero
end Go.Proofs.YtoeceafibmafpaaDoor.Am
