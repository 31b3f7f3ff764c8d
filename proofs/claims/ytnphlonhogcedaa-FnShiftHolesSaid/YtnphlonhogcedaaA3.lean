/- Contracts of the program: numbers, names, pairs, flat calls and signatures that are valid. -/
import Derived.Test.YtnphlonhogcedaaDat
namespace Go.Proofs.Ytnphlonhogcedaa.Am
open Go
set_option maxRecDepth 100000
set_option maxHeartbeats 4000000
set_option linter.unusedSimpArgs false
set_option linter.unusedVariables false
attribute [local go_sem ↓] bv_t bv_c ev_t ev_c put_same put_ne put_none kill_at pro_at lb_same lb_ne start_zero start_succ wpC_seq wpC_reg wpC_cond wpC_block wpC_skip wpC_exit wpC_ret thenQ_normal thenQ_exit thenQ_ret inBlk_normal inBlk_exit inBlk_ret wpS_nil wpS_step wpS_again wpS_guard wpO_mov wpO_load wpO_faddr wpO_nilCheck wpO_pick wpO_build wpO_bin wpO_eqb wpO_eqst wpO_eqnil wpO_not wpO_conv wpO_bytesStr wpO_iaddr wpO_idxStr wpO_field wpO_extract wpO_len wpO_lenStr wpO_cap wpO_min wpO_slice wpO_sliceStr wpO_alloc wpO_box wpO_store wpO_call wpO_callv wpO_mkfn wpO_buildSlice wpO_mkslice wpO_append wpO_appz proA_nil proA_cons tmpX_nil tmpX_tmp tmpX_cell doneB_normal doneB_ret agK_cons agK_nil agK_guard agG_tt agG_ff agG_tf agG_ft agG_undef pureB_load results_one results_two results_nil resBs_cons resBs_nil resB_tmp resB_cell
attribute [local go_sem] kill_v kill_lp_ne kill_lp_same pro_v pro_lp_same pro_lp_ne av_v av_lp optB_some optX_some valX_eq ldX_lp ldX_v faX_lp faX_v ncX_lp ncX_ptr ncX_fn boxK_one boxK_agg stL_some stK_lp_one stK_lp_agg stK_v_one stK_v_agg proM_v proM_lp callG_mk callVG_mk callvK_fn fnG_mk ptrsA_nil ptrsA_cons callH_some whenA_true whenA_false guardH_tt guardH_ff guardH_tf guardH_ft guardH_undef agV_one agV_agg lenO_sl lenStrO_str notO_bool pickO_bool convO_int eqbO_bool eqnilO_sl extractO_tup capO_sl minO_int loadL_one loadL_all storeL_eq fillA_nil fillA_one fillA_agg nat_ge neg_ge nat_lt neg_lt buildO bin_add bin_sub bin_mul bin_eql bin_neq bin_lss bin_leq bin_gtr bin_geq str_eql str_neq str_lss str_leq str_gtr str_geq retK_some endK_mk gcK_same gcK_int gcK_bool tupO_one tupO_agg rdy_self ib ii Option.map_none Option.map_some Option.some.injEq exists_eq_left' exists_eq_left ne_eq not_false_eq_true if_true if_false List.map_cons List.map_nil List.getElem?_cons_zero List.getElem?_cons_succ List.length_cons List.length_nil List.take_succ_cons List.take_zero List.take_nil List.drop_succ_cons List.drop_zero List.drop_nil List.cons_append List.nil_append List.append_nil List.set_cons_zero List.set_cons_succ Nat.zero_add forall_const true_and and_true and_self Bool.false_eq_true false_implies true_implies implies_true Bool.not_true Bool.not_false Bool.not_eq_true' Bool.not_eq_false' beq_self_eq_true Bool.bne_true Bool.bne_false
attribute [local go_sem] lenI lenS lenP lenQ lenB lenL lenT encI_0 encS_0 encP_0 encP_1 encQ_0 encQ_1 encQ_2 encQ_3 encB_0 encB_1 encL_0 encL_1 encT_0 encT_1
attribute [local go_sem low] whenA_bool guardH_bool
/-! impl.in -/
def L171_0 : List AStep := [⟨.mov (.c (.bool false)), (some 6), none, []⟩]
theorem v171_0 : VS L171_0.eq_1 := rfl
def L171_1 : List AStep := [⟨.mov (.t 14), (some 6), none, []⟩]
theorem v171_1 : VS L171_1.eq_1 := rfl
def L171_2 : List AStep := ⟨.bin .leq (.t 11) (.t 12), (some 13), (some (10, true)), []⟩ :: ⟨.pick (.t 10) (.t 13) (.c (.bool false)), (some 14), none, []⟩ :: L171_1
theorem v171_2 : VS L171_2.eq_1 := rfl
def L171_3 : List AStep := ⟨.mov (.t 0), (some 11), (some (10, true)), []⟩ :: ⟨.mov (.t 2), (some 12), (some (10, true)), []⟩ :: L171_2
theorem v171_3 : VS L171_3.eq_1 := rfl
def L171_4 : List AStep := ⟨.bin .geq (.t 7) (.t 8), (some 9), none, []⟩ :: ⟨.mov (.t 9), (some 10), none, []⟩ :: L171_3
theorem v171_4 : VS L171_4.eq_1 := rfl
def L171_5 : List AStep := ⟨.mov (.t 0), (some 7), none, []⟩ :: ⟨.mov (.t 1), (some 8), none, []⟩ :: L171_4
theorem v171_5 : VS L171_5.eq_1 := rfl
def C171_0 : ACode := .seq (.reg L171_5) .ret
theorem u171_0 : VC C171_0.eq_1 := rfl
def C171_1 : ACode := .seq (.reg L171_0) C171_0
theorem u171_1 : VC C171_1.eq_1 := rfl
def F171 : AFunc := ⟨15, [.tmp 6], C171_1⟩
theorem cF171 : compB Try.prog 171 = some F171 := by kernel_rfl
attribute [local go_sem ↓] u171_0 u171_1 v171_0 v171_1 v171_2 v171_3 v171_4 v171_5
theorem c_in (n lo hi : Int) (h : H) : bm Try.prog 171 [.one (.int .i64 n), .one (.int .i64 lo), .one (.int .i64 hi)] h = some (ib (decide (lo ≤ n) && decide (n ≤ hi)), h) := by
  refine bm_eq cF171 ?_
  simp +contextual (maxSteps := 2000000) only [go_sem, Nat.reduceEqDiff, reduceCtorEq, Nat.reduceAdd, Nat.reduceLeDiff, F171]
  (repeat' (first | refine And.intro ?_ ?_ | intro _)) <;> first | simp_all
/-! impl.isValue -/
def L163_0 : List AStep := [⟨.mov (.c (.bool false)), (some 2), none, []⟩]
theorem v163_0 : VS L163_0.eq_1 := rfl
def L163_1 : List AStep := [⟨.mov (.t 4), (some 2), none, []⟩]
theorem v163_1 : VS L163_1.eq_1 := rfl
def L163_2 : List AStep := ⟨.mov (.t 0), (some 3), none, []⟩ :: ⟨.call 171 [(.t 3), (.c (.int .i64 (-99))), (.c (.int .i64 99))], (some 4), none, []⟩ :: L163_1
theorem v163_2 : VS L163_2.eq_1 := rfl
def C163_0 : ACode := .seq (.reg L163_2) .ret
theorem u163_0 : VC C163_0.eq_1 := rfl
def C163_1 : ACode := .seq (.reg L163_0) C163_0
theorem u163_1 : VC C163_1.eq_1 := rfl
def F163 : AFunc := ⟨5, [.tmp 2], C163_1⟩
theorem cF163 : compB Try.prog 163 = some F163 := by kernel_rfl
attribute [local go_sem ↓] u163_0 u163_1 v163_0 v163_1 v163_2
theorem c_isValue (n : Int) (h : H) : bm Try.prog 163 [.one (.int .i64 n)] h = some (ib (okNum n), h) := by
  refine bm_eq cF163 ?_
  simp +contextual (maxSteps := 2000000) only [go_sem, Nat.reduceEqDiff, reduceCtorEq, Nat.reduceAdd, Nat.reduceLeDiff, F163, c_in, okNum]
/-! impl.isName -/
def L147_0 : List AStep := [⟨.mov (.c (.bool false)), (some 2), none, []⟩]
theorem v147_0 : VS L147_0.eq_1 := rfl
def L147_1 : List AStep := [⟨.mov (.c (.int .i64 0)), (some 3), none, []⟩]
theorem v147_1 : VS L147_1.eq_1 := rfl
def L147_2 : List AStep := [⟨.lenStr (.t 5), (some 6), none, []⟩, ⟨.bin .lss (.t 4) (.t 6), (some 7), none, []⟩]
theorem v147_2 : VS L147_2.eq_1 := rfl
def L147_3 : List AStep := ⟨.mov (.t 3), (some 4), none, []⟩ :: ⟨.mov (.t 0), (some 5), none, []⟩ :: L147_2
theorem v147_3 : VS L147_3.eq_1 := rfl
def L147_4 : List AStep := [⟨.bin .gtr (.t 17) (.c (.int .u8 122)), (some 18), (some (14, false)), []⟩, ⟨.pick (.t 14) (.c (.bool true)) (.t 18), (some 19), none, []⟩]
theorem v147_4 : VS L147_4.eq_1 := rfl
def L147_5 : List AStep := ⟨.mov (.t 3), (some 16), (some (14, false)), []⟩ :: ⟨.idxStr (.t 15) (.t 16), (some 17), (some (14, false)), []⟩ :: L147_4
theorem v147_5 : VS L147_5.eq_1 := rfl
def L147_6 : List AStep := ⟨.mov (.t 13), (some 14), none, []⟩ :: ⟨.mov (.t 0), (some 15), (some (14, false)), []⟩ :: L147_5
theorem v147_6 : VS L147_6.eq_1 := rfl
def L147_7 : List AStep := ⟨.idxStr (.t 10) (.t 11), (some 12), none, []⟩ :: ⟨.bin .lss (.t 12) (.c (.int .u8 97)), (some 13), none, []⟩ :: L147_6
theorem v147_7 : VS L147_7.eq_1 := rfl
def L147_8 : List AStep := ⟨.mov (.t 0), (some 10), none, []⟩ :: ⟨.mov (.t 3), (some 11), none, []⟩ :: L147_7
theorem v147_8 : VS L147_8.eq_1 := rfl
def L147_9 : List AStep := [⟨.mov (.c (.bool false)), (some 2), none, []⟩]
theorem v147_9 : VS L147_9.eq_1 := rfl
def L147_10 : List AStep := [⟨.mov (.t 9), (some 3), none, []⟩]
theorem v147_10 : VS L147_10.eq_1 := rfl
def L147_11 : List AStep := ⟨.mov (.t 3), (some 8), none, []⟩ :: ⟨.bin .add (.t 8) (.c (.int .i64 1)), (some 9), none, []⟩ :: L147_10
theorem v147_11 : VS L147_11.eq_1 := rfl
def L147_12 : List AStep := [⟨.call 171 [(.t 21), (.c (.int .i64 1)), (.c (.int .i64 6))], (some 22), none, []⟩, ⟨.mov (.t 22), (some 2), none, []⟩]
theorem v147_12 : VS L147_12.eq_1 := rfl
def L147_13 : List AStep := ⟨.mov (.t 0), (some 20), none, []⟩ :: ⟨.lenStr (.t 20), (some 21), none, []⟩ :: L147_12
theorem v147_13 : VS L147_13.eq_1 := rfl
def C147_0 : ACode := .cond (.t 7) .skip (.exit 0)
theorem u147_0 : VC C147_0.eq_1 := rfl
def C147_1 : ACode := .seq (.reg L147_3) C147_0
theorem u147_1 : VC C147_1.eq_1 := rfl
def C147_2 : ACode := .seq (.reg L147_9) .ret
theorem u147_2 : VC C147_2.eq_1 := rfl
def C147_3 : ACode := .cond (.t 19) C147_2 .skip
theorem u147_3 : VC C147_3.eq_1 := rfl
def C147_4 : ACode := .seq (.reg L147_8) C147_3
theorem u147_4 : VC C147_4.eq_1 := rfl
def C147_5 : ACode := .block 1 C147_4
theorem u147_5 : VC C147_5.eq_1 := rfl
def C147_6 : ACode := .seq C147_5 (.reg L147_11)
theorem u147_6 : VC C147_6.eq_1 := rfl
def C147_7 : ACode := .seq C147_1 C147_6
theorem u147_7 : VC C147_7.eq_1 := rfl
def C147_8 : ACode := .block 0 (.loop C147_7)
theorem u147_8 : VC C147_8.eq_1 := rfl
def C147_9 : ACode := .seq (.reg L147_1) C147_8
theorem u147_9 : VC C147_9.eq_1 := rfl
def C147_10 : ACode := .seq (.reg L147_13) .ret
theorem u147_10 : VC C147_10.eq_1 := rfl
def C147_11 : ACode := .seq C147_9 C147_10
theorem u147_11 : VC C147_11.eq_1 := rfl
def C147_12 : ACode := .seq (.reg L147_0) C147_11
theorem u147_12 : VC C147_12.eq_1 := rfl
def F147 : AFunc := ⟨23, [.tmp 2], C147_12⟩
theorem cF147 : compB Try.prog 147 = some F147 := by kernel_rfl
attribute [local go_sem ↓] u147_0 u147_1 u147_2 u147_3 u147_4 u147_5 u147_6 u147_7 u147_8 u147_9 u147_10 u147_11 u147_12 v147_0 v147_1 v147_2 v147_3 v147_4 v147_5 v147_6 v147_7 v147_8 v147_9 v147_10 v147_11 v147_12 v147_13
theorem c_isName (s : ByteArray) (h : H) (hn : s.size < 2 ^ 62) : bm Try.prog 147 [.one (.str s)] h = some (ib (okName s), h) := by
  refine bm_eq cF147 ?_
  simp +contextual (maxSteps := 2000000) only [go_sem, Nat.reduceEqDiff, reduceCtorEq, Nat.reduceAdd, Nat.reduceLeDiff, F147]
  have hsz : s.data.toList.length = s.size := Array.length_toList
  refine wpC_loop (fun i T L h' => h' = h ∧ T 0 = .v (.one (.str s)) ∧ T 3 = .v (.one (.int .i64 i)) ∧ Pre isLow true s.data.toList i) s.size ?_ ?_ (Nat.zero_le _) ?_
  · rintro i T L h' hi ⟨rfl, h0, h3, hp⟩
    simp +contextual (maxSteps := 2000000) only [go_sem, Nat.reduceEqDiff, reduceCtorEq, Nat.reduceAdd, Nat.reduceLeDiff, h0, h3, idx_at hi, lt_true hi]
    have e : s.data.toList[i]'(by omega) = s.data[i]'hi := Array.getElem_toList _
    have bad : isLow (s.data[i]'hi) = false → okName s = false := fun hx => by
      unfold okName
      rw [all_stop (l := s.data.toList) (i := i) (by omega) (by rw [e]; exact hx)]
      rfl
    have low : isLow (s.data[i]'hi) = (!(decide ((↑(s.data[i]'hi).toNat : Int) < 97)) && !(decide ((↑(s.data[i]'hi).toNat : Int) > 122))) := by
      unfold isLow
      rw [Bool.eq_iff_iff]
      simp
      omega
    (repeat' (first | refine And.intro ?_ ?_ | intro _)) <;> first | rfl | rw [wrap_next hi hn] | exact hp.next (by omega) (by rw [e, low]; simp_all) | rw [bad (by rw [low]; simp_all)]
  · rintro T L h' ⟨rfl, h0, h3, hp⟩
    rw [← hsz] at hp
    simp +contextual (maxSteps := 2000000) only [go_sem, Nat.reduceEqDiff, reduceCtorEq, Nat.reduceAdd, Nat.reduceLeDiff, h0, h3, lt_false, c_in, okName, hp.all, Bool.true_and]
  · simp +contextual (maxSteps := 2000000) only [go_sem, Nat.reduceEqDiff, reduceCtorEq, Nat.reduceAdd, Nat.reduceLeDiff]
    (repeat' (first | refine And.intro ?_ ?_ | intro _)) <;> first | rfl | exact Pre.zero
/-! (impl.Pair).valid -/
def L135_0 : List AStep := [⟨.box 86 (.t 0), (some 1), none, []⟩, ⟨.mov (.c (.bool false)), (some 2), none, []⟩]
theorem v135_0 : VS L135_0.eq_1 := rfl
def L135_1 : List AStep := [⟨.mov (.t 10), (some 2), none, []⟩]
theorem v135_1 : VS L135_1.eq_1 := rfl
def L135_2 : List AStep := ⟨.call 163 [(.t 8)], (some 9), (some (6, true)), []⟩ :: ⟨.pick (.t 6) (.t 9) (.c (.bool false)), (some 10), none, []⟩ :: L135_1
theorem v135_2 : VS L135_2.eq_1 := rfl
def L135_3 : List AStep := ⟨.faddr 1 (.t 1), (some 7), (some (6, true)), []⟩ :: ⟨.load 1 false (.t 7), (some 8), (some (6, true)), []⟩ :: L135_2
theorem v135_3 : VS L135_3.eq_1 := rfl
def L135_4 : List AStep := ⟨.call 147 [(.t 4)], (some 5), none, []⟩ :: ⟨.mov (.t 5), (some 6), none, []⟩ :: L135_3
theorem v135_4 : VS L135_4.eq_1 := rfl
def L135_5 : List AStep := ⟨.faddr 0 (.t 1), (some 3), none, []⟩ :: ⟨.load 1 false (.t 3), (some 4), none, []⟩ :: L135_4
theorem v135_5 : VS L135_5.eq_1 := rfl
def C135_0 : ACode := .seq (.reg L135_5) .ret
theorem u135_0 : VC C135_0.eq_1 := rfl
def C135_1 : ACode := .seq (.reg L135_0) C135_0
theorem u135_1 : VC C135_1.eq_1 := rfl
def F135 : AFunc := ⟨11, [.tmp 2], C135_1⟩
theorem cF135 : compB Try.prog 135 = some F135 := by kernel_rfl
attribute [local go_sem ↓] u135_0 u135_1 v135_0 v135_1 v135_2 v135_3 v135_4 v135_5
theorem c_okPair (p : Pair) (h : H) (hn : p.name.size < 2 ^ 62) : bm Try.prog 135 [.agg (encP p)] h = some (ib (okPair p), h) := by
  refine bm_eq cF135 ?_
  simp +contextual (maxSteps := 2000000) only [go_sem, Nat.reduceEqDiff, reduceCtorEq, Nat.reduceAdd, Nat.reduceLeDiff, F135, c_isName _ _ hn, c_isValue, okPair]
  (repeat' (first | refine And.intro ?_ ?_ | intro _)) <;> first | simp_all
/-! slices.IndexFunc(()impl.Pair,impl.Pair) -/
def L179_0 : List AStep := [⟨.mov (.c (.int .i64 0)), (some 4), none, []⟩]
theorem v179_0 : VS L179_0.eq_1 := rfl
def L179_1 : List AStep := [⟨.mov (.c (.int .i64 0)), (some 8), none, []⟩]
theorem v179_1 : VS L179_1.eq_1 := rfl
def L179_2 : List AStep := ⟨.mov (.t 0), (some 6), none, []⟩ :: ⟨.len (.t 6), (some 7), none, []⟩ :: L179_1
theorem v179_2 : VS L179_2.eq_1 := rfl
def L179_3 : List AStep := [⟨.bin .lss (.t 8) (.t 7), (some 9), none, []⟩]
theorem v179_3 : VS L179_3.eq_1 := rfl
def L179_4 : List AStep := [⟨.mov (.t 8), (some 10), none, []⟩, ⟨.mov (.t 10), (some 5), none, []⟩]
theorem v179_4 : VS L179_4.eq_1 := rfl
def L179_5 : List AStep := [⟨.load 2 true (.t 14), (some 15), none, []⟩, ⟨.callv (.t 11) [(.t 15)], (some 16), none, []⟩]
theorem v179_5 : VS L179_5.eq_1 := rfl
def L179_6 : List AStep := ⟨.mov (.t 5), (some 13), none, []⟩ :: ⟨.iaddr 2 (.t 12) (.t 13), (some 14), none, []⟩ :: L179_5
theorem v179_6 : VS L179_6.eq_1 := rfl
def L179_7 : List AStep := ⟨.mov (.t 1), (some 11), none, []⟩ :: ⟨.mov (.t 0), (some 12), none, []⟩ :: L179_6
theorem v179_7 : VS L179_7.eq_1 := rfl
def L179_8 : List AStep := [⟨.mov (.t 5), (some 17), none, []⟩, ⟨.mov (.t 17), (some 4), none, []⟩]
theorem v179_8 : VS L179_8.eq_1 := rfl
def L179_9 : List AStep := [⟨.bin .add (.t 8) (.c (.int .i64 1)), (some 18), none, []⟩, ⟨.mov (.t 18), (some 8), none, []⟩]
theorem v179_9 : VS L179_9.eq_1 := rfl
def L179_10 : List AStep := [⟨.mov (.c (.int .i64 (-1))), (some 4), none, []⟩]
theorem v179_10 : VS L179_10.eq_1 := rfl
def C179_0 : ACode := .cond (.t 9) .skip (.exit 0)
theorem u179_0 : VC C179_0.eq_1 := rfl
def C179_1 : ACode := .seq (.reg L179_8) .ret
theorem u179_1 : VC C179_1.eq_1 := rfl
def C179_2 : ACode := .cond (.t 16) C179_1 .skip
theorem u179_2 : VC C179_2.eq_1 := rfl
def C179_3 : ACode := .seq (.reg L179_7) C179_2
theorem u179_3 : VC C179_3.eq_1 := rfl
def C179_4 : ACode := .seq (.reg L179_4) C179_3
theorem u179_4 : VC C179_4.eq_1 := rfl
def C179_5 : ACode := .block 1 C179_4
theorem u179_5 : VC C179_5.eq_1 := rfl
def C179_6 : ACode := .seq C179_5 (.reg L179_9)
theorem u179_6 : VC C179_6.eq_1 := rfl
def C179_7 : ACode := .seq C179_0 C179_6
theorem u179_7 : VC C179_7.eq_1 := rfl
def C179_8 : ACode := .seq (.reg L179_3) C179_7
theorem u179_8 : VC C179_8.eq_1 := rfl
def C179_9 : ACode := .block 0 (.loop C179_8)
theorem u179_9 : VC C179_9.eq_1 := rfl
def C179_10 : ACode := .seq (.reg L179_2) C179_9
theorem u179_10 : VC C179_10.eq_1 := rfl
def C179_11 : ACode := .seq (.reg L179_10) .ret
theorem u179_11 : VC C179_11.eq_1 := rfl
def C179_12 : ACode := .seq C179_10 C179_11
theorem u179_12 : VC C179_12.eq_1 := rfl
def C179_13 : ACode := .seq (.reg L179_0) C179_12
theorem u179_13 : VC C179_13.eq_1 := rfl
def F179 : AFunc := ⟨19, [.tmp 4], C179_13⟩
theorem cF179 : compB Try.prog 179 = some F179 := by kernel_rfl
attribute [local go_sem ↓] u179_0 u179_1 u179_2 u179_3 u179_4 u179_5 u179_6 u179_7 u179_8 u179_9 u179_10 u179_11 u179_12 u179_13 v179_0 v179_1 v179_2 v179_3 v179_4 v179_5 v179_6 v179_7 v179_8 v179_9 v179_10
theorem c_indexP (l : List Pair) (v : AV) (f : Nat) (caps : List (Nat × Nat)) (p : Pair → Bool) (h : H) (hl : SlP h v l) (hn : l.length ≤ big) (hf : ∀ i (hi : i < l.length), ∀ x, x = l[i] → bm Try.prog f (.agg (encP x) :: caps.map fun a => .one (.ptr (some a))) h = some (ib (p x), h)) :
    bm Try.prog 179 [v, .one (.fn f caps)] h = some (ii (idx p l), h) := by
  refine bm_eq cF179 ?_
  simp +contextual (maxSteps := 2000000) only [go_sem, Nat.reduceEqDiff, reduceCtorEq, Nat.reduceAdd, Nat.reduceLeDiff, F179, hl.len]
  refine wpC_loop (fun i T L h' => h' = h ∧ T 0 = .v v ∧ T 1 = .v (.one (.fn f caps)) ∧ T 7 = .v (.one (.int .i64 l.length)) ∧ T 8 = .v (.one (.int .i64 i)) ∧ Pre p false l i) l.length ?_ ?_ (Nat.zero_le _) ?_
  · rintro i T L h' hi ⟨rfl, h0, h1, h7, h8, hp⟩
    simp +contextual (maxSteps := 2000000) only [go_sem, Nat.reduceEqDiff, reduceCtorEq, Nat.reduceAdd, Nat.reduceLeDiff, h0, h1, h7, h8, hl.iaddr hi, hl.whole hi, hf i hi _ rfl, lt_true hi]
    (repeat' (first | refine And.intro ?_ ?_ | intro _)) <;> first | rfl | rw [wrap_next hi (big_lt hn)] | exact hp.next hi ‹_› | rw [idx_hit hi hp ‹_›]
  · rintro T L h' ⟨rfl, h0, h1, h7, h8, hp⟩
    simp +contextual (maxSteps := 2000000) only [go_sem, Nat.reduceEqDiff, reduceCtorEq, Nat.reduceAdd, Nat.reduceLeDiff, h0, h1, h7, h8, lt_false, idx_none hp]
  · simp +contextual (maxSteps := 2000000) only [go_sem, Nat.reduceEqDiff, reduceCtorEq, Nat.reduceAdd, Nat.reduceLeDiff]
    (repeat' (first | refine And.intro ?_ ?_ | intro _)) <;> first | rfl | exact Pre.zero
/-! slices.IndexFunc(()int,int) -/
def L225_0 : List AStep := [⟨.mov (.c (.int .i64 0)), (some 4), none, []⟩]
theorem v225_0 : VS L225_0.eq_1 := rfl
def L225_1 : List AStep := [⟨.mov (.c (.int .i64 0)), (some 8), none, []⟩]
theorem v225_1 : VS L225_1.eq_1 := rfl
def L225_2 : List AStep := ⟨.mov (.t 0), (some 6), none, []⟩ :: ⟨.len (.t 6), (some 7), none, []⟩ :: L225_1
theorem v225_2 : VS L225_2.eq_1 := rfl
def L225_3 : List AStep := [⟨.bin .lss (.t 8) (.t 7), (some 9), none, []⟩]
theorem v225_3 : VS L225_3.eq_1 := rfl
def L225_4 : List AStep := [⟨.mov (.t 8), (some 10), none, []⟩, ⟨.mov (.t 10), (some 5), none, []⟩]
theorem v225_4 : VS L225_4.eq_1 := rfl
def L225_5 : List AStep := [⟨.load 1 false (.t 14), (some 15), none, []⟩, ⟨.callv (.t 11) [(.t 15)], (some 16), none, []⟩]
theorem v225_5 : VS L225_5.eq_1 := rfl
def L225_6 : List AStep := ⟨.mov (.t 5), (some 13), none, []⟩ :: ⟨.iaddr 1 (.t 12) (.t 13), (some 14), none, []⟩ :: L225_5
theorem v225_6 : VS L225_6.eq_1 := rfl
def L225_7 : List AStep := ⟨.mov (.t 1), (some 11), none, []⟩ :: ⟨.mov (.t 0), (some 12), none, []⟩ :: L225_6
theorem v225_7 : VS L225_7.eq_1 := rfl
def L225_8 : List AStep := [⟨.mov (.t 5), (some 17), none, []⟩, ⟨.mov (.t 17), (some 4), none, []⟩]
theorem v225_8 : VS L225_8.eq_1 := rfl
def L225_9 : List AStep := [⟨.bin .add (.t 8) (.c (.int .i64 1)), (some 18), none, []⟩, ⟨.mov (.t 18), (some 8), none, []⟩]
theorem v225_9 : VS L225_9.eq_1 := rfl
def L225_10 : List AStep := [⟨.mov (.c (.int .i64 (-1))), (some 4), none, []⟩]
theorem v225_10 : VS L225_10.eq_1 := rfl
def C225_0 : ACode := .cond (.t 9) .skip (.exit 0)
theorem u225_0 : VC C225_0.eq_1 := rfl
def C225_1 : ACode := .seq (.reg L225_8) .ret
theorem u225_1 : VC C225_1.eq_1 := rfl
def C225_2 : ACode := .cond (.t 16) C225_1 .skip
theorem u225_2 : VC C225_2.eq_1 := rfl
def C225_3 : ACode := .seq (.reg L225_7) C225_2
theorem u225_3 : VC C225_3.eq_1 := rfl
def C225_4 : ACode := .seq (.reg L225_4) C225_3
theorem u225_4 : VC C225_4.eq_1 := rfl
def C225_5 : ACode := .block 1 C225_4
theorem u225_5 : VC C225_5.eq_1 := rfl
def C225_6 : ACode := .seq C225_5 (.reg L225_9)
theorem u225_6 : VC C225_6.eq_1 := rfl
def C225_7 : ACode := .seq C225_0 C225_6
theorem u225_7 : VC C225_7.eq_1 := rfl
def C225_8 : ACode := .seq (.reg L225_3) C225_7
theorem u225_8 : VC C225_8.eq_1 := rfl
def C225_9 : ACode := .block 0 (.loop C225_8)
theorem u225_9 : VC C225_9.eq_1 := rfl
def C225_10 : ACode := .seq (.reg L225_2) C225_9
theorem u225_10 : VC C225_10.eq_1 := rfl
def C225_11 : ACode := .seq (.reg L225_10) .ret
theorem u225_11 : VC C225_11.eq_1 := rfl
def C225_12 : ACode := .seq C225_10 C225_11
theorem u225_12 : VC C225_12.eq_1 := rfl
def C225_13 : ACode := .seq (.reg L225_0) C225_12
theorem u225_13 : VC C225_13.eq_1 := rfl
def F225 : AFunc := ⟨19, [.tmp 4], C225_13⟩
theorem cF225 : compB Try.prog 225 = some F225 := by kernel_rfl
attribute [local go_sem ↓] u225_0 u225_1 u225_2 u225_3 u225_4 u225_5 u225_6 u225_7 u225_8 u225_9 u225_10 u225_11 u225_12 u225_13 v225_0 v225_1 v225_2 v225_3 v225_4 v225_5 v225_6 v225_7 v225_8 v225_9 v225_10
theorem c_indexI (l : List Int) (v : AV) (f : Nat) (caps : List (Nat × Nat)) (p : Int → Bool) (h : H) (hl : SlI h v l) (hn : l.length ≤ big) (hf : ∀ i (hi : i < l.length), ∀ x, x = l[i] → bm Try.prog f (.one (.int .i64 x) :: caps.map fun a => .one (.ptr (some a))) h = some (ib (p x), h)) :
    bm Try.prog 225 [v, .one (.fn f caps)] h = some (ii (idx p l), h) := by
  refine bm_eq cF225 ?_
  simp +contextual (maxSteps := 2000000) only [go_sem, Nat.reduceEqDiff, reduceCtorEq, Nat.reduceAdd, Nat.reduceLeDiff, F225, hl.len]
  refine wpC_loop (fun i T L h' => h' = h ∧ T 0 = .v v ∧ T 1 = .v (.one (.fn f caps)) ∧ T 7 = .v (.one (.int .i64 l.length)) ∧ T 8 = .v (.one (.int .i64 i)) ∧ Pre p false l i) l.length ?_ ?_ (Nat.zero_le _) ?_
  · rintro i T L h' hi ⟨rfl, h0, h1, h7, h8, hp⟩
    simp +contextual (maxSteps := 2000000) only [go_sem, Nat.reduceEqDiff, reduceCtorEq, Nat.reduceAdd, Nat.reduceLeDiff, h0, h1, h7, h8, hl.iaddr hi, hl.oneO hi, hf i hi _ rfl, lt_true hi]
    (repeat' (first | refine And.intro ?_ ?_ | intro _)) <;> first | rfl | rw [wrap_next hi (big_lt hn)] | exact hp.next hi ‹_› | rw [idx_hit hi hp ‹_›]
  · rintro T L h' ⟨rfl, h0, h1, h7, h8, hp⟩
    simp +contextual (maxSteps := 2000000) only [go_sem, Nat.reduceEqDiff, reduceCtorEq, Nat.reduceAdd, Nat.reduceLeDiff, h0, h1, h7, h8, lt_false, idx_none hp]
  · simp +contextual (maxSteps := 2000000) only [go_sem, Nat.reduceEqDiff, reduceCtorEq, Nat.reduceAdd, Nat.reduceLeDiff]
    (repeat' (first | refine And.intro ?_ ?_ | intro _)) <;> first | rfl | exact Pre.zero
/-! slices.ContainsFunc(()int,int) -/
def L199_0 : List AStep := [⟨.mov (.c (.bool false)), (some 4), none, []⟩]
theorem v199_0 : VS L199_0.eq_1 := rfl
def L199_1 : List AStep := [⟨.mov (.t 8), (some 4), none, []⟩]
theorem v199_1 : VS L199_1.eq_1 := rfl
def L199_2 : List AStep := ⟨.call 225 [(.t 5), (.t 6)], (some 7), none, []⟩ :: ⟨.bin .geq (.t 7) (.c (.int .i64 0)), (some 8), none, []⟩ :: L199_1
theorem v199_2 : VS L199_2.eq_1 := rfl
def L199_3 : List AStep := ⟨.mov (.t 0), (some 5), none, []⟩ :: ⟨.mov (.t 1), (some 6), none, []⟩ :: L199_2
theorem v199_3 : VS L199_3.eq_1 := rfl
def C199_0 : ACode := .seq (.reg L199_3) .ret
theorem u199_0 : VC C199_0.eq_1 := rfl
def C199_1 : ACode := .seq (.reg L199_0) C199_0
theorem u199_1 : VC C199_1.eq_1 := rfl
def F199 : AFunc := ⟨9, [.tmp 4], C199_1⟩
theorem cF199 : compB Try.prog 199 = some F199 := by kernel_rfl
attribute [local go_sem ↓] u199_0 u199_1 v199_0 v199_1 v199_2 v199_3
theorem c_hasI (l : List Int) (v : AV) (f : Nat) (caps : List (Nat × Nat)) (p : Int → Bool) (h : H) (hl : SlI h v l) (hn : l.length ≤ big) (hf : ∀ i (hi : i < l.length), ∀ x, x = l[i] → bm Try.prog f (.one (.int .i64 x) :: caps.map fun a => .one (.ptr (some a))) h = some (ib (p x), h)) :
    bm Try.prog 199 [v, .one (.fn f caps)] h = some (ib (l.any p), h) := by
  refine bm_eq cF199 ?_
  have e := idx_any (p := p) (l := l)
  simp +contextual (maxSteps := 2000000) only [go_sem, Nat.reduceEqDiff, reduceCtorEq, Nat.reduceAdd, Nat.reduceLeDiff, F199, c_indexI l v f caps p h hl hn hf, e]
/-! slices.IndexFunc(()impl.Place,impl.Place) -/
def L212_0 : List AStep := [⟨.mov (.c (.int .i64 0)), (some 4), none, []⟩]
theorem v212_0 : VS L212_0.eq_1 := rfl
def L212_1 : List AStep := [⟨.mov (.c (.int .i64 0)), (some 8), none, []⟩]
theorem v212_1 : VS L212_1.eq_1 := rfl
def L212_2 : List AStep := ⟨.mov (.t 0), (some 6), none, []⟩ :: ⟨.len (.t 6), (some 7), none, []⟩ :: L212_1
theorem v212_2 : VS L212_2.eq_1 := rfl
def L212_3 : List AStep := [⟨.bin .lss (.t 8) (.t 7), (some 9), none, []⟩]
theorem v212_3 : VS L212_3.eq_1 := rfl
def L212_4 : List AStep := [⟨.mov (.t 8), (some 10), none, []⟩, ⟨.mov (.t 10), (some 5), none, []⟩]
theorem v212_4 : VS L212_4.eq_1 := rfl
def L212_5 : List AStep := [⟨.load 2 true (.t 14), (some 15), none, []⟩, ⟨.callv (.t 11) [(.t 15)], (some 16), none, []⟩]
theorem v212_5 : VS L212_5.eq_1 := rfl
def L212_6 : List AStep := ⟨.mov (.t 5), (some 13), none, []⟩ :: ⟨.iaddr 2 (.t 12) (.t 13), (some 14), none, []⟩ :: L212_5
theorem v212_6 : VS L212_6.eq_1 := rfl
def L212_7 : List AStep := ⟨.mov (.t 1), (some 11), none, []⟩ :: ⟨.mov (.t 0), (some 12), none, []⟩ :: L212_6
theorem v212_7 : VS L212_7.eq_1 := rfl
def L212_8 : List AStep := [⟨.mov (.t 5), (some 17), none, []⟩, ⟨.mov (.t 17), (some 4), none, []⟩]
theorem v212_8 : VS L212_8.eq_1 := rfl
def L212_9 : List AStep := [⟨.bin .add (.t 8) (.c (.int .i64 1)), (some 18), none, []⟩, ⟨.mov (.t 18), (some 8), none, []⟩]
theorem v212_9 : VS L212_9.eq_1 := rfl
def L212_10 : List AStep := [⟨.mov (.c (.int .i64 (-1))), (some 4), none, []⟩]
theorem v212_10 : VS L212_10.eq_1 := rfl
def C212_0 : ACode := .cond (.t 9) .skip (.exit 0)
theorem u212_0 : VC C212_0.eq_1 := rfl
def C212_1 : ACode := .seq (.reg L212_8) .ret
theorem u212_1 : VC C212_1.eq_1 := rfl
def C212_2 : ACode := .cond (.t 16) C212_1 .skip
theorem u212_2 : VC C212_2.eq_1 := rfl
def C212_3 : ACode := .seq (.reg L212_7) C212_2
theorem u212_3 : VC C212_3.eq_1 := rfl
def C212_4 : ACode := .seq (.reg L212_4) C212_3
theorem u212_4 : VC C212_4.eq_1 := rfl
def C212_5 : ACode := .block 1 C212_4
theorem u212_5 : VC C212_5.eq_1 := rfl
def C212_6 : ACode := .seq C212_5 (.reg L212_9)
theorem u212_6 : VC C212_6.eq_1 := rfl
def C212_7 : ACode := .seq C212_0 C212_6
theorem u212_7 : VC C212_7.eq_1 := rfl
def C212_8 : ACode := .seq (.reg L212_3) C212_7
theorem u212_8 : VC C212_8.eq_1 := rfl
def C212_9 : ACode := .block 0 (.loop C212_8)
theorem u212_9 : VC C212_9.eq_1 := rfl
def C212_10 : ACode := .seq (.reg L212_2) C212_9
theorem u212_10 : VC C212_10.eq_1 := rfl
def C212_11 : ACode := .seq (.reg L212_10) .ret
theorem u212_11 : VC C212_11.eq_1 := rfl
def C212_12 : ACode := .seq C212_10 C212_11
theorem u212_12 : VC C212_12.eq_1 := rfl
def C212_13 : ACode := .seq (.reg L212_0) C212_12
theorem u212_13 : VC C212_13.eq_1 := rfl
def F212 : AFunc := ⟨19, [.tmp 4], C212_13⟩
theorem cF212 : compB Try.prog 212 = some F212 := by kernel_rfl
attribute [local go_sem ↓] u212_0 u212_1 u212_2 u212_3 u212_4 u212_5 u212_6 u212_7 u212_8 u212_9 u212_10 u212_11 u212_12 u212_13 v212_0 v212_1 v212_2 v212_3 v212_4 v212_5 v212_6 v212_7 v212_8 v212_9 v212_10
theorem c_indexL (l : List Place) (v : AV) (f : Nat) (caps : List (Nat × Nat)) (p : Place → Bool) (h : H) (hl : SlL h v l) (hn : l.length ≤ big) (hf : ∀ i (hi : i < l.length), ∀ x, x = l[i] → bm Try.prog f (.agg (encL x) :: caps.map fun a => .one (.ptr (some a))) h = some (ib (p x), h)) :
    bm Try.prog 212 [v, .one (.fn f caps)] h = some (ii (idx p l), h) := by
  refine bm_eq cF212 ?_
  simp +contextual (maxSteps := 2000000) only [go_sem, Nat.reduceEqDiff, reduceCtorEq, Nat.reduceAdd, Nat.reduceLeDiff, F212, hl.len]
  refine wpC_loop (fun i T L h' => h' = h ∧ T 0 = .v v ∧ T 1 = .v (.one (.fn f caps)) ∧ T 7 = .v (.one (.int .i64 l.length)) ∧ T 8 = .v (.one (.int .i64 i)) ∧ Pre p false l i) l.length ?_ ?_ (Nat.zero_le _) ?_
  · rintro i T L h' hi ⟨rfl, h0, h1, h7, h8, hp⟩
    simp +contextual (maxSteps := 2000000) only [go_sem, Nat.reduceEqDiff, reduceCtorEq, Nat.reduceAdd, Nat.reduceLeDiff, h0, h1, h7, h8, hl.iaddr hi, hl.whole hi, hf i hi _ rfl, lt_true hi]
    (repeat' (first | refine And.intro ?_ ?_ | intro _)) <;> first | rfl | rw [wrap_next hi (big_lt hn)] | exact hp.next hi ‹_› | rw [idx_hit hi hp ‹_›]
  · rintro T L h' ⟨rfl, h0, h1, h7, h8, hp⟩
    simp +contextual (maxSteps := 2000000) only [go_sem, Nat.reduceEqDiff, reduceCtorEq, Nat.reduceAdd, Nat.reduceLeDiff, h0, h1, h7, h8, lt_false, idx_none hp]
  · simp +contextual (maxSteps := 2000000) only [go_sem, Nat.reduceEqDiff, reduceCtorEq, Nat.reduceAdd, Nat.reduceLeDiff]
    (repeat' (first | refine And.intro ?_ ?_ | intro _)) <;> first | rfl | exact Pre.zero
/-! slices.ContainsFunc(()impl.Place,impl.Place) -/
def L161_0 : List AStep := [⟨.mov (.c (.bool false)), (some 4), none, []⟩]
theorem v161_0 : VS L161_0.eq_1 := rfl
def L161_1 : List AStep := [⟨.mov (.t 8), (some 4), none, []⟩]
theorem v161_1 : VS L161_1.eq_1 := rfl
def L161_2 : List AStep := ⟨.call 212 [(.t 5), (.t 6)], (some 7), none, []⟩ :: ⟨.bin .geq (.t 7) (.c (.int .i64 0)), (some 8), none, []⟩ :: L161_1
theorem v161_2 : VS L161_2.eq_1 := rfl
def L161_3 : List AStep := ⟨.mov (.t 0), (some 5), none, []⟩ :: ⟨.mov (.t 1), (some 6), none, []⟩ :: L161_2
theorem v161_3 : VS L161_3.eq_1 := rfl
def C161_0 : ACode := .seq (.reg L161_3) .ret
theorem u161_0 : VC C161_0.eq_1 := rfl
def C161_1 : ACode := .seq (.reg L161_0) C161_0
theorem u161_1 : VC C161_1.eq_1 := rfl
def F161 : AFunc := ⟨9, [.tmp 4], C161_1⟩
theorem cF161 : compB Try.prog 161 = some F161 := by kernel_rfl
attribute [local go_sem ↓] u161_0 u161_1 v161_0 v161_1 v161_2 v161_3
theorem c_hasL (l : List Place) (v : AV) (f : Nat) (caps : List (Nat × Nat)) (p : Place → Bool) (h : H) (hl : SlL h v l) (hn : l.length ≤ big) (hf : ∀ i (hi : i < l.length), ∀ x, x = l[i] → bm Try.prog f (.agg (encL x) :: caps.map fun a => .one (.ptr (some a))) h = some (ib (p x), h)) :
    bm Try.prog 161 [v, .one (.fn f caps)] h = some (ib (l.any p), h) := by
  refine bm_eq cF161 ?_
  have e := idx_any (p := p) (l := l)
  simp +contextual (maxSteps := 2000000) only [go_sem, Nat.reduceEqDiff, reduceCtorEq, Nat.reduceAdd, Nat.reduceLeDiff, F161, c_indexL l v f caps p h hl hn hf, e]
/-! impl.pairAt$1 -/
def L180_0 : List AStep := [⟨.box 86 (.t 0), (some 2), none, []⟩, ⟨.mov (.c (.bool false)), (some 3), none, []⟩]
theorem v180_0 : VS L180_0.eq_1 := rfl
def L180_1 : List AStep := [⟨.mov (.t 7), (some 3), none, []⟩]
theorem v180_1 : VS L180_1.eq_1 := rfl
def L180_2 : List AStep := ⟨.load 1 false (.t 1), (some 6), none, []⟩ :: ⟨.bin .eql (.t 5) (.t 6), (some 7), none, []⟩ :: L180_1
theorem v180_2 : VS L180_2.eq_1 := rfl
def L180_3 : List AStep := ⟨.faddr 0 (.t 2), (some 4), none, []⟩ :: ⟨.load 1 false (.t 4), (some 5), none, []⟩ :: L180_2
theorem v180_3 : VS L180_3.eq_1 := rfl
def C180_0 : ACode := .seq (.reg L180_3) .ret
theorem u180_0 : VC C180_0.eq_1 := rfl
def C180_1 : ACode := .seq (.reg L180_0) C180_0
theorem u180_1 : VC C180_1.eq_1 := rfl
def F180 : AFunc := ⟨8, [.tmp 3], C180_1⟩
theorem cF180 : compB Try.prog 180 = some F180 := by kernel_rfl
attribute [local go_sem ↓] u180_0 u180_1 v180_0 v180_1 v180_2 v180_3
theorem c_pairAt1 (p : Pair) (a : Nat × Nat) (s : ByteArray) (h : H) (ha : loadO 1 false h (.one (.ptr (some a))) = some (.one (.str s))) : bm Try.prog 180 [.agg (encP p), .one (.ptr (some a))] h = some (ib (decide (p.name = s)), h) := by
  refine bm_eq cF180 ?_
  simp +contextual (maxSteps := 2000000) only [go_sem, Nat.reduceEqDiff, reduceCtorEq, Nat.reduceAdd, Nat.reduceLeDiff, F180, ha]
/-! impl.pairAt -/
def L101_0 : List AStep := [⟨.box 9 (.t 1), (some 3), none, []⟩, ⟨.mov (.c (.int .i64 0)), (some 4), none, []⟩]
theorem v101_0 : VS L101_0.eq_1 := rfl
def L101_1 : List AStep := [⟨.call 179 [(.t 5), (.t 6)], (some 7), none, []⟩, ⟨.mov (.t 7), (some 4), none, []⟩]
theorem v101_1 : VS L101_1.eq_1 := rfl
def L101_2 : List AStep := ⟨.mov (.t 0), (some 5), none, []⟩ :: ⟨.mkfn 180 [(.t 3)], (some 6), none, []⟩ :: L101_1
theorem v101_2 : VS L101_2.eq_1 := rfl
def C101_0 : ACode := .seq (.reg L101_2) .ret
theorem u101_0 : VC C101_0.eq_1 := rfl
def C101_1 : ACode := .seq (.reg L101_0) C101_0
theorem u101_1 : VC C101_1.eq_1 := rfl
def F101 : AFunc := ⟨8, [.tmp 4], C101_1⟩
theorem cF101 : compB Try.prog 101 = some F101 := by kernel_rfl
attribute [local go_sem ↓] u101_0 u101_1 v101_0 v101_1 v101_2
theorem c_pairAtI (l : List Pair) (v : AV) (s : ByteArray) (h : H) (hl : SlP h v l) (hn : smP l) : bm Try.prog 101 [v, .one (.str s)] h = some (ii (pairAt l s), h) := by
  refine bm_eq cF101 ?_
  have e := c_indexP l v 180 [(h.n, 0)] (fun p => decide (p.name = s)) (h.alloc [.str s] 9) (hl.grow (Grow.alloc _ _ _)) hn.1 (fun i hi x hx => c_pairAt1 x (h.n, 0) s _ (Box.new.one rfl))
  simp +contextual (maxSteps := 2000000) only [go_sem, Nat.reduceEqDiff, reduceCtorEq, Nat.reduceAdd, Nat.reduceLeDiff, F101, e, pairAt]
/-! impl.areValues$1 -/
def L200_0 : List AStep := [⟨.mov (.c (.bool false)), (some 2), none, []⟩]
theorem v200_0 : VS L200_0.eq_1 := rfl
def L200_1 : List AStep := [⟨.not (.t 4), (some 5), none, []⟩, ⟨.mov (.t 5), (some 2), none, []⟩]
theorem v200_1 : VS L200_1.eq_1 := rfl
def L200_2 : List AStep := ⟨.mov (.t 0), (some 3), none, []⟩ :: ⟨.call 163 [(.t 3)], (some 4), none, []⟩ :: L200_1
theorem v200_2 : VS L200_2.eq_1 := rfl
def C200_0 : ACode := .seq (.reg L200_2) .ret
theorem u200_0 : VC C200_0.eq_1 := rfl
def C200_1 : ACode := .seq (.reg L200_0) C200_0
theorem u200_1 : VC C200_1.eq_1 := rfl
def F200 : AFunc := ⟨6, [.tmp 2], C200_1⟩
theorem cF200 : compB Try.prog 200 = some F200 := by kernel_rfl
attribute [local go_sem ↓] u200_0 u200_1 v200_0 v200_1 v200_2
theorem c_areValues1 (n : Int) (h : H) : bm Try.prog 200 [.one (.int .i64 n)] h = some (ib (!(okNum n)), h) := by
  refine bm_eq cF200 ?_
  simp +contextual (maxSteps := 2000000) only [go_sem, Nat.reduceEqDiff, reduceCtorEq, Nat.reduceAdd, Nat.reduceLeDiff, F200, c_isValue]
/-! impl.areValues -/
def L136_0 : List AStep := [⟨.mov (.c (.bool false)), (some 2), none, []⟩]
theorem v136_0 : VS L136_0.eq_1 := rfl
def L136_1 : List AStep := [⟨.not (.t 4), (some 5), none, []⟩, ⟨.mov (.t 5), (some 2), none, []⟩]
theorem v136_1 : VS L136_1.eq_1 := rfl
def L136_2 : List AStep := ⟨.mov (.t 0), (some 3), none, []⟩ :: ⟨.call 199 [(.t 3), (.c (.fn 200 []))], (some 4), none, []⟩ :: L136_1
theorem v136_2 : VS L136_2.eq_1 := rfl
def C136_0 : ACode := .seq (.reg L136_2) .ret
theorem u136_0 : VC C136_0.eq_1 := rfl
def C136_1 : ACode := .seq (.reg L136_0) C136_0
theorem u136_1 : VC C136_1.eq_1 := rfl
def F136 : AFunc := ⟨6, [.tmp 2], C136_1⟩
theorem cF136 : compB Try.prog 136 = some F136 := by kernel_rfl
attribute [local go_sem ↓] u136_0 u136_1 v136_0 v136_1 v136_2
theorem c_areValues (l : List Int) (v : AV) (h : H) (hl : SlI h v l) (hn : l.length ≤ big) : bm Try.prog 136 [v] h = some (ib (l.all okNum), h) := by
  refine bm_eq cF136 ?_
  have e := c_hasI l v 200 [] (fun n => !(okNum n)) h hl hn (fun i hi x hx => c_areValues1 x h)
  simp +contextual (maxSteps := 2000000) only [go_sem, Nat.reduceEqDiff, reduceCtorEq, Nat.reduceAdd, Nat.reduceLeDiff, F136, e]
  simp [List.not_any_eq_all_not]
/-! impl.ValidFlat -/
def L60_0 : List AStep := [⟨.box 30 (.t 0), (some 1), none, []⟩, ⟨.mov (.c (.bool false)), (some 2), none, []⟩]
theorem v60_0 : VS L60_0.eq_1 := rfl
def L60_1 : List AStep := [⟨.len (.t 6), (some 7), none, []⟩, ⟨.mov (.c (.int .i64 0)), (some 8), none, []⟩]
theorem v60_1 : VS L60_1.eq_1 := rfl
def L60_2 : List AStep := ⟨.faddr 1 (.t 1), (some 5), none, []⟩ :: ⟨.load 1 false (.t 5), (some 6), none, []⟩ :: L60_1
theorem v60_2 : VS L60_2.eq_1 := rfl
def L60_3 : List AStep := [⟨.bin .lss (.t 8) (.t 7), (some 9), none, []⟩]
theorem v60_3 : VS L60_3.eq_1 := rfl
def L60_4 : List AStep := [⟨.mov (.t 10), (some 3), none, []⟩, ⟨.store 2 (.t 4) (.t 12), none, none, []⟩]
theorem v60_4 : VS L60_4.eq_1 := rfl
def L60_5 : List AStep := ⟨.load 2 true (.t 11), (some 12), none, []⟩ :: ⟨.alloc 86 [(.str (strOfNums [])), (.int .i64 0)], (some 4), none, []⟩ :: L60_4
theorem v60_5 : VS L60_5.eq_1 := rfl
def L60_6 : List AStep := ⟨.mov (.t 8), (some 10), none, []⟩ :: ⟨.iaddr 2 (.t 6) (.t 8), (some 11), none, []⟩ :: L60_5
theorem v60_6 : VS L60_6.eq_1 := rfl
def L60_7 : List AStep := [⟨.pick (.t 16) (.c (.bool true)) (.t 24), (some 25), none, []⟩]
theorem v60_7 : VS L60_7.eq_1 := rfl
def L60_8 : List AStep := ⟨.call 101 [(.t 20), (.t 22)], (some 23), (some (16, false)), []⟩ :: ⟨.bin .geq (.t 23) (.c (.int .i64 0)), (some 24), (some (16, false)), []⟩ :: L60_7
theorem v60_8 : VS L60_8.eq_1 := rfl
def L60_9 : List AStep := ⟨.faddr 0 (.t 4), (some 21), (some (16, false)), []⟩ :: ⟨.load 1 false (.t 21), (some 22), (some (16, false)), []⟩ :: L60_8
theorem v60_9 : VS L60_9.eq_1 := rfl
def L60_10 : List AStep := ⟨.mov (.t 3), (some 19), (some (16, false)), []⟩ :: ⟨.slice 86 2 (.t 18) none (some (.t 19)) none, (some 20), (some (16, false)), []⟩ :: L60_9
theorem v60_10 : VS L60_10.eq_1 := rfl
def L60_11 : List AStep := ⟨.faddr 1 (.t 1), (some 17), (some (16, false)), []⟩ :: ⟨.load 1 false (.t 17), (some 18), (some (16, false)), []⟩ :: L60_10
theorem v60_11 : VS L60_11.eq_1 := rfl
def L60_12 : List AStep := ⟨.not (.t 14), (some 15), none, []⟩ :: ⟨.mov (.t 15), (some 16), none, []⟩ :: L60_11
theorem v60_12 : VS L60_12.eq_1 := rfl
def L60_13 : List AStep := ⟨.load 2 true (.t 4), (some 13), none, []⟩ :: ⟨.call 135 [(.t 13)], (some 14), none, []⟩ :: L60_12
theorem v60_13 : VS L60_13.eq_1 := rfl
def L60_14 : List AStep := [⟨.mov (.c (.bool false)), (some 2), none, []⟩]
theorem v60_14 : VS L60_14.eq_1 := rfl
def L60_15 : List AStep := [⟨.bin .add (.t 8) (.c (.int .i64 1)), (some 26), none, []⟩, ⟨.mov (.t 26), (some 8), none, []⟩]
theorem v60_15 : VS L60_15.eq_1 := rfl
def L60_16 : List AStep := [⟨.pick (.t 37) (.t 40) (.c (.bool false)), (some 41), none, []⟩, ⟨.mov (.t 41), (some 2), none, []⟩]
theorem v60_16 : VS L60_16.eq_1 := rfl
def L60_17 : List AStep := ⟨.load 1 false (.t 38), (some 39), (some (37, true)), []⟩ :: ⟨.call 136 [(.t 39)], (some 40), (some (37, true)), []⟩ :: L60_16
theorem v60_17 : VS L60_17.eq_1 := rfl
def L60_18 : List AStep := ⟨.mov (.t 36), (some 37), none, []⟩ :: ⟨.faddr 0 (.t 1), (some 38), (some (37, true)), []⟩ :: L60_17
theorem v60_18 : VS L60_18.eq_1 := rfl
def L60_19 : List AStep := ⟨.bin .leq (.t 34) (.c (.int .i64 8)), (some 35), (some (31, true)), []⟩ :: ⟨.pick (.t 31) (.t 35) (.c (.bool false)), (some 36), none, []⟩ :: L60_18
theorem v60_19 : VS L60_19.eq_1 := rfl
def L60_20 : List AStep := ⟨.load 1 false (.t 32), (some 33), (some (31, true)), []⟩ :: ⟨.len (.t 33), (some 34), (some (31, true)), []⟩ :: L60_19
theorem v60_20 : VS L60_20.eq_1 := rfl
def L60_21 : List AStep := ⟨.mov (.t 30), (some 31), none, []⟩ :: ⟨.faddr 1 (.t 1), (some 32), (some (31, true)), []⟩ :: L60_20
theorem v60_21 : VS L60_21.eq_1 := rfl
def L60_22 : List AStep := ⟨.len (.t 28), (some 29), none, []⟩ :: ⟨.bin .leq (.t 29) (.c (.int .i64 8)), (some 30), none, []⟩ :: L60_21
theorem v60_22 : VS L60_22.eq_1 := rfl
def L60_23 : List AStep := ⟨.faddr 0 (.t 1), (some 27), none, []⟩ :: ⟨.load 1 false (.t 27), (some 28), none, []⟩ :: L60_22
theorem v60_23 : VS L60_23.eq_1 := rfl
def C60_0 : ACode := .cond (.t 9) .skip (.exit 0)
theorem u60_0 : VC C60_0.eq_1 := rfl
def C60_1 : ACode := .seq (.reg L60_14) .ret
theorem u60_1 : VC C60_1.eq_1 := rfl
def C60_2 : ACode := .cond (.t 25) C60_1 .skip
theorem u60_2 : VC C60_2.eq_1 := rfl
def C60_3 : ACode := .seq (.reg L60_13) C60_2
theorem u60_3 : VC C60_3.eq_1 := rfl
def C60_4 : ACode := .seq (.reg L60_6) C60_3
theorem u60_4 : VC C60_4.eq_1 := rfl
def C60_5 : ACode := .block 1 C60_4
theorem u60_5 : VC C60_5.eq_1 := rfl
def C60_6 : ACode := .seq C60_5 (.reg L60_15)
theorem u60_6 : VC C60_6.eq_1 := rfl
def C60_7 : ACode := .seq C60_0 C60_6
theorem u60_7 : VC C60_7.eq_1 := rfl
def C60_8 : ACode := .seq (.reg L60_3) C60_7
theorem u60_8 : VC C60_8.eq_1 := rfl
def C60_9 : ACode := .block 0 (.loop C60_8)
theorem u60_9 : VC C60_9.eq_1 := rfl
def C60_10 : ACode := .seq (.reg L60_2) C60_9
theorem u60_10 : VC C60_10.eq_1 := rfl
def C60_11 : ACode := .seq (.reg L60_23) .ret
theorem u60_11 : VC C60_11.eq_1 := rfl
def C60_12 : ACode := .seq C60_10 C60_11
theorem u60_12 : VC C60_12.eq_1 := rfl
def C60_13 : ACode := .seq (.reg L60_0) C60_12
theorem u60_13 : VC C60_13.eq_1 := rfl
def F60 : AFunc := ⟨42, [.tmp 2], C60_13⟩
theorem cF60 : compB Try.prog 60 = some F60 := by kernel_rfl
attribute [local go_sem ↓] u60_0 u60_1 u60_2 u60_3 u60_4 u60_5 u60_6 u60_7 u60_8 u60_9 u60_10 u60_11 u60_12 u60_13 v60_0 v60_1 v60_2 v60_3 v60_4 v60_5 v60_6 v60_7 v60_8 v60_9 v60_10 v60_11 v60_12 v60_13 v60_14 v60_15 v60_16 v60_17 v60_18 v60_19 v60_20 v60_21 v60_22 v60_23
theorem c_ValidFlat (f : Flat) (pv nv : CV) (h : H) (hp : SlI h (.one pv) f.pl) (hq : SlP h (.one nv) f.nl) (hn : smF f) : bm Try.prog 60 [.agg [pv, nv]] h = some (ib (okFlat f), h) := by
  refine bm_eq cF60 ?_
  simp +contextual (maxSteps := 2000000) only [go_sem, Nat.reduceEqDiff, reduceCtorEq, Nat.reduceAdd, Nat.reduceLeDiff, F60, hq.len]
  refine wpC_loop (fun i T L h' => h' = h ∧ T 1 = .lp 1 0 ∧ (L 1).2 = [pv, nv] ∧ T 6 = .v (.one nv) ∧ T 7 = .v (.one (.int .i64 f.nl.length)) ∧ T 8 = .v (.one (.int .i64 i)) ∧ Upto (newAt Pair.name f.nl) i ∧ Pre okPair true f.nl i) f.nl.length ?_ ?_ (Nat.zero_le _) ?_
  · rintro i T L h' hi ⟨rfl, t1, l1, t6, t7, t8, hu, hpre⟩
    obtain ⟨v', e1, s1⟩ := hq.takeO (i := i) (by omega) (kd := .i64)
    have e2 : decide (pairAt (f.nl.take i) f.nl[i].name ≥ 0) = !(newAt Pair.name f.nl i) := newAt_ge hi
    simp +contextual (maxSteps := 2000000) only [go_sem, Nat.reduceEqDiff, reduceCtorEq, Nat.reduceAdd, Nat.reduceLeDiff, e2, t1, l1, t6, t7, t8, hq.iaddr hi, hq.whole hi, lt_true hi, e1, c_okPair _ _ (hn.nl.at hi), c_pairAtI _ _ _ _ s1 (hn.nl.take i)]
    (repeat' (first | refine And.intro ?_ ?_ | intro _)) <;> first | rfl | rw [wrap_next hi hn.nl.len] | (refine hu.next ?_; simp_all; done) | (refine hpre.next hi ?_; simp_all; done) | (rw [okFlat, apart_not hi] <;> first | rfl | (simp_all; done)) | (rw [okFlat, all_stop (p := okPair) hi] <;> first | (simp; done) | (simp_all; done))
  · rintro T L h' ⟨rfl, t1, l1, t6, t7, t8, hu, hpre⟩
    simp +contextual (maxSteps := 2000000) only [go_sem, Nat.reduceEqDiff, reduceCtorEq, Nat.reduceAdd, Nat.reduceLeDiff, t1, l1, t6, t7, t8, hq.len, hp.len, lt_false, c_areValues _ _ _ hp hn.pl, okFlat, apart_of hu, hpre.all]
    (repeat' (first | refine And.intro ?_ ?_ | intro _)) <;> first | rfl | simp_all
  · simp +contextual (maxSteps := 2000000) only [go_sem, Nat.reduceEqDiff, reduceCtorEq, Nat.reduceAdd, Nat.reduceLeDiff]
    (repeat' (first | refine And.intro ?_ ?_ | intro _)) <;> first | rfl | exact Upto.zero | exact Pre.zero
end Go.Proofs.Ytnphlonhogcedaa.Am
