/- Contracts of the reference: numbers, names, pairs, flat calls and signatures that are valid. -/
import Derived.Test.YtnphlonhogcedaaDat
namespace Go.Proofs.Ytnphlonhogcedaa.Am
open Go
set_option maxRecDepth 100000
set_option maxHeartbeats 4000000
set_option linter.unusedSimpArgs false
set_option linter.unusedVariables false
attribute [local go_sem ↓] bv_t bv_c ev_t ev_c put_same put_ne put_none kill_at pro_at lb_same lb_ne start_zero start_succ wpC_seq wpC_reg wpC_cond wpC_block wpC_skip wpC_exit wpC_ret thenQ_normal thenQ_exit thenQ_ret inBlk_normal inBlk_exit inBlk_ret wpS_nil wpS_step wpS_again wpS_guard wpO_mov wpO_load wpO_faddr wpO_nilCheck wpO_pick wpO_build wpO_bin wpO_eqb wpO_eqst wpO_eqnil wpO_not wpO_conv wpO_bytesStr wpO_iaddr wpO_idxStr wpO_field wpO_extract wpO_len wpO_lenStr wpO_cap wpO_min wpO_slice wpO_sliceStr wpO_alloc wpO_box wpO_store wpO_call wpO_callv wpO_mkfn wpO_buildSlice wpO_mkslice wpO_append wpO_appz proA_nil proA_cons tmpX_nil tmpX_tmp tmpX_cell doneB_normal doneB_ret agK_cons agK_nil agK_guard agG_tt agG_ff agG_tf agG_ft agG_undef pureB_load results_one results_two results_nil resBs_cons resBs_nil resB_tmp resB_cell
attribute [local go_sem] kill_v kill_lp_ne kill_lp_same pro_v pro_lp_same pro_lp_ne av_v av_lp optB_some optX_some valX_eq ldX_lp ldX_v faX_lp faX_v ncX_lp ncX_ptr ncX_fn boxK_one boxK_agg stL_some stK_lp_one stK_lp_agg stK_v_one stK_v_agg proM_v proM_lp callG_mk callVG_mk callvK_fn fnG_mk ptrsA_nil ptrsA_cons callH_some whenA_true whenA_false guardH_tt guardH_ff guardH_tf guardH_ft guardH_undef agV_one agV_agg lenO_sl lenStrO_str notO_bool pickO_bool convO_int eqbO_bool eqnilO_sl extractO_tup capO_sl minO_int loadL_one loadL_all storeL_eq fillA_nil fillA_one fillA_agg nat_ge neg_ge nat_lt neg_lt buildO bin_add bin_sub bin_mul bin_eql bin_neq bin_lss bin_leq bin_gtr bin_geq str_eql str_neq str_lss str_leq str_gtr str_geq retK_some endK_mk gcK_same gcK_int gcK_bool tupO_one tupO_agg rdy_self ib ii Option.map_none Option.map_some Option.some.injEq exists_eq_left' exists_eq_left ne_eq not_false_eq_true if_true if_false List.map_cons List.map_nil List.getElem?_cons_zero List.getElem?_cons_succ List.length_cons List.length_nil List.take_succ_cons List.take_zero List.take_nil List.drop_succ_cons List.drop_zero List.drop_nil List.cons_append List.nil_append List.append_nil List.set_cons_zero List.set_cons_succ Nat.zero_add forall_const true_and and_true and_self Bool.false_eq_true false_implies true_implies implies_true Bool.not_true Bool.not_false Bool.not_eq_true' Bool.not_eq_false' beq_self_eq_true Bool.bne_true Bool.bne_false
attribute [local go_sem] lenI lenS lenP lenQ lenB lenL lenT encI_0 encS_0 encP_0 encP_1 encQ_0 encQ_1 encQ_2 encQ_3 encB_0 encB_1 encL_0 encL_1 encT_0 encT_1
attribute [local go_sem low] whenA_bool guardH_bool
/-! spec.inRange -/
def L213_0 : List AStep := [⟨.mov (.c (.bool false)), (some 6), none, []⟩]
theorem v213_0 : VS L213_0.eq_1 := rfl
def L213_1 : List AStep := [⟨.mov (.t 14), (some 6), none, []⟩]
theorem v213_1 : VS L213_1.eq_1 := rfl
def L213_2 : List AStep := ⟨.bin .leq (.t 11) (.t 12), (some 13), (some (10, true)), []⟩ :: ⟨.pick (.t 10) (.t 13) (.c (.bool false)), (some 14), none, []⟩ :: L213_1
theorem v213_2 : VS L213_2.eq_1 := rfl
def L213_3 : List AStep := ⟨.mov (.t 0), (some 11), (some (10, true)), []⟩ :: ⟨.mov (.t 2), (some 12), (some (10, true)), []⟩ :: L213_2
theorem v213_3 : VS L213_3.eq_1 := rfl
def L213_4 : List AStep := ⟨.bin .leq (.t 7) (.t 8), (some 9), none, []⟩ :: ⟨.mov (.t 9), (some 10), none, []⟩ :: L213_3
theorem v213_4 : VS L213_4.eq_1 := rfl
def L213_5 : List AStep := ⟨.mov (.t 1), (some 7), none, []⟩ :: ⟨.mov (.t 0), (some 8), none, []⟩ :: L213_4
theorem v213_5 : VS L213_5.eq_1 := rfl
def C213_0 : ACode := .seq (.reg L213_5) .ret
theorem u213_0 : VC C213_0.eq_1 := rfl
def C213_1 : ACode := .seq (.reg L213_0) C213_0
theorem u213_1 : VC C213_1.eq_1 := rfl
def F213 : AFunc := ⟨15, [.tmp 6], C213_1⟩
theorem cF213 : compB Try.prog 213 = some F213 := by kernel_rfl
attribute [local go_sem ↓] u213_0 u213_1 v213_0 v213_1 v213_2 v213_3 v213_4 v213_5
theorem c_inRange (n lo hi : Int) (h : H) : bm Try.prog 213 [.one (.int .i64 n), .one (.int .i64 lo), .one (.int .i64 hi)] h = some (ib (decide (lo ≤ n) && decide (n ≤ hi)), h) := by
  refine bm_eq cF213 ?_
  simp +contextual (maxSteps := 2000000) only [go_sem, Nat.reduceEqDiff, reduceCtorEq, Nat.reduceAdd, Nat.reduceLeDiff, F213]
  cases decide (lo ≤ n) <;> simp
/-! spec.validNumber -/
def L168_0 : List AStep := [⟨.mov (.c (.bool false)), (some 2), none, []⟩]
theorem v168_0 : VS L168_0.eq_1 := rfl
def L168_1 : List AStep := [⟨.mov (.t 4), (some 2), none, []⟩]
theorem v168_1 : VS L168_1.eq_1 := rfl
def L168_2 : List AStep := ⟨.mov (.t 0), (some 3), none, []⟩ :: ⟨.call 213 [(.t 3), (.c (.int .i64 (-99))), (.c (.int .i64 99))], (some 4), none, []⟩ :: L168_1
theorem v168_2 : VS L168_2.eq_1 := rfl
def C168_0 : ACode := .seq (.reg L168_2) .ret
theorem u168_0 : VC C168_0.eq_1 := rfl
def C168_1 : ACode := .seq (.reg L168_0) C168_0
theorem u168_1 : VC C168_1.eq_1 := rfl
def F168 : AFunc := ⟨5, [.tmp 2], C168_1⟩
theorem cF168 : compB Try.prog 168 = some F168 := by kernel_rfl
attribute [local go_sem ↓] u168_0 u168_1 v168_0 v168_1 v168_2
theorem c_validNumber (n : Int) (h : H) : bm Try.prog 168 [.one (.int .i64 n)] h = some (ib (okNum n), h) := by
  refine bm_eq cF168 ?_
  simp +contextual (maxSteps := 2000000) only [go_sem, Nat.reduceEqDiff, reduceCtorEq, Nat.reduceAdd, Nat.reduceLeDiff, F168, c_inRange, okNum]
/-! spec.validNumbers -/
def L182_0 : List AStep := [⟨.mov (.c (.bool false)), (some 2), none, []⟩]
theorem v182_0 : VS L182_0.eq_1 := rfl
def L182_1 : List AStep := [⟨.mov (.c (.int .i64 0)), (some 3), none, []⟩]
theorem v182_1 : VS L182_1.eq_1 := rfl
def L182_2 : List AStep := [⟨.len (.t 5), (some 6), none, []⟩, ⟨.bin .lss (.t 4) (.t 6), (some 7), none, []⟩]
theorem v182_2 : VS L182_2.eq_1 := rfl
def L182_3 : List AStep := ⟨.mov (.t 3), (some 4), none, []⟩ :: ⟨.mov (.t 0), (some 5), none, []⟩ :: L182_2
theorem v182_3 : VS L182_3.eq_1 := rfl
def L182_4 : List AStep := [⟨.call 168 [(.t 13)], (some 14), none, []⟩, ⟨.not (.t 14), (some 15), none, []⟩]
theorem v182_4 : VS L182_4.eq_1 := rfl
def L182_5 : List AStep := ⟨.iaddr 1 (.t 10) (.t 11), (some 12), none, []⟩ :: ⟨.load 1 false (.t 12), (some 13), none, []⟩ :: L182_4
theorem v182_5 : VS L182_5.eq_1 := rfl
def L182_6 : List AStep := ⟨.mov (.t 0), (some 10), none, []⟩ :: ⟨.mov (.t 3), (some 11), none, []⟩ :: L182_5
theorem v182_6 : VS L182_6.eq_1 := rfl
def L182_7 : List AStep := [⟨.mov (.c (.bool false)), (some 2), none, []⟩]
theorem v182_7 : VS L182_7.eq_1 := rfl
def L182_8 : List AStep := [⟨.mov (.t 9), (some 3), none, []⟩]
theorem v182_8 : VS L182_8.eq_1 := rfl
def L182_9 : List AStep := ⟨.mov (.t 3), (some 8), none, []⟩ :: ⟨.bin .add (.t 8) (.c (.int .i64 1)), (some 9), none, []⟩ :: L182_8
theorem v182_9 : VS L182_9.eq_1 := rfl
def L182_10 : List AStep := [⟨.mov (.c (.bool true)), (some 2), none, []⟩]
theorem v182_10 : VS L182_10.eq_1 := rfl
def C182_0 : ACode := .cond (.t 7) .skip (.exit 0)
theorem u182_0 : VC C182_0.eq_1 := rfl
def C182_1 : ACode := .seq (.reg L182_3) C182_0
theorem u182_1 : VC C182_1.eq_1 := rfl
def C182_2 : ACode := .seq (.reg L182_7) .ret
theorem u182_2 : VC C182_2.eq_1 := rfl
def C182_3 : ACode := .cond (.t 15) C182_2 .skip
theorem u182_3 : VC C182_3.eq_1 := rfl
def C182_4 : ACode := .seq (.reg L182_6) C182_3
theorem u182_4 : VC C182_4.eq_1 := rfl
def C182_5 : ACode := .block 1 C182_4
theorem u182_5 : VC C182_5.eq_1 := rfl
def C182_6 : ACode := .seq C182_5 (.reg L182_9)
theorem u182_6 : VC C182_6.eq_1 := rfl
def C182_7 : ACode := .seq C182_1 C182_6
theorem u182_7 : VC C182_7.eq_1 := rfl
def C182_8 : ACode := .block 0 (.loop C182_7)
theorem u182_8 : VC C182_8.eq_1 := rfl
def C182_9 : ACode := .seq (.reg L182_1) C182_8
theorem u182_9 : VC C182_9.eq_1 := rfl
def C182_10 : ACode := .seq (.reg L182_10) .ret
theorem u182_10 : VC C182_10.eq_1 := rfl
def C182_11 : ACode := .seq C182_9 C182_10
theorem u182_11 : VC C182_11.eq_1 := rfl
def C182_12 : ACode := .seq (.reg L182_0) C182_11
theorem u182_12 : VC C182_12.eq_1 := rfl
def F182 : AFunc := ⟨16, [.tmp 2], C182_12⟩
theorem cF182 : compB Try.prog 182 = some F182 := by kernel_rfl
attribute [local go_sem ↓] u182_0 u182_1 u182_2 u182_3 u182_4 u182_5 u182_6 u182_7 u182_8 u182_9 u182_10 u182_11 u182_12 v182_0 v182_1 v182_2 v182_3 v182_4 v182_5 v182_6 v182_7 v182_8 v182_9 v182_10
theorem c_validNumbers (l : List Int) (v : AV) (h : H) (hl : SlI h v l) (hn : l.length ≤ big) : bm Try.prog 182 [v] h = some (ib (l.all okNum), h) := by
  refine bm_eq cF182 ?_
  simp +contextual (maxSteps := 2000000) only [go_sem, Nat.reduceEqDiff, reduceCtorEq, Nat.reduceAdd, Nat.reduceLeDiff, F182]
  refine wpC_loop (fun i T L h' => h' = h ∧ T 0 = .v v ∧ T 3 = .v (.one (.int .i64 i)) ∧ Pre okNum true l i) l.length ?_ ?_ (Nat.zero_le _) ?_
  · rintro i T L h' hi ⟨rfl, h0, h3, hp⟩
    simp +contextual (maxSteps := 2000000) only [go_sem, Nat.reduceEqDiff, reduceCtorEq, Nat.reduceAdd, Nat.reduceLeDiff, h0, h3, hl.len, hl.iaddr hi, hl.oneO hi, c_validNumber, lt_true hi]
    (repeat' (first | refine And.intro ?_ ?_ | intro _)) <;> first | rfl | rw [wrap_next hi (big_lt hn)] | exact hp.next hi ‹_› | rw [all_stop hi ‹_›]
  · rintro T L h' ⟨rfl, h0, h3, hp⟩
    simp +contextual (maxSteps := 2000000) only [go_sem, Nat.reduceEqDiff, reduceCtorEq, Nat.reduceAdd, Nat.reduceLeDiff, h0, h3, hl.len, lt_false, hp.all]
  · simp +contextual (maxSteps := 2000000) only [go_sem, Nat.reduceEqDiff, reduceCtorEq, Nat.reduceAdd, Nat.reduceLeDiff]
    (repeat' (first | refine And.intro ?_ ?_ | intro _)) <;> first | rfl | exact Pre.zero
/-! spec.pairAt -/
def L169_0 : List AStep := [⟨.mov (.c (.int .i64 0)), (some 4), none, []⟩]
theorem v169_0 : VS L169_0.eq_1 := rfl
def L169_1 : List AStep := [⟨.mov (.c (.int .i64 0)), (some 5), none, []⟩]
theorem v169_1 : VS L169_1.eq_1 := rfl
def L169_2 : List AStep := [⟨.len (.t 7), (some 8), none, []⟩, ⟨.bin .lss (.t 6) (.t 8), (some 9), none, []⟩]
theorem v169_2 : VS L169_2.eq_1 := rfl
def L169_3 : List AStep := ⟨.mov (.t 5), (some 6), none, []⟩ :: ⟨.mov (.t 0), (some 7), none, []⟩ :: L169_2
theorem v169_3 : VS L169_3.eq_1 := rfl
def L169_4 : List AStep := [⟨.bin .eql (.t 16) (.t 17), (some 18), none, []⟩]
theorem v169_4 : VS L169_4.eq_1 := rfl
def L169_5 : List AStep := ⟨.load 1 false (.t 15), (some 16), none, []⟩ :: ⟨.mov (.t 1), (some 17), none, []⟩ :: L169_4
theorem v169_5 : VS L169_5.eq_1 := rfl
def L169_6 : List AStep := ⟨.iaddr 2 (.t 12) (.t 13), (some 14), none, []⟩ :: ⟨.faddr 0 (.t 14), (some 15), none, []⟩ :: L169_5
theorem v169_6 : VS L169_6.eq_1 := rfl
def L169_7 : List AStep := ⟨.mov (.t 0), (some 12), none, []⟩ :: ⟨.mov (.t 5), (some 13), none, []⟩ :: L169_6
theorem v169_7 : VS L169_7.eq_1 := rfl
def L169_8 : List AStep := [⟨.mov (.t 5), (some 19), none, []⟩, ⟨.mov (.t 19), (some 4), none, []⟩]
theorem v169_8 : VS L169_8.eq_1 := rfl
def L169_9 : List AStep := [⟨.mov (.t 11), (some 5), none, []⟩]
theorem v169_9 : VS L169_9.eq_1 := rfl
def L169_10 : List AStep := ⟨.mov (.t 5), (some 10), none, []⟩ :: ⟨.bin .add (.t 10) (.c (.int .i64 1)), (some 11), none, []⟩ :: L169_9
theorem v169_10 : VS L169_10.eq_1 := rfl
def L169_11 : List AStep := [⟨.mov (.c (.int .i64 (-1))), (some 4), none, []⟩]
theorem v169_11 : VS L169_11.eq_1 := rfl
def C169_0 : ACode := .cond (.t 9) .skip (.exit 0)
theorem u169_0 : VC C169_0.eq_1 := rfl
def C169_1 : ACode := .seq (.reg L169_3) C169_0
theorem u169_1 : VC C169_1.eq_1 := rfl
def C169_2 : ACode := .seq (.reg L169_8) .ret
theorem u169_2 : VC C169_2.eq_1 := rfl
def C169_3 : ACode := .cond (.t 18) C169_2 .skip
theorem u169_3 : VC C169_3.eq_1 := rfl
def C169_4 : ACode := .seq (.reg L169_7) C169_3
theorem u169_4 : VC C169_4.eq_1 := rfl
def C169_5 : ACode := .block 1 C169_4
theorem u169_5 : VC C169_5.eq_1 := rfl
def C169_6 : ACode := .seq C169_5 (.reg L169_10)
theorem u169_6 : VC C169_6.eq_1 := rfl
def C169_7 : ACode := .seq C169_1 C169_6
theorem u169_7 : VC C169_7.eq_1 := rfl
def C169_8 : ACode := .block 0 (.loop C169_7)
theorem u169_8 : VC C169_8.eq_1 := rfl
def C169_9 : ACode := .seq (.reg L169_1) C169_8
theorem u169_9 : VC C169_9.eq_1 := rfl
def C169_10 : ACode := .seq (.reg L169_11) .ret
theorem u169_10 : VC C169_10.eq_1 := rfl
def C169_11 : ACode := .seq C169_9 C169_10
theorem u169_11 : VC C169_11.eq_1 := rfl
def C169_12 : ACode := .seq (.reg L169_0) C169_11
theorem u169_12 : VC C169_12.eq_1 := rfl
def F169 : AFunc := ⟨20, [.tmp 4], C169_12⟩
theorem cF169 : compB Try.prog 169 = some F169 := by kernel_rfl
attribute [local go_sem ↓] u169_0 u169_1 u169_2 u169_3 u169_4 u169_5 u169_6 u169_7 u169_8 u169_9 u169_10 u169_11 u169_12 v169_0 v169_1 v169_2 v169_3 v169_4 v169_5 v169_6 v169_7 v169_8 v169_9 v169_10 v169_11
theorem c_pairAt (l : List Pair) (v : AV) (s : ByteArray) (h : H) (hl : SlP h v l) (hn : smP l) : bm Try.prog 169 [v, .one (.str s)] h = some (ii (pairAt l s), h) := by
  refine bm_eq cF169 ?_
  simp +contextual (maxSteps := 2000000) only [go_sem, Nat.reduceEqDiff, reduceCtorEq, Nat.reduceAdd, Nat.reduceLeDiff, F169]
  refine wpC_loop (fun i T L h' => h' = h ∧ T 0 = .v v ∧ T 1 = .v (.one (.str s)) ∧ T 5 = .v (.one (.int .i64 i)) ∧ Pre (fun p => decide (p.name = s)) false l i) l.length ?_ ?_ (Nat.zero_le _) ?_
  · rintro i T L h' hi ⟨rfl, h0, h1, h3, hp⟩
    simp +contextual (maxSteps := 2000000) only [go_sem, Nat.reduceEqDiff, reduceCtorEq, Nat.reduceAdd, Nat.reduceLeDiff, h0, h1, h3, hl.len, hl.iaddr hi, hl.fieldO hi, lt_true hi]
    (repeat' (first | refine And.intro ?_ ?_ | intro _)) <;> first | rfl | rw [wrap_next hi hn.len] | exact hp.next hi ‹_› | rw [pairAt, idx_hit hi hp ‹_›]
  · rintro T L h' ⟨rfl, h0, h1, h3, hp⟩
    simp +contextual (maxSteps := 2000000) only [go_sem, Nat.reduceEqDiff, reduceCtorEq, Nat.reduceAdd, Nat.reduceLeDiff, h0, h1, h3, hl.len, lt_false, pairAt, idx_none hp]
  · simp +contextual (maxSteps := 2000000) only [go_sem, Nat.reduceEqDiff, reduceCtorEq, Nat.reduceAdd, Nat.reduceLeDiff]
    (repeat' (first | refine And.intro ?_ ?_ | intro _)) <;> first | rfl | exact Pre.zero
/-! spec.validName -/
def L201_0 : List AStep := [⟨.mov (.c (.bool false)), (some 2), none, []⟩]
theorem v201_0 : VS L201_0.eq_1 := rfl
def L201_1 : List AStep := [⟨.mov (.c (.int .i64 0)), (some 3), none, []⟩]
theorem v201_1 : VS L201_1.eq_1 := rfl
def L201_2 : List AStep := [⟨.lenStr (.t 5), (some 6), none, []⟩, ⟨.bin .lss (.t 4) (.t 6), (some 7), none, []⟩]
theorem v201_2 : VS L201_2.eq_1 := rfl
def L201_3 : List AStep := ⟨.mov (.t 3), (some 4), none, []⟩ :: ⟨.mov (.t 0), (some 5), none, []⟩ :: L201_2
theorem v201_3 : VS L201_3.eq_1 := rfl
def L201_4 : List AStep := [⟨.bin .gtr (.t 17) (.c (.int .u8 122)), (some 18), (some (14, false)), []⟩, ⟨.pick (.t 14) (.c (.bool true)) (.t 18), (some 19), none, []⟩]
theorem v201_4 : VS L201_4.eq_1 := rfl
def L201_5 : List AStep := ⟨.mov (.t 3), (some 16), (some (14, false)), []⟩ :: ⟨.idxStr (.t 15) (.t 16), (some 17), (some (14, false)), []⟩ :: L201_4
theorem v201_5 : VS L201_5.eq_1 := rfl
def L201_6 : List AStep := ⟨.mov (.t 13), (some 14), none, []⟩ :: ⟨.mov (.t 0), (some 15), (some (14, false)), []⟩ :: L201_5
theorem v201_6 : VS L201_6.eq_1 := rfl
def L201_7 : List AStep := ⟨.idxStr (.t 10) (.t 11), (some 12), none, []⟩ :: ⟨.bin .lss (.t 12) (.c (.int .u8 97)), (some 13), none, []⟩ :: L201_6
theorem v201_7 : VS L201_7.eq_1 := rfl
def L201_8 : List AStep := ⟨.mov (.t 0), (some 10), none, []⟩ :: ⟨.mov (.t 3), (some 11), none, []⟩ :: L201_7
theorem v201_8 : VS L201_8.eq_1 := rfl
def L201_9 : List AStep := [⟨.mov (.c (.bool false)), (some 2), none, []⟩]
theorem v201_9 : VS L201_9.eq_1 := rfl
def L201_10 : List AStep := [⟨.mov (.t 9), (some 3), none, []⟩]
theorem v201_10 : VS L201_10.eq_1 := rfl
def L201_11 : List AStep := ⟨.mov (.t 3), (some 8), none, []⟩ :: ⟨.bin .add (.t 8) (.c (.int .i64 1)), (some 9), none, []⟩ :: L201_10
theorem v201_11 : VS L201_11.eq_1 := rfl
def L201_12 : List AStep := [⟨.call 213 [(.t 21), (.c (.int .i64 1)), (.c (.int .i64 6))], (some 22), none, []⟩, ⟨.mov (.t 22), (some 2), none, []⟩]
theorem v201_12 : VS L201_12.eq_1 := rfl
def L201_13 : List AStep := ⟨.mov (.t 0), (some 20), none, []⟩ :: ⟨.lenStr (.t 20), (some 21), none, []⟩ :: L201_12
theorem v201_13 : VS L201_13.eq_1 := rfl
def C201_0 : ACode := .cond (.t 7) .skip (.exit 0)
theorem u201_0 : VC C201_0.eq_1 := rfl
def C201_1 : ACode := .seq (.reg L201_3) C201_0
theorem u201_1 : VC C201_1.eq_1 := rfl
def C201_2 : ACode := .seq (.reg L201_9) .ret
theorem u201_2 : VC C201_2.eq_1 := rfl
def C201_3 : ACode := .cond (.t 19) C201_2 .skip
theorem u201_3 : VC C201_3.eq_1 := rfl
def C201_4 : ACode := .seq (.reg L201_8) C201_3
theorem u201_4 : VC C201_4.eq_1 := rfl
def C201_5 : ACode := .block 1 C201_4
theorem u201_5 : VC C201_5.eq_1 := rfl
def C201_6 : ACode := .seq C201_5 (.reg L201_11)
theorem u201_6 : VC C201_6.eq_1 := rfl
def C201_7 : ACode := .seq C201_1 C201_6
theorem u201_7 : VC C201_7.eq_1 := rfl
def C201_8 : ACode := .block 0 (.loop C201_7)
theorem u201_8 : VC C201_8.eq_1 := rfl
def C201_9 : ACode := .seq (.reg L201_1) C201_8
theorem u201_9 : VC C201_9.eq_1 := rfl
def C201_10 : ACode := .seq (.reg L201_13) .ret
theorem u201_10 : VC C201_10.eq_1 := rfl
def C201_11 : ACode := .seq C201_9 C201_10
theorem u201_11 : VC C201_11.eq_1 := rfl
def C201_12 : ACode := .seq (.reg L201_0) C201_11
theorem u201_12 : VC C201_12.eq_1 := rfl
def F201 : AFunc := ⟨23, [.tmp 2], C201_12⟩
theorem cF201 : compB Try.prog 201 = some F201 := by kernel_rfl
attribute [local go_sem ↓] u201_0 u201_1 u201_2 u201_3 u201_4 u201_5 u201_6 u201_7 u201_8 u201_9 u201_10 u201_11 u201_12 v201_0 v201_1 v201_2 v201_3 v201_4 v201_5 v201_6 v201_7 v201_8 v201_9 v201_10 v201_11 v201_12 v201_13
theorem c_validName (s : ByteArray) (h : H) (hn : s.size < 2 ^ 62) : bm Try.prog 201 [.one (.str s)] h = some (ib (okName s), h) := by
  refine bm_eq cF201 ?_
  simp +contextual (maxSteps := 2000000) only [go_sem, Nat.reduceEqDiff, reduceCtorEq, Nat.reduceAdd, Nat.reduceLeDiff, F201]
  have hsz : s.data.toList.length = s.size := Array.length_toList
  refine wpC_loop (fun i T L h' => h' = h ∧ T 0 = .v (.one (.str s)) ∧ T 3 = .v (.one (.int .i64 i)) ∧ Pre isLow true s.data.toList i) s.size ?_ ?_ (Nat.zero_le _) ?_
  · rintro i T L h' hi ⟨rfl, h0, h3, hp⟩
    simp +contextual (maxSteps := 2000000) only [go_sem, Nat.reduceEqDiff, reduceCtorEq, Nat.reduceAdd, Nat.reduceLeDiff, h0, h3, idx_at hi, lt_true hi]
    have e : s.data.toList[i]'(by omega) = s.data[i]'hi := Array.getElem_toList _
    have bad : isLow (s.data[i]'hi) = false → okName s = false := fun hx => by
      unfold okName
      rw [all_stop (l := s.data.toList) (i := i) (by omega) (by rw [e]; exact hx)]
      rfl
    have low : isLow (s.data[i]'hi) = (!(decide ((↑(s.data[i]'hi).toNat : Int) < 97)) && !(decide ((↑(s.data[i]'hi).toNat : Int) > 122))) := by
      unfold isLow
      rw [Bool.eq_iff_iff]
      simp
      omega
    (repeat' (first | refine And.intro ?_ ?_ | intro _)) <;> first | rfl | rw [wrap_next hi hn] | exact hp.next (by omega) (by rw [e, low]; simp_all) | rw [bad (by rw [low]; simp_all)]
  · rintro T L h' ⟨rfl, h0, h3, hp⟩
    rw [← hsz] at hp
    simp +contextual (maxSteps := 2000000) only [go_sem, Nat.reduceEqDiff, reduceCtorEq, Nat.reduceAdd, Nat.reduceLeDiff, h0, h3, lt_false, c_inRange, okName, hp.all, Bool.true_and]
  · simp +contextual (maxSteps := 2000000) only [go_sem, Nat.reduceEqDiff, reduceCtorEq, Nat.reduceAdd, Nat.reduceLeDiff]
    (repeat' (first | refine And.intro ?_ ?_ | intro _)) <;> first | rfl | exact Pre.zero
/-! spec.validPairs -/
def L183_0 : List AStep := [⟨.mov (.c (.bool false)), (some 2), none, []⟩]
theorem v183_0 : VS L183_0.eq_1 := rfl
def L183_1 : List AStep := [⟨.mov (.c (.int .i64 0)), (some 3), none, []⟩]
theorem v183_1 : VS L183_1.eq_1 := rfl
def L183_2 : List AStep := [⟨.len (.t 5), (some 6), none, []⟩, ⟨.bin .lss (.t 4) (.t 6), (some 7), none, []⟩]
theorem v183_2 : VS L183_2.eq_1 := rfl
def L183_3 : List AStep := ⟨.mov (.t 3), (some 4), none, []⟩ :: ⟨.mov (.t 0), (some 5), none, []⟩ :: L183_2
theorem v183_3 : VS L183_3.eq_1 := rfl
def L183_4 : List AStep := [⟨.not (.t 23), (some 24), (some (17, false)), []⟩, ⟨.pick (.t 17) (.c (.bool true)) (.t 24), (some 25), none, []⟩]
theorem v183_4 : VS L183_4.eq_1 := rfl
def L183_5 : List AStep := ⟨.load 1 false (.t 21), (some 22), (some (17, false)), []⟩ :: ⟨.call 168 [(.t 22)], (some 23), (some (17, false)), []⟩ :: L183_4
theorem v183_5 : VS L183_5.eq_1 := rfl
def L183_6 : List AStep := ⟨.iaddr 2 (.t 18) (.t 19), (some 20), (some (17, false)), []⟩ :: ⟨.faddr 1 (.t 20), (some 21), (some (17, false)), []⟩ :: L183_5
theorem v183_6 : VS L183_6.eq_1 := rfl
def L183_7 : List AStep := ⟨.mov (.t 0), (some 18), (some (17, false)), []⟩ :: ⟨.mov (.t 3), (some 19), (some (17, false)), []⟩ :: L183_6
theorem v183_7 : VS L183_7.eq_1 := rfl
def L183_8 : List AStep := ⟨.not (.t 15), (some 16), none, []⟩ :: ⟨.mov (.t 16), (some 17), none, []⟩ :: L183_7
theorem v183_8 : VS L183_8.eq_1 := rfl
def L183_9 : List AStep := ⟨.load 1 false (.t 13), (some 14), none, []⟩ :: ⟨.call 201 [(.t 14)], (some 15), none, []⟩ :: L183_8
theorem v183_9 : VS L183_9.eq_1 := rfl
def L183_10 : List AStep := ⟨.iaddr 2 (.t 10) (.t 11), (some 12), none, []⟩ :: ⟨.faddr 0 (.t 12), (some 13), none, []⟩ :: L183_9
theorem v183_10 : VS L183_10.eq_1 := rfl
def L183_11 : List AStep := ⟨.mov (.t 0), (some 10), none, []⟩ :: ⟨.mov (.t 3), (some 11), none, []⟩ :: L183_10
theorem v183_11 : VS L183_11.eq_1 := rfl
def L183_12 : List AStep := [⟨.mov (.c (.bool false)), (some 2), none, []⟩]
theorem v183_12 : VS L183_12.eq_1 := rfl
def L183_13 : List AStep := [⟨.mov (.t 9), (some 3), none, []⟩]
theorem v183_13 : VS L183_13.eq_1 := rfl
def L183_14 : List AStep := ⟨.mov (.t 3), (some 8), none, []⟩ :: ⟨.bin .add (.t 8) (.c (.int .i64 1)), (some 9), none, []⟩ :: L183_13
theorem v183_14 : VS L183_14.eq_1 := rfl
def L183_15 : List AStep := [⟨.mov (.c (.bool true)), (some 2), none, []⟩]
theorem v183_15 : VS L183_15.eq_1 := rfl
def C183_0 : ACode := .cond (.t 7) .skip (.exit 0)
theorem u183_0 : VC C183_0.eq_1 := rfl
def C183_1 : ACode := .seq (.reg L183_3) C183_0
theorem u183_1 : VC C183_1.eq_1 := rfl
def C183_2 : ACode := .seq (.reg L183_12) .ret
theorem u183_2 : VC C183_2.eq_1 := rfl
def C183_3 : ACode := .cond (.t 25) C183_2 .skip
theorem u183_3 : VC C183_3.eq_1 := rfl
def C183_4 : ACode := .seq (.reg L183_11) C183_3
theorem u183_4 : VC C183_4.eq_1 := rfl
def C183_5 : ACode := .block 1 C183_4
theorem u183_5 : VC C183_5.eq_1 := rfl
def C183_6 : ACode := .seq C183_5 (.reg L183_14)
theorem u183_6 : VC C183_6.eq_1 := rfl
def C183_7 : ACode := .seq C183_1 C183_6
theorem u183_7 : VC C183_7.eq_1 := rfl
def C183_8 : ACode := .block 0 (.loop C183_7)
theorem u183_8 : VC C183_8.eq_1 := rfl
def C183_9 : ACode := .seq (.reg L183_1) C183_8
theorem u183_9 : VC C183_9.eq_1 := rfl
def C183_10 : ACode := .seq (.reg L183_15) .ret
theorem u183_10 : VC C183_10.eq_1 := rfl
def C183_11 : ACode := .seq C183_9 C183_10
theorem u183_11 : VC C183_11.eq_1 := rfl
def C183_12 : ACode := .seq (.reg L183_0) C183_11
theorem u183_12 : VC C183_12.eq_1 := rfl
def F183 : AFunc := ⟨26, [.tmp 2], C183_12⟩
theorem cF183 : compB Try.prog 183 = some F183 := by kernel_rfl
attribute [local go_sem ↓] u183_0 u183_1 u183_2 u183_3 u183_4 u183_5 u183_6 u183_7 u183_8 u183_9 u183_10 u183_11 u183_12 v183_0 v183_1 v183_2 v183_3 v183_4 v183_5 v183_6 v183_7 v183_8 v183_9 v183_10 v183_11 v183_12 v183_13 v183_14 v183_15
theorem c_validPairs (l : List Pair) (v : AV) (h : H) (hl : SlP h v l) (hn : smP l) : bm Try.prog 183 [v] h = some (ib (l.all okPair), h) := by
  refine bm_eq cF183 ?_
  simp +contextual (maxSteps := 2000000) only [go_sem, Nat.reduceEqDiff, reduceCtorEq, Nat.reduceAdd, Nat.reduceLeDiff, F183]
  refine wpC_loop (fun i T L h' => h' = h ∧ T 0 = .v v ∧ T 3 = .v (.one (.int .i64 i)) ∧ Pre okPair true l i) l.length ?_ ?_ (Nat.zero_le _) ?_
  · rintro i T L h' hi ⟨rfl, h0, h3, hp⟩
    simp +contextual (maxSteps := 2000000) only [go_sem, Nat.reduceEqDiff, reduceCtorEq, Nat.reduceAdd, Nat.reduceLeDiff, h0, h3, hl.len, hl.iaddr hi, hl.fieldO hi, c_validNumber, c_validName _ _ (hn.at hi), lt_true hi]
    (repeat' (first | refine And.intro ?_ ?_ | intro _)) <;> first | rfl | rw [wrap_next hi hn.len] | exact hp.next hi (by simp [okPair, *]) | rw [all_stop hi (by simp [okPair, *])]
  · rintro T L h' ⟨rfl, h0, h3, hp⟩
    simp +contextual (maxSteps := 2000000) only [go_sem, Nat.reduceEqDiff, reduceCtorEq, Nat.reduceAdd, Nat.reduceLeDiff, h0, h3, hl.len, lt_false, hp.all]
  · simp +contextual (maxSteps := 2000000) only [go_sem, Nat.reduceEqDiff, reduceCtorEq, Nat.reduceAdd, Nat.reduceLeDiff]
    (repeat' (first | refine And.intro ?_ ?_ | intro _)) <;> first | rfl | exact Pre.zero
/-! spec.validFlat -/
def L105_0 : List AStep := [⟨.box 30 (.t 0), (some 1), none, []⟩, ⟨.mov (.c (.bool false)), (some 2), none, []⟩]
theorem v105_0 : VS L105_0.eq_1 := rfl
def L105_1 : List AStep := [⟨.mov (.c (.int .i64 0)), (some 3), none, []⟩]
theorem v105_1 : VS L105_1.eq_1 := rfl
def L105_2 : List AStep := [⟨.bin .lss (.t 4) (.t 7), (some 8), none, []⟩]
theorem v105_2 : VS L105_2.eq_1 := rfl
def L105_3 : List AStep := ⟨.load 1 false (.t 5), (some 6), none, []⟩ :: ⟨.len (.t 6), (some 7), none, []⟩ :: L105_2
theorem v105_3 : VS L105_3.eq_1 := rfl
def L105_4 : List AStep := ⟨.mov (.t 3), (some 4), none, []⟩ :: ⟨.faddr 1 (.t 1), (some 5), none, []⟩ :: L105_3
theorem v105_4 : VS L105_4.eq_1 := rfl
def L105_5 : List AStep := [⟨.call 169 [(.t 14), (.t 20)], (some 21), none, []⟩, ⟨.bin .geq (.t 21) (.c (.int .i64 0)), (some 22), none, []⟩]
theorem v105_5 : VS L105_5.eq_1 := rfl
def L105_6 : List AStep := ⟨.faddr 0 (.t 18), (some 19), none, []⟩ :: ⟨.load 1 false (.t 19), (some 20), none, []⟩ :: L105_5
theorem v105_6 : VS L105_6.eq_1 := rfl
def L105_7 : List AStep := ⟨.mov (.t 3), (some 17), none, []⟩ :: ⟨.iaddr 2 (.t 16) (.t 17), (some 18), none, []⟩ :: L105_6
theorem v105_7 : VS L105_7.eq_1 := rfl
def L105_8 : List AStep := ⟨.faddr 1 (.t 1), (some 15), none, []⟩ :: ⟨.load 1 false (.t 15), (some 16), none, []⟩ :: L105_7
theorem v105_8 : VS L105_8.eq_1 := rfl
def L105_9 : List AStep := ⟨.mov (.t 3), (some 13), none, []⟩ :: ⟨.slice 86 2 (.t 12) none (some (.t 13)) none, (some 14), none, []⟩ :: L105_8
theorem v105_9 : VS L105_9.eq_1 := rfl
def L105_10 : List AStep := ⟨.faddr 1 (.t 1), (some 11), none, []⟩ :: ⟨.load 1 false (.t 11), (some 12), none, []⟩ :: L105_9
theorem v105_10 : VS L105_10.eq_1 := rfl
def L105_11 : List AStep := [⟨.mov (.c (.bool false)), (some 2), none, []⟩]
theorem v105_11 : VS L105_11.eq_1 := rfl
def L105_12 : List AStep := [⟨.mov (.t 10), (some 3), none, []⟩]
theorem v105_12 : VS L105_12.eq_1 := rfl
def L105_13 : List AStep := ⟨.mov (.t 3), (some 9), none, []⟩ :: ⟨.bin .add (.t 9) (.c (.int .i64 1)), (some 10), none, []⟩ :: L105_12
theorem v105_13 : VS L105_13.eq_1 := rfl
def L105_14 : List AStep := [⟨.mov (.t 42), (some 2), none, []⟩]
theorem v105_14 : VS L105_14.eq_1 := rfl
def L105_15 : List AStep := ⟨.bin .leq (.t 40) (.c (.int .i64 8)), (some 41), (some (37, true)), []⟩ :: ⟨.pick (.t 37) (.t 41) (.c (.bool false)), (some 42), none, []⟩ :: L105_14
theorem v105_15 : VS L105_15.eq_1 := rfl
def L105_16 : List AStep := ⟨.load 1 false (.t 38), (some 39), (some (37, true)), []⟩ :: ⟨.len (.t 39), (some 40), (some (37, true)), []⟩ :: L105_15
theorem v105_16 : VS L105_16.eq_1 := rfl
def L105_17 : List AStep := ⟨.mov (.t 36), (some 37), none, []⟩ :: ⟨.faddr 1 (.t 1), (some 38), (some (37, true)), []⟩ :: L105_16
theorem v105_17 : VS L105_17.eq_1 := rfl
def L105_18 : List AStep := ⟨.bin .leq (.t 34) (.c (.int .i64 8)), (some 35), (some (31, true)), []⟩ :: ⟨.pick (.t 31) (.t 35) (.c (.bool false)), (some 36), none, []⟩ :: L105_17
theorem v105_18 : VS L105_18.eq_1 := rfl
def L105_19 : List AStep := ⟨.load 1 false (.t 32), (some 33), (some (31, true)), []⟩ :: ⟨.len (.t 33), (some 34), (some (31, true)), []⟩ :: L105_18
theorem v105_19 : VS L105_19.eq_1 := rfl
def L105_20 : List AStep := ⟨.mov (.t 30), (some 31), none, []⟩ :: ⟨.faddr 0 (.t 1), (some 32), (some (31, true)), []⟩ :: L105_19
theorem v105_20 : VS L105_20.eq_1 := rfl
def L105_21 : List AStep := ⟨.call 183 [(.t 28)], (some 29), (some (26, true)), []⟩ :: ⟨.pick (.t 26) (.t 29) (.c (.bool false)), (some 30), none, []⟩ :: L105_20
theorem v105_21 : VS L105_21.eq_1 := rfl
def L105_22 : List AStep := ⟨.faddr 1 (.t 1), (some 27), (some (26, true)), []⟩ :: ⟨.load 1 false (.t 27), (some 28), (some (26, true)), []⟩ :: L105_21
theorem v105_22 : VS L105_22.eq_1 := rfl
def L105_23 : List AStep := ⟨.call 182 [(.t 24)], (some 25), none, []⟩ :: ⟨.mov (.t 25), (some 26), none, []⟩ :: L105_22
theorem v105_23 : VS L105_23.eq_1 := rfl
def L105_24 : List AStep := ⟨.faddr 0 (.t 1), (some 23), none, []⟩ :: ⟨.load 1 false (.t 23), (some 24), none, []⟩ :: L105_23
theorem v105_24 : VS L105_24.eq_1 := rfl
def C105_0 : ACode := .cond (.t 8) .skip (.exit 0)
theorem u105_0 : VC C105_0.eq_1 := rfl
def C105_1 : ACode := .seq (.reg L105_4) C105_0
theorem u105_1 : VC C105_1.eq_1 := rfl
def C105_2 : ACode := .seq (.reg L105_11) .ret
theorem u105_2 : VC C105_2.eq_1 := rfl
def C105_3 : ACode := .cond (.t 22) C105_2 .skip
theorem u105_3 : VC C105_3.eq_1 := rfl
def C105_4 : ACode := .seq (.reg L105_10) C105_3
theorem u105_4 : VC C105_4.eq_1 := rfl
def C105_5 : ACode := .block 1 C105_4
theorem u105_5 : VC C105_5.eq_1 := rfl
def C105_6 : ACode := .seq C105_5 (.reg L105_13)
theorem u105_6 : VC C105_6.eq_1 := rfl
def C105_7 : ACode := .seq C105_1 C105_6
theorem u105_7 : VC C105_7.eq_1 := rfl
def C105_8 : ACode := .block 0 (.loop C105_7)
theorem u105_8 : VC C105_8.eq_1 := rfl
def C105_9 : ACode := .seq (.reg L105_1) C105_8
theorem u105_9 : VC C105_9.eq_1 := rfl
def C105_10 : ACode := .seq (.reg L105_24) .ret
theorem u105_10 : VC C105_10.eq_1 := rfl
def C105_11 : ACode := .seq C105_9 C105_10
theorem u105_11 : VC C105_11.eq_1 := rfl
def C105_12 : ACode := .seq (.reg L105_0) C105_11
theorem u105_12 : VC C105_12.eq_1 := rfl
def F105 : AFunc := ⟨43, [.tmp 2], C105_12⟩
theorem cF105 : compB Try.prog 105 = some F105 := by kernel_rfl
attribute [local go_sem ↓] u105_0 u105_1 u105_2 u105_3 u105_4 u105_5 u105_6 u105_7 u105_8 u105_9 u105_10 u105_11 u105_12 v105_0 v105_1 v105_2 v105_3 v105_4 v105_5 v105_6 v105_7 v105_8 v105_9 v105_10 v105_11 v105_12 v105_13 v105_14 v105_15 v105_16 v105_17 v105_18 v105_19 v105_20 v105_21 v105_22 v105_23 v105_24
theorem c_validFlat (f : Flat) (pv nv : CV) (h : H) (hp : SlI h (.one pv) f.pl) (hq : SlP h (.one nv) f.nl) (hn : smF f) : bm Try.prog 105 [.agg [pv, nv]] h = some (ib (okFlat f), h) := by
  refine bm_eq cF105 ?_
  simp +contextual (maxSteps := 2000000) only [go_sem, Nat.reduceEqDiff, reduceCtorEq, Nat.reduceAdd, Nat.reduceLeDiff, F105]
  refine wpC_loop (fun i T L h' => h' = h ∧ T 1 = .lp 1 0 ∧ (L 1).2 = [pv, nv] ∧ T 3 = .v (.one (.int .i64 i)) ∧ Upto (newAt Pair.name f.nl) i) f.nl.length ?_ ?_ (Nat.zero_le _) ?_
  · rintro i T L h' hi ⟨rfl, t1, l1, t3, hu⟩
    obtain ⟨v', e1, s1⟩ := hq.takeO (i := i) (by omega) (kd := .i64)
    have e2 : decide (pairAt (f.nl.take i) f.nl[i].name ≥ 0) = !(newAt Pair.name f.nl i) := newAt_ge hi
    simp +contextual (maxSteps := 2000000) only [go_sem, Nat.reduceEqDiff, reduceCtorEq, Nat.reduceAdd, Nat.reduceLeDiff, e2, t1, l1, t3, hq.len, hq.iaddr hi, hq.fieldO hi, lt_true hi, e1, c_pairAt _ _ _ _ s1 (hn.nl.take i)]
    (repeat' (first | refine And.intro ?_ ?_ | intro _)) <;> first | rfl | rw [wrap_next hi hn.nl.len] | exact hu.next (by simp_all) | rw [okFlat, apart_not hi (by simp_all)]; rfl
  · rintro T L h' ⟨rfl, t1, l1, t3, hu⟩
    simp +contextual (maxSteps := 2000000) only [go_sem, Nat.reduceEqDiff, reduceCtorEq, Nat.reduceAdd, Nat.reduceLeDiff, t1, l1, t3, hq.len, hp.len, lt_false, c_validNumbers _ _ _ hp hn.pl, c_validPairs _ _ _ hq hn.nl, okFlat, apart_of hu]
    (repeat' (first | refine And.intro ?_ ?_ | intro _)) <;> first | rfl | simp_all
  · simp +contextual (maxSteps := 2000000) only [go_sem, Nat.reduceEqDiff, reduceCtorEq, Nat.reduceAdd, Nat.reduceLeDiff]
    (repeat' (first | refine And.intro ?_ ?_ | intro _)) <;> first | rfl | exact Upto.zero
end Go.Proofs.Ytnphlonhogcedaa.Am
