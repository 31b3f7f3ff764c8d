/- Contracts of the laws: sizes. -/
import Derived.Test.YtdalgphpacikkaaGreatDat
namespace Go.Proofs.YtdalgphpacikkaaGreat.Am
open Go
set_option maxRecDepth 100000
set_option maxHeartbeats 4000000
set_option linter.unusedSimpArgs false
set_option linter.unusedVariables false
attribute [local go_sem ↓] bv_t bv_c ev_t ev_c put_same put_ne put_none kill_at pro_at lb_same lb_ne start_zero start_succ wpC_seq wpC_reg wpC_cond wpC_block wpC_skip wpC_exit wpC_ret thenQ_normal thenQ_exit thenQ_ret inBlk_normal inBlk_exit inBlk_ret wpS_nil wpS_step wpS_again wpS_guard wpO_mov wpO_load wpO_faddr wpO_nilCheck wpO_pick wpO_build wpO_bin wpO_eqb wpO_eqst wpO_eqnil wpO_not wpO_conv wpO_bytesStr wpO_iaddr wpO_idxStr wpO_field wpO_extract wpO_len wpO_lenStr wpO_cap wpO_min wpO_slice wpO_sliceStr wpO_alloc wpO_box wpO_store wpO_call wpO_callv wpO_mkfn wpO_buildSlice wpO_mkslice wpO_append wpO_appz proA_nil proA_cons tmpX_nil tmpX_tmp tmpX_cell doneB_normal doneB_ret agK_cons agK_nil agK_guard agG_tt agG_ff agG_tf agG_ft agG_undef pureB_load results_one results_two results_nil resBs_cons resBs_nil resB_tmp resB_cell
attribute [local go_sem] kill_v kill_lp_ne kill_lp_same pro_v pro_lp_same pro_lp_ne av_v av_lp optB_some optX_some valX_eq ldX_lp ldX_v faX_lp faX_v ncX_lp ncX_ptr ncX_fn boxK_one boxK_agg stL_some stK_lp_one stK_lp_agg stK_v_one stK_v_agg proM_v proM_lp callG_mk callVG_mk callvK_fn fnG_mk ptrsA_nil ptrsA_cons callH_some whenA_true whenA_false guardH_tt guardH_ff guardH_tf guardH_ft guardH_undef agV_one agV_agg lenO_sl lenStrO_str notO_bool pickO_bool convO_int eqbO_bool eqnilO_sl extractO_tup capO_sl minO_int loadL_one loadL_all storeL_eq fillA_nil fillA_one fillA_agg nat_ge neg_ge nat_lt neg_lt buildO bin_add bin_sub bin_mul bin_eql bin_neq bin_lss bin_leq bin_gtr bin_geq str_eql str_neq str_lss str_leq str_gtr str_geq retK_some endK_mk gcK_same gcK_int gcK_bool tupO_one tupO_agg rdy_self ib ii Option.map_none Option.map_some Option.some.injEq exists_eq_left' exists_eq_left ne_eq not_false_eq_true if_true if_false List.map_cons List.map_nil List.getElem?_cons_zero List.getElem?_cons_succ List.length_cons List.length_nil List.take_succ_cons List.take_zero List.take_nil List.drop_succ_cons List.drop_zero List.drop_nil List.cons_append List.nil_append List.append_nil List.set_cons_zero List.set_cons_succ Nat.zero_add forall_const true_and and_true and_self Bool.false_eq_true false_implies true_implies implies_true Bool.not_true Bool.not_false Bool.not_eq_true' Bool.not_eq_false' beq_self_eq_true Bool.bne_true Bool.bne_false
attribute [local go_sem] lenI lenS lenP lenQ lenB lenL lenT encI_0 encS_0 encP_0 encP_1 encQ_0 encQ_1 encQ_2 encQ_3 encB_0 encB_1 encL_0 encL_1 encT_0 encT_1
attribute [local go_sem low] whenA_bool guardH_bool
theorem i64_sub {a : Int} {n : Nat} (h1 : 0 ≤ a) (h2 : a ≤ 1048576) (h3 : n ≤ far) : IntKind.i64.wrap (a - n) = a - n := by unfold far at h3; rw [i64_wrap (by omega) (by omega)]
/-! laws.szParam -/
def L37_0 : List AStep := [⟨.box 68 (.t 0), (some 2), none, []⟩, ⟨.mov (.c (.int .i64 0)), (some 4), none, []⟩]
theorem v37_0 : VS L37_0.eq_1 := rfl
def L37_1 : List AStep := [⟨.bin .sub (.t 5) (.t 8), (some 9), none, []⟩, ⟨.mov (.t 9), (some 1), none, []⟩]
theorem v37_1 : VS L37_1.eq_1 := rfl
def L37_2 : List AStep := ⟨.load 1 false (.t 6), (some 7), none, []⟩ :: ⟨.lenStr (.t 7), (some 8), none, []⟩ :: L37_1
theorem v37_2 : VS L37_2.eq_1 := rfl
def L37_3 : List AStep := ⟨.mov (.t 1), (some 5), none, []⟩ :: ⟨.faddr 0 (.t 2), (some 6), none, []⟩ :: L37_2
theorem v37_3 : VS L37_3.eq_1 := rfl
def L37_4 : List AStep := [⟨.mov (.t 1), (some 10), none, []⟩, ⟨.bin .lss (.t 10) (.c (.int .i64 0)), (some 11), none, []⟩]
theorem v37_4 : VS L37_4.eq_1 := rfl
def L37_5 : List AStep := [⟨.mov (.c (.int .i64 (-1))), (some 4), none, []⟩]
theorem v37_5 : VS L37_5.eq_1 := rfl
def L37_6 : List AStep := [⟨.mov (.t 1), (some 12), none, []⟩, ⟨.mov (.t 12), (some 4), none, []⟩]
theorem v37_6 : VS L37_6.eq_1 := rfl
def C37_0 : ACode := .seq (.reg L37_5) .ret
theorem u37_0 : VC C37_0.eq_1 := rfl
def C37_1 : ACode := .cond (.t 11) C37_0 .skip
theorem u37_1 : VC C37_1.eq_1 := rfl
def C37_2 : ACode := .seq (.reg L37_4) C37_1
theorem u37_2 : VC C37_2.eq_1 := rfl
def C37_3 : ACode := .seq (.reg L37_6) .ret
theorem u37_3 : VC C37_3.eq_1 := rfl
def C37_4 : ACode := .seq C37_2 C37_3
theorem u37_4 : VC C37_4.eq_1 := rfl
def C37_5 : ACode := .seq (.reg L37_3) C37_4
theorem u37_5 : VC C37_5.eq_1 := rfl
def C37_6 : ACode := .seq (.reg L37_0) C37_5
theorem u37_6 : VC C37_6.eq_1 := rfl
def F37 : AFunc := ⟨13, [.tmp 4], C37_6⟩
theorem cF37 : compB Tryz.prog 37 = some F37 := by kernel_rfl
attribute [local go_sem ↓] u37_0 u37_1 u37_2 u37_3 u37_4 u37_5 u37_6 v37_0 v37_1 v37_2 v37_3 v37_4 v37_5 v37_6
theorem c_szParam (p : Param) (left : Int) (h : H) (h1 : 0 ≤ left) (h2 : left ≤ 1048576) (k0 : p.name.size ≤ far) : bm Tryz.prog 37 [.agg (encQ p), .one (.int .i64 left)] h = some (ii (szr left (wtQ p)), h) := by
  refine bm_eq cF37 ?_
  simp +contextual (maxSteps := 2000000) only [go_sem, Nat.reduceEqDiff, reduceCtorEq, Nat.reduceAdd, Nat.reduceLeDiff, F37, i64_sub h1 h2 k0]
  unfold szr wtQ
  (repeat' (first | refine And.intro ?_ ?_ | intro _)) <;> first | (simp_all; done) | (simp_all; omega)
/-! laws.szPair -/
def L38_0 : List AStep := [⟨.box 71 (.t 0), (some 2), none, []⟩, ⟨.mov (.c (.int .i64 0)), (some 4), none, []⟩]
theorem v38_0 : VS L38_0.eq_1 := rfl
def L38_1 : List AStep := [⟨.bin .sub (.t 5) (.t 8), (some 9), none, []⟩, ⟨.mov (.t 9), (some 1), none, []⟩]
theorem v38_1 : VS L38_1.eq_1 := rfl
def L38_2 : List AStep := ⟨.load 1 false (.t 6), (some 7), none, []⟩ :: ⟨.lenStr (.t 7), (some 8), none, []⟩ :: L38_1
theorem v38_2 : VS L38_2.eq_1 := rfl
def L38_3 : List AStep := ⟨.mov (.t 1), (some 5), none, []⟩ :: ⟨.faddr 0 (.t 2), (some 6), none, []⟩ :: L38_2
theorem v38_3 : VS L38_3.eq_1 := rfl
def L38_4 : List AStep := [⟨.mov (.t 1), (some 10), none, []⟩, ⟨.bin .lss (.t 10) (.c (.int .i64 0)), (some 11), none, []⟩]
theorem v38_4 : VS L38_4.eq_1 := rfl
def L38_5 : List AStep := [⟨.mov (.c (.int .i64 (-1))), (some 4), none, []⟩]
theorem v38_5 : VS L38_5.eq_1 := rfl
def L38_6 : List AStep := [⟨.mov (.t 1), (some 12), none, []⟩, ⟨.mov (.t 12), (some 4), none, []⟩]
theorem v38_6 : VS L38_6.eq_1 := rfl
def C38_0 : ACode := .seq (.reg L38_5) .ret
theorem u38_0 : VC C38_0.eq_1 := rfl
def C38_1 : ACode := .cond (.t 11) C38_0 .skip
theorem u38_1 : VC C38_1.eq_1 := rfl
def C38_2 : ACode := .seq (.reg L38_4) C38_1
theorem u38_2 : VC C38_2.eq_1 := rfl
def C38_3 : ACode := .seq (.reg L38_6) .ret
theorem u38_3 : VC C38_3.eq_1 := rfl
def C38_4 : ACode := .seq C38_2 C38_3
theorem u38_4 : VC C38_4.eq_1 := rfl
def C38_5 : ACode := .seq (.reg L38_3) C38_4
theorem u38_5 : VC C38_5.eq_1 := rfl
def C38_6 : ACode := .seq (.reg L38_0) C38_5
theorem u38_6 : VC C38_6.eq_1 := rfl
def F38 : AFunc := ⟨13, [.tmp 4], C38_6⟩
theorem cF38 : compB Tryz.prog 38 = some F38 := by kernel_rfl
attribute [local go_sem ↓] u38_0 u38_1 u38_2 u38_3 u38_4 u38_5 u38_6 v38_0 v38_1 v38_2 v38_3 v38_4 v38_5 v38_6
theorem c_szPair (p : Pair) (left : Int) (h : H) (h1 : 0 ≤ left) (h2 : left ≤ 1048576) (k0 : p.name.size ≤ far) : bm Tryz.prog 38 [.agg (encP p), .one (.int .i64 left)] h = some (ii (szr left (wtP p)), h) := by
  refine bm_eq cF38 ?_
  simp +contextual (maxSteps := 2000000) only [go_sem, Nat.reduceEqDiff, reduceCtorEq, Nat.reduceAdd, Nat.reduceLeDiff, F38, i64_sub h1 h2 k0]
  unfold szr wtP
  (repeat' (first | refine And.intro ?_ ?_ | intro _)) <;> first | (simp_all; done) | (simp_all; omega)
/-! laws.szIntS -/
def L18_0 : List AStep := [⟨.mov (.c (.int .i64 0)), (some 4), none, []⟩]
theorem v18_0 : VS L18_0.eq_1 := rfl
def L18_1 : List AStep := [⟨.mov (.t 8), (some 1), none, []⟩]
theorem v18_1 : VS L18_1.eq_1 := rfl
def L18_2 : List AStep := ⟨.len (.t 6), (some 7), none, []⟩ :: ⟨.bin .sub (.t 5) (.t 7), (some 8), none, []⟩ :: L18_1
theorem v18_2 : VS L18_2.eq_1 := rfl
def L18_3 : List AStep := ⟨.mov (.t 1), (some 5), none, []⟩ :: ⟨.mov (.t 0), (some 6), none, []⟩ :: L18_2
theorem v18_3 : VS L18_3.eq_1 := rfl
def L18_4 : List AStep := [⟨.mov (.t 1), (some 9), none, []⟩, ⟨.bin .lss (.t 9) (.c (.int .i64 0)), (some 10), none, []⟩]
theorem v18_4 : VS L18_4.eq_1 := rfl
def L18_5 : List AStep := [⟨.mov (.c (.int .i64 (-1))), (some 4), none, []⟩]
theorem v18_5 : VS L18_5.eq_1 := rfl
def L18_6 : List AStep := [⟨.mov (.t 1), (some 11), none, []⟩, ⟨.mov (.t 11), (some 4), none, []⟩]
theorem v18_6 : VS L18_6.eq_1 := rfl
def C18_0 : ACode := .seq (.reg L18_5) .ret
theorem u18_0 : VC C18_0.eq_1 := rfl
def C18_1 : ACode := .cond (.t 10) C18_0 .skip
theorem u18_1 : VC C18_1.eq_1 := rfl
def C18_2 : ACode := .seq (.reg L18_4) C18_1
theorem u18_2 : VC C18_2.eq_1 := rfl
def C18_3 : ACode := .seq (.reg L18_6) .ret
theorem u18_3 : VC C18_3.eq_1 := rfl
def C18_4 : ACode := .seq C18_2 C18_3
theorem u18_4 : VC C18_4.eq_1 := rfl
def C18_5 : ACode := .seq (.reg L18_3) C18_4
theorem u18_5 : VC C18_5.eq_1 := rfl
def C18_6 : ACode := .seq (.reg L18_0) C18_5
theorem u18_6 : VC C18_6.eq_1 := rfl
def F18 : AFunc := ⟨12, [.tmp 4], C18_6⟩
theorem cF18 : compB Tryz.prog 18 = some F18 := by kernel_rfl
attribute [local go_sem ↓] u18_0 u18_1 u18_2 u18_3 u18_4 u18_5 u18_6 v18_0 v18_1 v18_2 v18_3 v18_4 v18_5 v18_6
theorem c_szIntS {ty : Nat} (l : List Int) (v : AV) (left : Int) (h : H) (h1 : 0 ≤ left) (h2 : left ≤ 1048576) (hl : Sl encI 1 ty h v l) (k0 : l.length ≤ far) : bm Tryz.prog 18 [v, .one (.int .i64 left)] h = some (ii (szr left l.length), h) := by
  refine bm_eq cF18 ?_
  simp +contextual (maxSteps := 2000000) only [go_sem, Nat.reduceEqDiff, reduceCtorEq, Nat.reduceAdd, Nat.reduceLeDiff, F18, hl.len, i64_sub h1 h2 k0]
  unfold szr
  (repeat' (first | refine And.intro ?_ ?_ | intro _)) <;> first | (simp_all; done) | (simp_all; omega)
/-! laws.szParamS -/
def L17_0 : List AStep := [⟨.mov (.c (.int .i64 0)), (some 4), none, []⟩]
theorem v17_0 : VS L17_0.eq_1 := rfl
def L17_1 : List AStep := [⟨.mov (.t 9), (some 1), none, []⟩]
theorem v17_1 : VS L17_1.eq_1 := rfl
def L17_2 : List AStep := ⟨.len (.t 7), (some 8), none, []⟩ :: ⟨.bin .sub (.t 6) (.t 8), (some 9), none, []⟩ :: L17_1
theorem v17_2 : VS L17_2.eq_1 := rfl
def L17_3 : List AStep := ⟨.mov (.t 1), (some 6), none, []⟩ :: ⟨.mov (.t 0), (some 7), none, []⟩ :: L17_2
theorem v17_3 : VS L17_3.eq_1 := rfl
def L17_4 : List AStep := [⟨.mov (.t 1), (some 10), none, []⟩, ⟨.bin .lss (.t 10) (.c (.int .i64 0)), (some 11), none, []⟩]
theorem v17_4 : VS L17_4.eq_1 := rfl
def L17_5 : List AStep := [⟨.mov (.c (.int .i64 (-1))), (some 4), none, []⟩]
theorem v17_5 : VS L17_5.eq_1 := rfl
def L17_6 : List AStep := [⟨.mov (.c (.int .i64 0)), (some 5), none, []⟩]
theorem v17_6 : VS L17_6.eq_1 := rfl
def L17_7 : List AStep := [⟨.len (.t 13), (some 14), none, []⟩, ⟨.bin .lss (.t 12) (.t 14), (some 15), none, []⟩]
theorem v17_7 : VS L17_7.eq_1 := rfl
def L17_8 : List AStep := ⟨.mov (.t 5), (some 12), none, []⟩ :: ⟨.mov (.t 0), (some 13), none, []⟩ :: L17_7
theorem v17_8 : VS L17_8.eq_1 := rfl
def L17_9 : List AStep := [⟨.mov (.t 23), (some 1), none, []⟩]
theorem v17_9 : VS L17_9.eq_1 := rfl
def L17_10 : List AStep := ⟨.mov (.t 1), (some 22), none, []⟩ :: ⟨.call 37 [(.t 21), (.t 22)], (some 23), none, []⟩ :: L17_9
theorem v17_10 : VS L17_10.eq_1 := rfl
def L17_11 : List AStep := ⟨.iaddr 4 (.t 18) (.t 19), (some 20), none, []⟩ :: ⟨.load 4 true (.t 20), (some 21), none, []⟩ :: L17_10
theorem v17_11 : VS L17_11.eq_1 := rfl
def L17_12 : List AStep := ⟨.mov (.t 0), (some 18), none, []⟩ :: ⟨.mov (.t 5), (some 19), none, []⟩ :: L17_11
theorem v17_12 : VS L17_12.eq_1 := rfl
def L17_13 : List AStep := [⟨.mov (.t 1), (some 24), none, []⟩, ⟨.bin .lss (.t 24) (.c (.int .i64 0)), (some 25), none, []⟩]
theorem v17_13 : VS L17_13.eq_1 := rfl
def L17_14 : List AStep := [⟨.mov (.c (.int .i64 (-1))), (some 4), none, []⟩]
theorem v17_14 : VS L17_14.eq_1 := rfl
def L17_15 : List AStep := [⟨.mov (.t 17), (some 5), none, []⟩]
theorem v17_15 : VS L17_15.eq_1 := rfl
def L17_16 : List AStep := ⟨.mov (.t 5), (some 16), none, []⟩ :: ⟨.bin .add (.t 16) (.c (.int .i64 1)), (some 17), none, []⟩ :: L17_15
theorem v17_16 : VS L17_16.eq_1 := rfl
def L17_17 : List AStep := [⟨.mov (.t 1), (some 26), none, []⟩, ⟨.mov (.t 26), (some 4), none, []⟩]
theorem v17_17 : VS L17_17.eq_1 := rfl
def C17_0 : ACode := .seq (.reg L17_5) .ret
theorem u17_0 : VC C17_0.eq_1 := rfl
def C17_1 : ACode := .cond (.t 11) C17_0 .skip
theorem u17_1 : VC C17_1.eq_1 := rfl
def C17_2 : ACode := .seq (.reg L17_4) C17_1
theorem u17_2 : VC C17_2.eq_1 := rfl
def C17_3 : ACode := .cond (.t 15) .skip (.exit 0)
theorem u17_3 : VC C17_3.eq_1 := rfl
def C17_4 : ACode := .seq (.reg L17_8) C17_3
theorem u17_4 : VC C17_4.eq_1 := rfl
def C17_5 : ACode := .seq (.reg L17_14) .ret
theorem u17_5 : VC C17_5.eq_1 := rfl
def C17_6 : ACode := .cond (.t 25) C17_5 .skip
theorem u17_6 : VC C17_6.eq_1 := rfl
def C17_7 : ACode := .seq (.reg L17_13) C17_6
theorem u17_7 : VC C17_7.eq_1 := rfl
def C17_8 : ACode := .seq (.reg L17_12) C17_7
theorem u17_8 : VC C17_8.eq_1 := rfl
def C17_9 : ACode := .block 1 C17_8
theorem u17_9 : VC C17_9.eq_1 := rfl
def C17_10 : ACode := .seq C17_9 (.reg L17_16)
theorem u17_10 : VC C17_10.eq_1 := rfl
def C17_11 : ACode := .seq C17_4 C17_10
theorem u17_11 : VC C17_11.eq_1 := rfl
def C17_12 : ACode := .block 0 (.loop C17_11)
theorem u17_12 : VC C17_12.eq_1 := rfl
def C17_13 : ACode := .seq (.reg L17_6) C17_12
theorem u17_13 : VC C17_13.eq_1 := rfl
def C17_14 : ACode := .seq (.reg L17_17) .ret
theorem u17_14 : VC C17_14.eq_1 := rfl
def C17_15 : ACode := .seq C17_13 C17_14
theorem u17_15 : VC C17_15.eq_1 := rfl
def C17_16 : ACode := .seq C17_2 C17_15
theorem u17_16 : VC C17_16.eq_1 := rfl
def C17_17 : ACode := .seq (.reg L17_3) C17_16
theorem u17_17 : VC C17_17.eq_1 := rfl
def C17_18 : ACode := .seq (.reg L17_0) C17_17
theorem u17_18 : VC C17_18.eq_1 := rfl
def F17 : AFunc := ⟨27, [.tmp 4], C17_18⟩
theorem cF17 : compB Tryz.prog 17 = some F17 := by kernel_rfl
attribute [local go_sem ↓] u17_0 u17_1 u17_2 u17_3 u17_4 u17_5 u17_6 u17_7 u17_8 u17_9 u17_10 u17_11 u17_12 u17_13 u17_14 u17_15 u17_16 u17_17 u17_18 v17_0 v17_1 v17_2 v17_3 v17_4 v17_5 v17_6 v17_7 v17_8 v17_9 v17_10 v17_11 v17_12 v17_13 v17_14 v17_15 v17_16 v17_17
theorem c_szParamS {ty : Nat} (l : List Param) (v : AV) (left : Int) (h : H) (h1 : 0 ≤ left) (h2 : left ≤ 1048576) (hl : Sl encQ 4 ty h v l) (k0 : l.length ≤ far) (k1 : ∀ x ∈ l, x.name.size ≤ far) : bm Tryz.prog 17 [v, .one (.int .i64 left)] h = some (ii (szr left (wtL wtQ l)), h) := by
  refine bm_eq cF17 ?_
  by_cases e : left - (l.length : Int) < 0
  · simp +contextual (maxSteps := 2000000) only [go_sem, Nat.reduceEqDiff, reduceCtorEq, Nat.reduceAdd, Nat.reduceLeDiff, F17, hl.len, i64_sub h1 h2 k0, decide_eq_true e]
    unfold szr wtL
    rw [if_pos (by omega)]
  simp +contextual (maxSteps := 2000000) only [go_sem, Nat.reduceEqDiff, reduceCtorEq, Nat.reduceAdd, Nat.reduceLeDiff, F17, hl.len, i64_sub h1 h2 k0, decide_eq_false e]
  refine wpC_loop (fun i T L h' => h' = h ∧ T 0 = .v v ∧ T 5 = .v (.one (.int .i64 i)) ∧ T 1 = .v (.one (.int .i64 (left - (l.length : Int) - (wsum wtQ l i : Int)))) ∧ 0 ≤ left - (l.length : Int) - (wsum wtQ l i : Int)) l.length ?_ ?_ (Nat.zero_le _) ?_
  · rintro i T L h' hi ⟨rfl, t0, t5, t1, hw⟩
    have hm := List.getElem_mem hi
    have e2 := wsum_next (f := wtQ) hi
    have e3 := wsum_le (f := wtQ) (l := l) (show i + 1 ≤ l.length by omega)
    have e1 := c_szParam l[i] (left - (l.length : Int) - (wsum wtQ l i : Int)) h' hw (by omega) (k1 _ hm)
    by_cases e4 : left - (l.length : Int) - (wsum wtQ l i : Int) - (wtQ l[i] : Int) < 0
    · simp +contextual (maxSteps := 2000000) only [go_sem, Nat.reduceEqDiff, reduceCtorEq, Nat.reduceAdd, Nat.reduceLeDiff, t0, t1, t5, hl.len, hl.iaddr hi, hl.whole hi, e1, lt_true hi, decide_eq_true (szr_lt.2 e4)]
      unfold szr wtL
      rw [if_pos (by omega)]
    · simp +contextual (maxSteps := 2000000) only [go_sem, Nat.reduceEqDiff, reduceCtorEq, Nat.reduceAdd, Nat.reduceLeDiff, t0, t1, t5, hl.len, hl.iaddr hi, hl.whole hi, e1, lt_true hi, decide_eq_false (show ¬ szr (left - (l.length : Int) - (wsum wtQ l i : Int)) (wtQ l[i]) < 0 by rw [szr_lt]; exact e4)]
      have e5 : szr (left - (l.length : Int) - (wsum wtQ l i : Int)) (wtQ l[i]) = left - (l.length : Int) - (wsum wtQ l (i + 1) : Int) := by
        unfold szr
        rw [if_neg e4, e2]
        omega
      rw [wrap_next hi (by omega), e5]
      exact ⟨rfl, rfl, by omega⟩
  · rintro T L h' ⟨rfl, t0, t5, t1, hw⟩
    simp +contextual (maxSteps := 2000000) only [go_sem, Nat.reduceEqDiff, reduceCtorEq, Nat.reduceAdd, Nat.reduceLeDiff, t0, t1, t5, hl.len, lt_false]
    unfold szr wtL
    rw [if_neg (by omega)]
    rw [show left - (l.length : Int) - (wsum wtQ l l.length : Int) = left - ((l.length + wsum wtQ l l.length : Nat) : Int) by omega]
  · simp +contextual (maxSteps := 2000000) only [go_sem, Nat.reduceEqDiff, reduceCtorEq, Nat.reduceAdd, Nat.reduceLeDiff, wsum_zero]
    (repeat' (first | refine And.intro ?_ ?_ | intro _)) <;> first | rfl | (simp; done) | (simp; omega)
/-! laws.szPairS -/
def L19_0 : List AStep := [⟨.mov (.c (.int .i64 0)), (some 4), none, []⟩]
theorem v19_0 : VS L19_0.eq_1 := rfl
def L19_1 : List AStep := [⟨.mov (.t 9), (some 1), none, []⟩]
theorem v19_1 : VS L19_1.eq_1 := rfl
def L19_2 : List AStep := ⟨.len (.t 7), (some 8), none, []⟩ :: ⟨.bin .sub (.t 6) (.t 8), (some 9), none, []⟩ :: L19_1
theorem v19_2 : VS L19_2.eq_1 := rfl
def L19_3 : List AStep := ⟨.mov (.t 1), (some 6), none, []⟩ :: ⟨.mov (.t 0), (some 7), none, []⟩ :: L19_2
theorem v19_3 : VS L19_3.eq_1 := rfl
def L19_4 : List AStep := [⟨.mov (.t 1), (some 10), none, []⟩, ⟨.bin .lss (.t 10) (.c (.int .i64 0)), (some 11), none, []⟩]
theorem v19_4 : VS L19_4.eq_1 := rfl
def L19_5 : List AStep := [⟨.mov (.c (.int .i64 (-1))), (some 4), none, []⟩]
theorem v19_5 : VS L19_5.eq_1 := rfl
def L19_6 : List AStep := [⟨.mov (.c (.int .i64 0)), (some 5), none, []⟩]
theorem v19_6 : VS L19_6.eq_1 := rfl
def L19_7 : List AStep := [⟨.len (.t 13), (some 14), none, []⟩, ⟨.bin .lss (.t 12) (.t 14), (some 15), none, []⟩]
theorem v19_7 : VS L19_7.eq_1 := rfl
def L19_8 : List AStep := ⟨.mov (.t 5), (some 12), none, []⟩ :: ⟨.mov (.t 0), (some 13), none, []⟩ :: L19_7
theorem v19_8 : VS L19_8.eq_1 := rfl
def L19_9 : List AStep := [⟨.mov (.t 23), (some 1), none, []⟩]
theorem v19_9 : VS L19_9.eq_1 := rfl
def L19_10 : List AStep := ⟨.mov (.t 1), (some 22), none, []⟩ :: ⟨.call 38 [(.t 21), (.t 22)], (some 23), none, []⟩ :: L19_9
theorem v19_10 : VS L19_10.eq_1 := rfl
def L19_11 : List AStep := ⟨.iaddr 2 (.t 18) (.t 19), (some 20), none, []⟩ :: ⟨.load 2 true (.t 20), (some 21), none, []⟩ :: L19_10
theorem v19_11 : VS L19_11.eq_1 := rfl
def L19_12 : List AStep := ⟨.mov (.t 0), (some 18), none, []⟩ :: ⟨.mov (.t 5), (some 19), none, []⟩ :: L19_11
theorem v19_12 : VS L19_12.eq_1 := rfl
def L19_13 : List AStep := [⟨.mov (.t 1), (some 24), none, []⟩, ⟨.bin .lss (.t 24) (.c (.int .i64 0)), (some 25), none, []⟩]
theorem v19_13 : VS L19_13.eq_1 := rfl
def L19_14 : List AStep := [⟨.mov (.c (.int .i64 (-1))), (some 4), none, []⟩]
theorem v19_14 : VS L19_14.eq_1 := rfl
def L19_15 : List AStep := [⟨.mov (.t 17), (some 5), none, []⟩]
theorem v19_15 : VS L19_15.eq_1 := rfl
def L19_16 : List AStep := ⟨.mov (.t 5), (some 16), none, []⟩ :: ⟨.bin .add (.t 16) (.c (.int .i64 1)), (some 17), none, []⟩ :: L19_15
theorem v19_16 : VS L19_16.eq_1 := rfl
def L19_17 : List AStep := [⟨.mov (.t 1), (some 26), none, []⟩, ⟨.mov (.t 26), (some 4), none, []⟩]
theorem v19_17 : VS L19_17.eq_1 := rfl
def C19_0 : ACode := .seq (.reg L19_5) .ret
theorem u19_0 : VC C19_0.eq_1 := rfl
def C19_1 : ACode := .cond (.t 11) C19_0 .skip
theorem u19_1 : VC C19_1.eq_1 := rfl
def C19_2 : ACode := .seq (.reg L19_4) C19_1
theorem u19_2 : VC C19_2.eq_1 := rfl
def C19_3 : ACode := .cond (.t 15) .skip (.exit 0)
theorem u19_3 : VC C19_3.eq_1 := rfl
def C19_4 : ACode := .seq (.reg L19_8) C19_3
theorem u19_4 : VC C19_4.eq_1 := rfl
def C19_5 : ACode := .seq (.reg L19_14) .ret
theorem u19_5 : VC C19_5.eq_1 := rfl
def C19_6 : ACode := .cond (.t 25) C19_5 .skip
theorem u19_6 : VC C19_6.eq_1 := rfl
def C19_7 : ACode := .seq (.reg L19_13) C19_6
theorem u19_7 : VC C19_7.eq_1 := rfl
def C19_8 : ACode := .seq (.reg L19_12) C19_7
theorem u19_8 : VC C19_8.eq_1 := rfl
def C19_9 : ACode := .block 1 C19_8
theorem u19_9 : VC C19_9.eq_1 := rfl
def C19_10 : ACode := .seq C19_9 (.reg L19_16)
theorem u19_10 : VC C19_10.eq_1 := rfl
def C19_11 : ACode := .seq C19_4 C19_10
theorem u19_11 : VC C19_11.eq_1 := rfl
def C19_12 : ACode := .block 0 (.loop C19_11)
theorem u19_12 : VC C19_12.eq_1 := rfl
def C19_13 : ACode := .seq (.reg L19_6) C19_12
theorem u19_13 : VC C19_13.eq_1 := rfl
def C19_14 : ACode := .seq (.reg L19_17) .ret
theorem u19_14 : VC C19_14.eq_1 := rfl
def C19_15 : ACode := .seq C19_13 C19_14
theorem u19_15 : VC C19_15.eq_1 := rfl
def C19_16 : ACode := .seq C19_2 C19_15
theorem u19_16 : VC C19_16.eq_1 := rfl
def C19_17 : ACode := .seq (.reg L19_3) C19_16
theorem u19_17 : VC C19_17.eq_1 := rfl
def C19_18 : ACode := .seq (.reg L19_0) C19_17
theorem u19_18 : VC C19_18.eq_1 := rfl
def F19 : AFunc := ⟨27, [.tmp 4], C19_18⟩
theorem cF19 : compB Tryz.prog 19 = some F19 := by kernel_rfl
attribute [local go_sem ↓] u19_0 u19_1 u19_2 u19_3 u19_4 u19_5 u19_6 u19_7 u19_8 u19_9 u19_10 u19_11 u19_12 u19_13 u19_14 u19_15 u19_16 u19_17 u19_18 v19_0 v19_1 v19_2 v19_3 v19_4 v19_5 v19_6 v19_7 v19_8 v19_9 v19_10 v19_11 v19_12 v19_13 v19_14 v19_15 v19_16 v19_17
theorem c_szPairS {ty : Nat} (l : List Pair) (v : AV) (left : Int) (h : H) (h1 : 0 ≤ left) (h2 : left ≤ 1048576) (hl : Sl encP 2 ty h v l) (k0 : l.length ≤ far) (k1 : ∀ x ∈ l, x.name.size ≤ far) : bm Tryz.prog 19 [v, .one (.int .i64 left)] h = some (ii (szr left (wtL wtP l)), h) := by
  refine bm_eq cF19 ?_
  by_cases e : left - (l.length : Int) < 0
  · simp +contextual (maxSteps := 2000000) only [go_sem, Nat.reduceEqDiff, reduceCtorEq, Nat.reduceAdd, Nat.reduceLeDiff, F19, hl.len, i64_sub h1 h2 k0, decide_eq_true e]
    unfold szr wtL
    rw [if_pos (by omega)]
  simp +contextual (maxSteps := 2000000) only [go_sem, Nat.reduceEqDiff, reduceCtorEq, Nat.reduceAdd, Nat.reduceLeDiff, F19, hl.len, i64_sub h1 h2 k0, decide_eq_false e]
  refine wpC_loop (fun i T L h' => h' = h ∧ T 0 = .v v ∧ T 5 = .v (.one (.int .i64 i)) ∧ T 1 = .v (.one (.int .i64 (left - (l.length : Int) - (wsum wtP l i : Int)))) ∧ 0 ≤ left - (l.length : Int) - (wsum wtP l i : Int)) l.length ?_ ?_ (Nat.zero_le _) ?_
  · rintro i T L h' hi ⟨rfl, t0, t5, t1, hw⟩
    have hm := List.getElem_mem hi
    have e2 := wsum_next (f := wtP) hi
    have e3 := wsum_le (f := wtP) (l := l) (show i + 1 ≤ l.length by omega)
    have e1 := c_szPair l[i] (left - (l.length : Int) - (wsum wtP l i : Int)) h' hw (by omega) (k1 _ hm)
    by_cases e4 : left - (l.length : Int) - (wsum wtP l i : Int) - (wtP l[i] : Int) < 0
    · simp +contextual (maxSteps := 2000000) only [go_sem, Nat.reduceEqDiff, reduceCtorEq, Nat.reduceAdd, Nat.reduceLeDiff, t0, t1, t5, hl.len, hl.iaddr hi, hl.whole hi, e1, lt_true hi, decide_eq_true (szr_lt.2 e4)]
      unfold szr wtL
      rw [if_pos (by omega)]
    · simp +contextual (maxSteps := 2000000) only [go_sem, Nat.reduceEqDiff, reduceCtorEq, Nat.reduceAdd, Nat.reduceLeDiff, t0, t1, t5, hl.len, hl.iaddr hi, hl.whole hi, e1, lt_true hi, decide_eq_false (show ¬ szr (left - (l.length : Int) - (wsum wtP l i : Int)) (wtP l[i]) < 0 by rw [szr_lt]; exact e4)]
      have e5 : szr (left - (l.length : Int) - (wsum wtP l i : Int)) (wtP l[i]) = left - (l.length : Int) - (wsum wtP l (i + 1) : Int) := by
        unfold szr
        rw [if_neg e4, e2]
        omega
      rw [wrap_next hi (by omega), e5]
      exact ⟨rfl, rfl, by omega⟩
  · rintro T L h' ⟨rfl, t0, t5, t1, hw⟩
    simp +contextual (maxSteps := 2000000) only [go_sem, Nat.reduceEqDiff, reduceCtorEq, Nat.reduceAdd, Nat.reduceLeDiff, t0, t1, t5, hl.len, lt_false]
    unfold szr wtL
    rw [if_neg (by omega)]
    rw [show left - (l.length : Int) - (wsum wtP l l.length : Int) = left - ((l.length + wsum wtP l l.length : Nat) : Int) by omega]
  · simp +contextual (maxSteps := 2000000) only [go_sem, Nat.reduceEqDiff, reduceCtorEq, Nat.reduceAdd, Nat.reduceLeDiff, wsum_zero]
    (repeat' (first | refine And.intro ?_ ?_ | intro _)) <;> first | rfl | (simp; done) | (simp; omega)
/-! laws.szSignature -/
def L4_0 : List AStep := [⟨.box 24 (.t 0), (some 2), none, []⟩, ⟨.mov (.c (.int .i64 0)), (some 4), none, []⟩]
theorem v4_0 : VS L4_0.eq_1 := rfl
def L4_1 : List AStep := [⟨.mov (.t 8), (some 1), none, []⟩]
theorem v4_1 : VS L4_1.eq_1 := rfl
def L4_2 : List AStep := ⟨.mov (.t 1), (some 7), none, []⟩ :: ⟨.call 17 [(.t 6), (.t 7)], (some 8), none, []⟩ :: L4_1
theorem v4_2 : VS L4_2.eq_1 := rfl
def L4_3 : List AStep := ⟨.faddr 0 (.t 2), (some 5), none, []⟩ :: ⟨.load 1 false (.t 5), (some 6), none, []⟩ :: L4_2
theorem v4_3 : VS L4_3.eq_1 := rfl
def L4_4 : List AStep := [⟨.mov (.t 1), (some 9), none, []⟩, ⟨.bin .lss (.t 9) (.c (.int .i64 0)), (some 10), none, []⟩]
theorem v4_4 : VS L4_4.eq_1 := rfl
def L4_5 : List AStep := [⟨.mov (.c (.int .i64 (-1))), (some 4), none, []⟩]
theorem v4_5 : VS L4_5.eq_1 := rfl
def L4_6 : List AStep := [⟨.mov (.t 1), (some 11), none, []⟩, ⟨.mov (.t 11), (some 4), none, []⟩]
theorem v4_6 : VS L4_6.eq_1 := rfl
def C4_0 : ACode := .seq (.reg L4_5) .ret
theorem u4_0 : VC C4_0.eq_1 := rfl
def C4_1 : ACode := .cond (.t 10) C4_0 .skip
theorem u4_1 : VC C4_1.eq_1 := rfl
def C4_2 : ACode := .seq (.reg L4_4) C4_1
theorem u4_2 : VC C4_2.eq_1 := rfl
def C4_3 : ACode := .seq (.reg L4_6) .ret
theorem u4_3 : VC C4_3.eq_1 := rfl
def C4_4 : ACode := .seq C4_2 C4_3
theorem u4_4 : VC C4_4.eq_1 := rfl
def C4_5 : ACode := .seq (.reg L4_3) C4_4
theorem u4_5 : VC C4_5.eq_1 := rfl
def C4_6 : ACode := .seq (.reg L4_0) C4_5
theorem u4_6 : VC C4_6.eq_1 := rfl
def F4 : AFunc := ⟨12, [.tmp 4], C4_6⟩
theorem cF4 : compB Tryz.prog 4 = some F4 := by kernel_rfl
attribute [local go_sem ↓] u4_0 u4_1 u4_2 u4_3 u4_4 u4_5 u4_6 v4_0 v4_1 v4_2 v4_3 v4_4 v4_5 v4_6
theorem c_szSignature {ty : Nat} (l : List Param) (v : CV) (left : Int) (h : H) (h1 : 0 ≤ left) (h2 : left ≤ 1048576) (hl : Sl encQ 4 ty h (.one v) l) (k0 : l.length ≤ far) (k1 : ∀ x ∈ l, x.name.size ≤ far) : bm Tryz.prog 4 [.agg [v], .one (.int .i64 left)] h = some (ii (szr left (wtL wtQ l)), h) := by
  refine bm_eq cF4 ?_
  simp +contextual (maxSteps := 2000000) only [go_sem, Nat.reduceEqDiff, reduceCtorEq, Nat.reduceAdd, Nat.reduceLeDiff, F4, c_szParamS _ _ _ _ h1 h2 hl k0 k1]
  unfold szr
  (repeat' (first | refine And.intro ?_ ?_ | intro _)) <;> first | (simp_all; done) | (simp_all; omega)
/-! laws.szFlat -/
def L5_0 : List AStep := [⟨.box 28 (.t 0), (some 2), none, []⟩, ⟨.mov (.c (.int .i64 0)), (some 4), none, []⟩]
theorem v5_0 : VS L5_0.eq_1 := rfl
def L5_1 : List AStep := [⟨.mov (.t 8), (some 1), none, []⟩]
theorem v5_1 : VS L5_1.eq_1 := rfl
def L5_2 : List AStep := ⟨.mov (.t 1), (some 7), none, []⟩ :: ⟨.call 18 [(.t 6), (.t 7)], (some 8), none, []⟩ :: L5_1
theorem v5_2 : VS L5_2.eq_1 := rfl
def L5_3 : List AStep := ⟨.faddr 0 (.t 2), (some 5), none, []⟩ :: ⟨.load 1 false (.t 5), (some 6), none, []⟩ :: L5_2
theorem v5_3 : VS L5_3.eq_1 := rfl
def L5_4 : List AStep := [⟨.mov (.t 1), (some 9), none, []⟩, ⟨.bin .lss (.t 9) (.c (.int .i64 0)), (some 10), none, []⟩]
theorem v5_4 : VS L5_4.eq_1 := rfl
def L5_5 : List AStep := [⟨.mov (.c (.int .i64 (-1))), (some 4), none, []⟩]
theorem v5_5 : VS L5_5.eq_1 := rfl
def L5_6 : List AStep := [⟨.mov (.t 14), (some 1), none, []⟩]
theorem v5_6 : VS L5_6.eq_1 := rfl
def L5_7 : List AStep := ⟨.mov (.t 1), (some 13), none, []⟩ :: ⟨.call 19 [(.t 12), (.t 13)], (some 14), none, []⟩ :: L5_6
theorem v5_7 : VS L5_7.eq_1 := rfl
def L5_8 : List AStep := ⟨.faddr 1 (.t 2), (some 11), none, []⟩ :: ⟨.load 1 false (.t 11), (some 12), none, []⟩ :: L5_7
theorem v5_8 : VS L5_8.eq_1 := rfl
def L5_9 : List AStep := [⟨.mov (.t 1), (some 15), none, []⟩, ⟨.bin .lss (.t 15) (.c (.int .i64 0)), (some 16), none, []⟩]
theorem v5_9 : VS L5_9.eq_1 := rfl
def L5_10 : List AStep := [⟨.mov (.c (.int .i64 (-1))), (some 4), none, []⟩]
theorem v5_10 : VS L5_10.eq_1 := rfl
def L5_11 : List AStep := [⟨.mov (.t 1), (some 17), none, []⟩, ⟨.mov (.t 17), (some 4), none, []⟩]
theorem v5_11 : VS L5_11.eq_1 := rfl
def C5_0 : ACode := .seq (.reg L5_5) .ret
theorem u5_0 : VC C5_0.eq_1 := rfl
def C5_1 : ACode := .cond (.t 10) C5_0 .skip
theorem u5_1 : VC C5_1.eq_1 := rfl
def C5_2 : ACode := .seq (.reg L5_4) C5_1
theorem u5_2 : VC C5_2.eq_1 := rfl
def C5_3 : ACode := .seq (.reg L5_10) .ret
theorem u5_3 : VC C5_3.eq_1 := rfl
def C5_4 : ACode := .cond (.t 16) C5_3 .skip
theorem u5_4 : VC C5_4.eq_1 := rfl
def C5_5 : ACode := .seq (.reg L5_9) C5_4
theorem u5_5 : VC C5_5.eq_1 := rfl
def C5_6 : ACode := .seq (.reg L5_11) .ret
theorem u5_6 : VC C5_6.eq_1 := rfl
def C5_7 : ACode := .seq C5_5 C5_6
theorem u5_7 : VC C5_7.eq_1 := rfl
def C5_8 : ACode := .seq (.reg L5_8) C5_7
theorem u5_8 : VC C5_8.eq_1 := rfl
def C5_9 : ACode := .seq C5_2 C5_8
theorem u5_9 : VC C5_9.eq_1 := rfl
def C5_10 : ACode := .seq (.reg L5_3) C5_9
theorem u5_10 : VC C5_10.eq_1 := rfl
def C5_11 : ACode := .seq (.reg L5_0) C5_10
theorem u5_11 : VC C5_11.eq_1 := rfl
def F5 : AFunc := ⟨18, [.tmp 4], C5_11⟩
theorem cF5 : compB Tryz.prog 5 = some F5 := by kernel_rfl
attribute [local go_sem ↓] u5_0 u5_1 u5_2 u5_3 u5_4 u5_5 u5_6 u5_7 u5_8 u5_9 u5_10 u5_11 v5_0 v5_1 v5_2 v5_3 v5_4 v5_5 v5_6 v5_7 v5_8 v5_9 v5_10 v5_11
theorem c_szFlat {t1 t2 : Nat} (f : Flat) (pv nv : CV) (left : Int) (h : H) (h1 : 0 ≤ left) (h2 : left ≤ 1048576) (hp : Sl encI 1 t1 h (.one pv) f.pl) (hq : Sl encP 2 t2 h (.one nv) f.nl) (k0 : f.pl.length ≤ far) (k1 : f.nl.length ≤ far) (k2 : ∀ x ∈ f.nl, x.name.size ≤ far) :
    bm Tryz.prog 5 [.agg [pv, nv], .one (.int .i64 left)] h = some (ii (szr left (wtF f)), h) := by
  refine bm_eq cF5 ?_
  by_cases e : left - (f.pl.length : Int) < 0
  · simp +contextual (maxSteps := 2000000) only [go_sem, Nat.reduceEqDiff, reduceCtorEq, Nat.reduceAdd, Nat.reduceLeDiff, F5, c_szIntS _ _ _ _ h1 h2 hp k0, decide_eq_true (szr_lt.2 e)]
    unfold szr wtF
    rw [if_pos (by omega)]
  · have e1 : szr left f.pl.length = left - (f.pl.length : Int) := by unfold szr; rw [if_neg e]
    simp +contextual (maxSteps := 2000000) only [go_sem, Nat.reduceEqDiff, reduceCtorEq, Nat.reduceAdd, Nat.reduceLeDiff, F5, c_szIntS _ _ _ _ h1 h2 hp k0, e1, decide_eq_false e, c_szPairS _ _ (left - (f.pl.length : Int)) _ (by omega) (by omega) hq k1 k2]
    unfold szr wtF
    (repeat' (first | refine And.intro ?_ ?_ | intro _)) <;> first | (split <;> simp_all <;> omega)
end Go.Proofs.YtdalgphpacikkaaGreat.Am
