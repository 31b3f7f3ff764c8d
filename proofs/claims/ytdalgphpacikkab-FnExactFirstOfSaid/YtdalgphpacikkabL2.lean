/- Contracts of the laws: sizes. -/
import Derived.Test.YtdalgphpacikkabDat
namespace Go.Proofs.Ytdalgphpacikkab.Am
open Go
set_option maxRecDepth 100000
set_option maxHeartbeats 4000000
set_option linter.unusedSimpArgs false
set_option linter.unusedVariables false
attribute [local go_sem ↓] bv_t bv_c ev_t ev_c put_same put_ne put_none kill_at pro_at lb_same lb_ne start_zero start_succ wpC_seq wpC_reg wpC_cond wpC_block wpC_skip wpC_exit wpC_ret thenQ_normal thenQ_exit thenQ_ret inBlk_normal inBlk_exit inBlk_ret wpS_nil wpS_step wpS_again wpS_guard wpO_mov wpO_load wpO_faddr wpO_nilCheck wpO_pick wpO_build wpO_bin wpO_eqb wpO_eqst wpO_eqnil wpO_not wpO_conv wpO_bytesStr wpO_iaddr wpO_idxStr wpO_field wpO_extract wpO_len wpO_lenStr wpO_cap wpO_min wpO_slice wpO_sliceStr wpO_alloc wpO_box wpO_store wpO_call wpO_callv wpO_mkfn wpO_buildSlice wpO_mkslice wpO_append wpO_appz proA_nil proA_cons tmpX_nil tmpX_tmp tmpX_cell doneB_normal doneB_ret agK_cons agK_nil agK_guard agG_tt agG_ff agG_tf agG_ft agG_undef pureB_load results_one results_two results_nil resBs_cons resBs_nil resB_tmp resB_cell
attribute [local go_sem] kill_v kill_lp_ne kill_lp_same pro_v pro_lp_same pro_lp_ne av_v av_lp optB_some optX_some valX_eq ldX_lp ldX_v faX_lp faX_v ncX_lp ncX_ptr ncX_fn boxK_one boxK_agg stL_some stK_lp_one stK_lp_agg stK_v_one stK_v_agg proM_v proM_lp callG_mk callVG_mk callvK_fn fnG_mk ptrsA_nil ptrsA_cons callH_some whenA_true whenA_false guardH_tt guardH_ff guardH_tf guardH_ft guardH_undef agV_one agV_agg lenO_sl lenStrO_str notO_bool pickO_bool convO_int eqbO_bool eqnilO_sl extractO_tup capO_sl minO_int loadL_one loadL_all storeL_eq fillA_nil fillA_one fillA_agg nat_ge neg_ge nat_lt neg_lt buildO bin_add bin_sub bin_mul bin_eql bin_neq bin_lss bin_leq bin_gtr bin_geq str_eql str_neq str_lss str_leq str_gtr str_geq retK_some endK_mk gcK_same gcK_int gcK_bool tupO_one tupO_agg rdy_self ib ii Option.map_none Option.map_some Option.some.injEq exists_eq_left' exists_eq_left ne_eq not_false_eq_true if_true if_false List.map_cons List.map_nil List.getElem?_cons_zero List.getElem?_cons_succ List.length_cons List.length_nil List.take_succ_cons List.take_zero List.take_nil List.drop_succ_cons List.drop_zero List.drop_nil List.cons_append List.nil_append List.append_nil List.set_cons_zero List.set_cons_succ Nat.zero_add forall_const true_and and_true and_self Bool.false_eq_true false_implies true_implies implies_true Bool.not_true Bool.not_false Bool.not_eq_true' Bool.not_eq_false' beq_self_eq_true Bool.bne_true Bool.bne_false
attribute [local go_sem] lenI lenS lenP lenQ lenB lenL lenT encI_0 encS_0 encP_0 encP_1 encQ_0 encQ_1 encQ_2 encQ_3 encB_0 encB_1 encL_0 encL_1 encT_0 encT_1
attribute [local go_sem low] whenA_bool guardH_bool
theorem i64_sub {a : Int} {n : Nat} (h1 : 0 ≤ a) (h2 : a ≤ 1048576) (h3 : n ≤ far) : IntKind.i64.wrap (a - n) = a - n := by unfold far at h3; rw [i64_wrap (by omega) (by omega)]
/-! laws.szParam -/
def L89_0 : List AStep := [⟨.box 116 (.t 0), (some 2), none, []⟩, ⟨.mov (.c (.int .i64 0)), (some 4), none, []⟩]
theorem v89_0 : VS L89_0.eq_1 := rfl
def L89_1 : List AStep := [⟨.bin .sub (.t 5) (.t 8), (some 9), none, []⟩, ⟨.mov (.t 9), (some 1), none, []⟩]
theorem v89_1 : VS L89_1.eq_1 := rfl
def L89_2 : List AStep := ⟨.load 1 false (.t 6), (some 7), none, []⟩ :: ⟨.lenStr (.t 7), (some 8), none, []⟩ :: L89_1
theorem v89_2 : VS L89_2.eq_1 := rfl
def L89_3 : List AStep := ⟨.mov (.t 1), (some 5), none, []⟩ :: ⟨.faddr 0 (.t 2), (some 6), none, []⟩ :: L89_2
theorem v89_3 : VS L89_3.eq_1 := rfl
def L89_4 : List AStep := [⟨.mov (.t 1), (some 10), none, []⟩, ⟨.bin .lss (.t 10) (.c (.int .i64 0)), (some 11), none, []⟩]
theorem v89_4 : VS L89_4.eq_1 := rfl
def L89_5 : List AStep := [⟨.mov (.c (.int .i64 (-1))), (some 4), none, []⟩]
theorem v89_5 : VS L89_5.eq_1 := rfl
def L89_6 : List AStep := [⟨.mov (.t 1), (some 12), none, []⟩, ⟨.mov (.t 12), (some 4), none, []⟩]
theorem v89_6 : VS L89_6.eq_1 := rfl
def C89_0 : ACode := .seq (.reg L89_5) .ret
theorem u89_0 : VC C89_0.eq_1 := rfl
def C89_1 : ACode := .cond (.t 11) C89_0 .skip
theorem u89_1 : VC C89_1.eq_1 := rfl
def C89_2 : ACode := .seq (.reg L89_4) C89_1
theorem u89_2 : VC C89_2.eq_1 := rfl
def C89_3 : ACode := .seq (.reg L89_6) .ret
theorem u89_3 : VC C89_3.eq_1 := rfl
def C89_4 : ACode := .seq C89_2 C89_3
theorem u89_4 : VC C89_4.eq_1 := rfl
def C89_5 : ACode := .seq (.reg L89_3) C89_4
theorem u89_5 : VC C89_5.eq_1 := rfl
def C89_6 : ACode := .seq (.reg L89_0) C89_5
theorem u89_6 : VC C89_6.eq_1 := rfl
def F89 : AFunc := ⟨13, [.tmp 4], C89_6⟩
theorem cF89 : compB Try.prog 89 = some F89 := by kernel_rfl
attribute [local go_sem ↓] u89_0 u89_1 u89_2 u89_3 u89_4 u89_5 u89_6 v89_0 v89_1 v89_2 v89_3 v89_4 v89_5 v89_6
theorem c_szParam (p : Param) (left : Int) (h : H) (h1 : 0 ≤ left) (h2 : left ≤ 1048576) (k0 : p.name.size ≤ far) : bm Try.prog 89 [.agg (encQ p), .one (.int .i64 left)] h = some (ii (szr left (wtQ p)), h) := by
  refine bm_eq cF89 ?_
  simp +contextual (maxSteps := 2000000) only [go_sem, Nat.reduceEqDiff, reduceCtorEq, Nat.reduceAdd, Nat.reduceLeDiff, F89, i64_sub h1 h2 k0]
  unfold szr wtQ
  (repeat' (first | refine And.intro ?_ ?_ | intro _)) <;> first | (simp_all; done) | (simp_all; omega)
/-! laws.szPair -/
def L90_0 : List AStep := [⟨.box 118 (.t 0), (some 2), none, []⟩, ⟨.mov (.c (.int .i64 0)), (some 4), none, []⟩]
theorem v90_0 : VS L90_0.eq_1 := rfl
def L90_1 : List AStep := [⟨.bin .sub (.t 5) (.t 8), (some 9), none, []⟩, ⟨.mov (.t 9), (some 1), none, []⟩]
theorem v90_1 : VS L90_1.eq_1 := rfl
def L90_2 : List AStep := ⟨.load 1 false (.t 6), (some 7), none, []⟩ :: ⟨.lenStr (.t 7), (some 8), none, []⟩ :: L90_1
theorem v90_2 : VS L90_2.eq_1 := rfl
def L90_3 : List AStep := ⟨.mov (.t 1), (some 5), none, []⟩ :: ⟨.faddr 0 (.t 2), (some 6), none, []⟩ :: L90_2
theorem v90_3 : VS L90_3.eq_1 := rfl
def L90_4 : List AStep := [⟨.mov (.t 1), (some 10), none, []⟩, ⟨.bin .lss (.t 10) (.c (.int .i64 0)), (some 11), none, []⟩]
theorem v90_4 : VS L90_4.eq_1 := rfl
def L90_5 : List AStep := [⟨.mov (.c (.int .i64 (-1))), (some 4), none, []⟩]
theorem v90_5 : VS L90_5.eq_1 := rfl
def L90_6 : List AStep := [⟨.mov (.t 1), (some 12), none, []⟩, ⟨.mov (.t 12), (some 4), none, []⟩]
theorem v90_6 : VS L90_6.eq_1 := rfl
def C90_0 : ACode := .seq (.reg L90_5) .ret
theorem u90_0 : VC C90_0.eq_1 := rfl
def C90_1 : ACode := .cond (.t 11) C90_0 .skip
theorem u90_1 : VC C90_1.eq_1 := rfl
def C90_2 : ACode := .seq (.reg L90_4) C90_1
theorem u90_2 : VC C90_2.eq_1 := rfl
def C90_3 : ACode := .seq (.reg L90_6) .ret
theorem u90_3 : VC C90_3.eq_1 := rfl
def C90_4 : ACode := .seq C90_2 C90_3
theorem u90_4 : VC C90_4.eq_1 := rfl
def C90_5 : ACode := .seq (.reg L90_3) C90_4
theorem u90_5 : VC C90_5.eq_1 := rfl
def C90_6 : ACode := .seq (.reg L90_0) C90_5
theorem u90_6 : VC C90_6.eq_1 := rfl
def F90 : AFunc := ⟨13, [.tmp 4], C90_6⟩
theorem cF90 : compB Try.prog 90 = some F90 := by kernel_rfl
attribute [local go_sem ↓] u90_0 u90_1 u90_2 u90_3 u90_4 u90_5 u90_6 v90_0 v90_1 v90_2 v90_3 v90_4 v90_5 v90_6
theorem c_szPair (p : Pair) (left : Int) (h : H) (h1 : 0 ≤ left) (h2 : left ≤ 1048576) (k0 : p.name.size ≤ far) : bm Try.prog 90 [.agg (encP p), .one (.int .i64 left)] h = some (ii (szr left (wtP p)), h) := by
  refine bm_eq cF90 ?_
  simp +contextual (maxSteps := 2000000) only [go_sem, Nat.reduceEqDiff, reduceCtorEq, Nat.reduceAdd, Nat.reduceLeDiff, F90, i64_sub h1 h2 k0]
  unfold szr wtP
  (repeat' (first | refine And.intro ?_ ?_ | intro _)) <;> first | (simp_all; done) | (simp_all; omega)
/-! laws.szIntS -/
def L53_0 : List AStep := [⟨.mov (.c (.int .i64 0)), (some 4), none, []⟩]
theorem v53_0 : VS L53_0.eq_1 := rfl
def L53_1 : List AStep := [⟨.mov (.t 8), (some 1), none, []⟩]
theorem v53_1 : VS L53_1.eq_1 := rfl
def L53_2 : List AStep := ⟨.len (.t 6), (some 7), none, []⟩ :: ⟨.bin .sub (.t 5) (.t 7), (some 8), none, []⟩ :: L53_1
theorem v53_2 : VS L53_2.eq_1 := rfl
def L53_3 : List AStep := ⟨.mov (.t 1), (some 5), none, []⟩ :: ⟨.mov (.t 0), (some 6), none, []⟩ :: L53_2
theorem v53_3 : VS L53_3.eq_1 := rfl
def L53_4 : List AStep := [⟨.mov (.t 1), (some 9), none, []⟩, ⟨.bin .lss (.t 9) (.c (.int .i64 0)), (some 10), none, []⟩]
theorem v53_4 : VS L53_4.eq_1 := rfl
def L53_5 : List AStep := [⟨.mov (.c (.int .i64 (-1))), (some 4), none, []⟩]
theorem v53_5 : VS L53_5.eq_1 := rfl
def L53_6 : List AStep := [⟨.mov (.t 1), (some 11), none, []⟩, ⟨.mov (.t 11), (some 4), none, []⟩]
theorem v53_6 : VS L53_6.eq_1 := rfl
def C53_0 : ACode := .seq (.reg L53_5) .ret
theorem u53_0 : VC C53_0.eq_1 := rfl
def C53_1 : ACode := .cond (.t 10) C53_0 .skip
theorem u53_1 : VC C53_1.eq_1 := rfl
def C53_2 : ACode := .seq (.reg L53_4) C53_1
theorem u53_2 : VC C53_2.eq_1 := rfl
def C53_3 : ACode := .seq (.reg L53_6) .ret
theorem u53_3 : VC C53_3.eq_1 := rfl
def C53_4 : ACode := .seq C53_2 C53_3
theorem u53_4 : VC C53_4.eq_1 := rfl
def C53_5 : ACode := .seq (.reg L53_3) C53_4
theorem u53_5 : VC C53_5.eq_1 := rfl
def C53_6 : ACode := .seq (.reg L53_0) C53_5
theorem u53_6 : VC C53_6.eq_1 := rfl
def F53 : AFunc := ⟨12, [.tmp 4], C53_6⟩
theorem cF53 : compB Try.prog 53 = some F53 := by kernel_rfl
attribute [local go_sem ↓] u53_0 u53_1 u53_2 u53_3 u53_4 u53_5 u53_6 v53_0 v53_1 v53_2 v53_3 v53_4 v53_5 v53_6
theorem c_szIntS {ty : Nat} (l : List Int) (v : AV) (left : Int) (h : H) (h1 : 0 ≤ left) (h2 : left ≤ 1048576) (hl : Sl encI 1 ty h v l) (k0 : l.length ≤ far) : bm Try.prog 53 [v, .one (.int .i64 left)] h = some (ii (szr left l.length), h) := by
  refine bm_eq cF53 ?_
  simp +contextual (maxSteps := 2000000) only [go_sem, Nat.reduceEqDiff, reduceCtorEq, Nat.reduceAdd, Nat.reduceLeDiff, F53, hl.len, i64_sub h1 h2 k0]
  unfold szr
  (repeat' (first | refine And.intro ?_ ?_ | intro _)) <;> first | (simp_all; done) | (simp_all; omega)
/-! laws.szParamS -/
def L52_0 : List AStep := [⟨.mov (.c (.int .i64 0)), (some 4), none, []⟩]
theorem v52_0 : VS L52_0.eq_1 := rfl
def L52_1 : List AStep := [⟨.mov (.t 9), (some 1), none, []⟩]
theorem v52_1 : VS L52_1.eq_1 := rfl
def L52_2 : List AStep := ⟨.len (.t 7), (some 8), none, []⟩ :: ⟨.bin .sub (.t 6) (.t 8), (some 9), none, []⟩ :: L52_1
theorem v52_2 : VS L52_2.eq_1 := rfl
def L52_3 : List AStep := ⟨.mov (.t 1), (some 6), none, []⟩ :: ⟨.mov (.t 0), (some 7), none, []⟩ :: L52_2
theorem v52_3 : VS L52_3.eq_1 := rfl
def L52_4 : List AStep := [⟨.mov (.t 1), (some 10), none, []⟩, ⟨.bin .lss (.t 10) (.c (.int .i64 0)), (some 11), none, []⟩]
theorem v52_4 : VS L52_4.eq_1 := rfl
def L52_5 : List AStep := [⟨.mov (.c (.int .i64 (-1))), (some 4), none, []⟩]
theorem v52_5 : VS L52_5.eq_1 := rfl
def L52_6 : List AStep := [⟨.mov (.c (.int .i64 0)), (some 5), none, []⟩]
theorem v52_6 : VS L52_6.eq_1 := rfl
def L52_7 : List AStep := [⟨.len (.t 13), (some 14), none, []⟩, ⟨.bin .lss (.t 12) (.t 14), (some 15), none, []⟩]
theorem v52_7 : VS L52_7.eq_1 := rfl
def L52_8 : List AStep := ⟨.mov (.t 5), (some 12), none, []⟩ :: ⟨.mov (.t 0), (some 13), none, []⟩ :: L52_7
theorem v52_8 : VS L52_8.eq_1 := rfl
def L52_9 : List AStep := [⟨.mov (.t 23), (some 1), none, []⟩]
theorem v52_9 : VS L52_9.eq_1 := rfl
def L52_10 : List AStep := ⟨.mov (.t 1), (some 22), none, []⟩ :: ⟨.call 89 [(.t 21), (.t 22)], (some 23), none, []⟩ :: L52_9
theorem v52_10 : VS L52_10.eq_1 := rfl
def L52_11 : List AStep := ⟨.iaddr 4 (.t 18) (.t 19), (some 20), none, []⟩ :: ⟨.load 4 true (.t 20), (some 21), none, []⟩ :: L52_10
theorem v52_11 : VS L52_11.eq_1 := rfl
def L52_12 : List AStep := ⟨.mov (.t 0), (some 18), none, []⟩ :: ⟨.mov (.t 5), (some 19), none, []⟩ :: L52_11
theorem v52_12 : VS L52_12.eq_1 := rfl
def L52_13 : List AStep := [⟨.mov (.t 1), (some 24), none, []⟩, ⟨.bin .lss (.t 24) (.c (.int .i64 0)), (some 25), none, []⟩]
theorem v52_13 : VS L52_13.eq_1 := rfl
def L52_14 : List AStep := [⟨.mov (.c (.int .i64 (-1))), (some 4), none, []⟩]
theorem v52_14 : VS L52_14.eq_1 := rfl
def L52_15 : List AStep := [⟨.mov (.t 17), (some 5), none, []⟩]
theorem v52_15 : VS L52_15.eq_1 := rfl
def L52_16 : List AStep := ⟨.mov (.t 5), (some 16), none, []⟩ :: ⟨.bin .add (.t 16) (.c (.int .i64 1)), (some 17), none, []⟩ :: L52_15
theorem v52_16 : VS L52_16.eq_1 := rfl
def L52_17 : List AStep := [⟨.mov (.t 1), (some 26), none, []⟩, ⟨.mov (.t 26), (some 4), none, []⟩]
theorem v52_17 : VS L52_17.eq_1 := rfl
def C52_0 : ACode := .seq (.reg L52_5) .ret
theorem u52_0 : VC C52_0.eq_1 := rfl
def C52_1 : ACode := .cond (.t 11) C52_0 .skip
theorem u52_1 : VC C52_1.eq_1 := rfl
def C52_2 : ACode := .seq (.reg L52_4) C52_1
theorem u52_2 : VC C52_2.eq_1 := rfl
def C52_3 : ACode := .cond (.t 15) .skip (.exit 0)
theorem u52_3 : VC C52_3.eq_1 := rfl
def C52_4 : ACode := .seq (.reg L52_8) C52_3
theorem u52_4 : VC C52_4.eq_1 := rfl
def C52_5 : ACode := .seq (.reg L52_14) .ret
theorem u52_5 : VC C52_5.eq_1 := rfl
def C52_6 : ACode := .cond (.t 25) C52_5 .skip
theorem u52_6 : VC C52_6.eq_1 := rfl
def C52_7 : ACode := .seq (.reg L52_13) C52_6
theorem u52_7 : VC C52_7.eq_1 := rfl
def C52_8 : ACode := .seq (.reg L52_12) C52_7
theorem u52_8 : VC C52_8.eq_1 := rfl
def C52_9 : ACode := .block 1 C52_8
theorem u52_9 : VC C52_9.eq_1 := rfl
def C52_10 : ACode := .seq C52_9 (.reg L52_16)
theorem u52_10 : VC C52_10.eq_1 := rfl
def C52_11 : ACode := .seq C52_4 C52_10
theorem u52_11 : VC C52_11.eq_1 := rfl
def C52_12 : ACode := .block 0 (.loop C52_11)
theorem u52_12 : VC C52_12.eq_1 := rfl
def C52_13 : ACode := .seq (.reg L52_6) C52_12
theorem u52_13 : VC C52_13.eq_1 := rfl
def C52_14 : ACode := .seq (.reg L52_17) .ret
theorem u52_14 : VC C52_14.eq_1 := rfl
def C52_15 : ACode := .seq C52_13 C52_14
theorem u52_15 : VC C52_15.eq_1 := rfl
def C52_16 : ACode := .seq C52_2 C52_15
theorem u52_16 : VC C52_16.eq_1 := rfl
def C52_17 : ACode := .seq (.reg L52_3) C52_16
theorem u52_17 : VC C52_17.eq_1 := rfl
def C52_18 : ACode := .seq (.reg L52_0) C52_17
theorem u52_18 : VC C52_18.eq_1 := rfl
def F52 : AFunc := ⟨27, [.tmp 4], C52_18⟩
theorem cF52 : compB Try.prog 52 = some F52 := by kernel_rfl
attribute [local go_sem ↓] u52_0 u52_1 u52_2 u52_3 u52_4 u52_5 u52_6 u52_7 u52_8 u52_9 u52_10 u52_11 u52_12 u52_13 u52_14 u52_15 u52_16 u52_17 u52_18 v52_0 v52_1 v52_2 v52_3 v52_4 v52_5 v52_6 v52_7 v52_8 v52_9 v52_10 v52_11 v52_12 v52_13 v52_14 v52_15 v52_16 v52_17
theorem c_szParamS {ty : Nat} (l : List Param) (v : AV) (left : Int) (h : H) (h1 : 0 ≤ left) (h2 : left ≤ 1048576) (hl : Sl encQ 4 ty h v l) (k0 : l.length ≤ far) (k1 : ∀ x ∈ l, x.name.size ≤ far) : bm Try.prog 52 [v, .one (.int .i64 left)] h = some (ii (szr left (wtL wtQ l)), h) := by
  refine bm_eq cF52 ?_
  by_cases e : left - (l.length : Int) < 0
  · simp +contextual (maxSteps := 2000000) only [go_sem, Nat.reduceEqDiff, reduceCtorEq, Nat.reduceAdd, Nat.reduceLeDiff, F52, hl.len, i64_sub h1 h2 k0, decide_eq_true e]
    unfold szr wtL
    rw [if_pos (by omega)]
  simp +contextual (maxSteps := 2000000) only [go_sem, Nat.reduceEqDiff, reduceCtorEq, Nat.reduceAdd, Nat.reduceLeDiff, F52, hl.len, i64_sub h1 h2 k0, decide_eq_false e]
  refine wpC_loop (fun i T L h' => h' = h ∧ T 0 = .v v ∧ T 5 = .v (.one (.int .i64 i)) ∧ T 1 = .v (.one (.int .i64 (left - (l.length : Int) - (wsum wtQ l i : Int)))) ∧ 0 ≤ left - (l.length : Int) - (wsum wtQ l i : Int)) l.length ?_ ?_ (Nat.zero_le _) ?_
  · rintro i T L h' hi ⟨rfl, t0, t5, t1, hw⟩
    have hm := List.getElem_mem hi
    have e2 := wsum_next (f := wtQ) hi
    have e3 := wsum_le (f := wtQ) (l := l) (show i + 1 ≤ l.length by omega)
    have e1 := c_szParam l[i] (left - (l.length : Int) - (wsum wtQ l i : Int)) h' hw (by omega) (k1 _ hm)
    by_cases e4 : left - (l.length : Int) - (wsum wtQ l i : Int) - (wtQ l[i] : Int) < 0
    · simp +contextual (maxSteps := 2000000) only [go_sem, Nat.reduceEqDiff, reduceCtorEq, Nat.reduceAdd, Nat.reduceLeDiff, t0, t1, t5, hl.len, hl.iaddr hi, hl.whole hi, e1, lt_true hi, decide_eq_true (szr_lt.2 e4)]
      unfold szr wtL
      rw [if_pos (by omega)]
    · simp +contextual (maxSteps := 2000000) only [go_sem, Nat.reduceEqDiff, reduceCtorEq, Nat.reduceAdd, Nat.reduceLeDiff, t0, t1, t5, hl.len, hl.iaddr hi, hl.whole hi, e1, lt_true hi, decide_eq_false (show ¬ szr (left - (l.length : Int) - (wsum wtQ l i : Int)) (wtQ l[i]) < 0 by rw [szr_lt]; exact e4)]
      have e5 : szr (left - (l.length : Int) - (wsum wtQ l i : Int)) (wtQ l[i]) = left - (l.length : Int) - (wsum wtQ l (i + 1) : Int) := by
        unfold szr
        rw [if_neg e4, e2]
        omega
      rw [wrap_next hi (by omega), e5]
      exact ⟨rfl, rfl, by omega⟩
  · rintro T L h' ⟨rfl, t0, t5, t1, hw⟩
    simp +contextual (maxSteps := 2000000) only [go_sem, Nat.reduceEqDiff, reduceCtorEq, Nat.reduceAdd, Nat.reduceLeDiff, t0, t1, t5, hl.len, lt_false]
    unfold szr wtL
    rw [if_neg (by omega)]
    rw [show left - (l.length : Int) - (wsum wtQ l l.length : Int) = left - ((l.length + wsum wtQ l l.length : Nat) : Int) by omega]
  · simp +contextual (maxSteps := 2000000) only [go_sem, Nat.reduceEqDiff, reduceCtorEq, Nat.reduceAdd, Nat.reduceLeDiff, wsum_zero]
    (repeat' (first | refine And.intro ?_ ?_ | intro _)) <;> first | rfl | (simp; done) | (simp; omega)
/-! laws.szPairS -/
def L54_0 : List AStep := [⟨.mov (.c (.int .i64 0)), (some 4), none, []⟩]
theorem v54_0 : VS L54_0.eq_1 := rfl
def L54_1 : List AStep := [⟨.mov (.t 9), (some 1), none, []⟩]
theorem v54_1 : VS L54_1.eq_1 := rfl
def L54_2 : List AStep := ⟨.len (.t 7), (some 8), none, []⟩ :: ⟨.bin .sub (.t 6) (.t 8), (some 9), none, []⟩ :: L54_1
theorem v54_2 : VS L54_2.eq_1 := rfl
def L54_3 : List AStep := ⟨.mov (.t 1), (some 6), none, []⟩ :: ⟨.mov (.t 0), (some 7), none, []⟩ :: L54_2
theorem v54_3 : VS L54_3.eq_1 := rfl
def L54_4 : List AStep := [⟨.mov (.t 1), (some 10), none, []⟩, ⟨.bin .lss (.t 10) (.c (.int .i64 0)), (some 11), none, []⟩]
theorem v54_4 : VS L54_4.eq_1 := rfl
def L54_5 : List AStep := [⟨.mov (.c (.int .i64 (-1))), (some 4), none, []⟩]
theorem v54_5 : VS L54_5.eq_1 := rfl
def L54_6 : List AStep := [⟨.mov (.c (.int .i64 0)), (some 5), none, []⟩]
theorem v54_6 : VS L54_6.eq_1 := rfl
def L54_7 : List AStep := [⟨.len (.t 13), (some 14), none, []⟩, ⟨.bin .lss (.t 12) (.t 14), (some 15), none, []⟩]
theorem v54_7 : VS L54_7.eq_1 := rfl
def L54_8 : List AStep := ⟨.mov (.t 5), (some 12), none, []⟩ :: ⟨.mov (.t 0), (some 13), none, []⟩ :: L54_7
theorem v54_8 : VS L54_8.eq_1 := rfl
def L54_9 : List AStep := [⟨.mov (.t 23), (some 1), none, []⟩]
theorem v54_9 : VS L54_9.eq_1 := rfl
def L54_10 : List AStep := ⟨.mov (.t 1), (some 22), none, []⟩ :: ⟨.call 90 [(.t 21), (.t 22)], (some 23), none, []⟩ :: L54_9
theorem v54_10 : VS L54_10.eq_1 := rfl
def L54_11 : List AStep := ⟨.iaddr 2 (.t 18) (.t 19), (some 20), none, []⟩ :: ⟨.load 2 true (.t 20), (some 21), none, []⟩ :: L54_10
theorem v54_11 : VS L54_11.eq_1 := rfl
def L54_12 : List AStep := ⟨.mov (.t 0), (some 18), none, []⟩ :: ⟨.mov (.t 5), (some 19), none, []⟩ :: L54_11
theorem v54_12 : VS L54_12.eq_1 := rfl
def L54_13 : List AStep := [⟨.mov (.t 1), (some 24), none, []⟩, ⟨.bin .lss (.t 24) (.c (.int .i64 0)), (some 25), none, []⟩]
theorem v54_13 : VS L54_13.eq_1 := rfl
def L54_14 : List AStep := [⟨.mov (.c (.int .i64 (-1))), (some 4), none, []⟩]
theorem v54_14 : VS L54_14.eq_1 := rfl
def L54_15 : List AStep := [⟨.mov (.t 17), (some 5), none, []⟩]
theorem v54_15 : VS L54_15.eq_1 := rfl
def L54_16 : List AStep := ⟨.mov (.t 5), (some 16), none, []⟩ :: ⟨.bin .add (.t 16) (.c (.int .i64 1)), (some 17), none, []⟩ :: L54_15
theorem v54_16 : VS L54_16.eq_1 := rfl
def L54_17 : List AStep := [⟨.mov (.t 1), (some 26), none, []⟩, ⟨.mov (.t 26), (some 4), none, []⟩]
theorem v54_17 : VS L54_17.eq_1 := rfl
def C54_0 : ACode := .seq (.reg L54_5) .ret
theorem u54_0 : VC C54_0.eq_1 := rfl
def C54_1 : ACode := .cond (.t 11) C54_0 .skip
theorem u54_1 : VC C54_1.eq_1 := rfl
def C54_2 : ACode := .seq (.reg L54_4) C54_1
theorem u54_2 : VC C54_2.eq_1 := rfl
def C54_3 : ACode := .cond (.t 15) .skip (.exit 0)
theorem u54_3 : VC C54_3.eq_1 := rfl
def C54_4 : ACode := .seq (.reg L54_8) C54_3
theorem u54_4 : VC C54_4.eq_1 := rfl
def C54_5 : ACode := .seq (.reg L54_14) .ret
theorem u54_5 : VC C54_5.eq_1 := rfl
def C54_6 : ACode := .cond (.t 25) C54_5 .skip
theorem u54_6 : VC C54_6.eq_1 := rfl
def C54_7 : ACode := .seq (.reg L54_13) C54_6
theorem u54_7 : VC C54_7.eq_1 := rfl
def C54_8 : ACode := .seq (.reg L54_12) C54_7
theorem u54_8 : VC C54_8.eq_1 := rfl
def C54_9 : ACode := .block 1 C54_8
theorem u54_9 : VC C54_9.eq_1 := rfl
def C54_10 : ACode := .seq C54_9 (.reg L54_16)
theorem u54_10 : VC C54_10.eq_1 := rfl
def C54_11 : ACode := .seq C54_4 C54_10
theorem u54_11 : VC C54_11.eq_1 := rfl
def C54_12 : ACode := .block 0 (.loop C54_11)
theorem u54_12 : VC C54_12.eq_1 := rfl
def C54_13 : ACode := .seq (.reg L54_6) C54_12
theorem u54_13 : VC C54_13.eq_1 := rfl
def C54_14 : ACode := .seq (.reg L54_17) .ret
theorem u54_14 : VC C54_14.eq_1 := rfl
def C54_15 : ACode := .seq C54_13 C54_14
theorem u54_15 : VC C54_15.eq_1 := rfl
def C54_16 : ACode := .seq C54_2 C54_15
theorem u54_16 : VC C54_16.eq_1 := rfl
def C54_17 : ACode := .seq (.reg L54_3) C54_16
theorem u54_17 : VC C54_17.eq_1 := rfl
def C54_18 : ACode := .seq (.reg L54_0) C54_17
theorem u54_18 : VC C54_18.eq_1 := rfl
def F54 : AFunc := ⟨27, [.tmp 4], C54_18⟩
theorem cF54 : compB Try.prog 54 = some F54 := by kernel_rfl
attribute [local go_sem ↓] u54_0 u54_1 u54_2 u54_3 u54_4 u54_5 u54_6 u54_7 u54_8 u54_9 u54_10 u54_11 u54_12 u54_13 u54_14 u54_15 u54_16 u54_17 u54_18 v54_0 v54_1 v54_2 v54_3 v54_4 v54_5 v54_6 v54_7 v54_8 v54_9 v54_10 v54_11 v54_12 v54_13 v54_14 v54_15 v54_16 v54_17
theorem c_szPairS {ty : Nat} (l : List Pair) (v : AV) (left : Int) (h : H) (h1 : 0 ≤ left) (h2 : left ≤ 1048576) (hl : Sl encP 2 ty h v l) (k0 : l.length ≤ far) (k1 : ∀ x ∈ l, x.name.size ≤ far) : bm Try.prog 54 [v, .one (.int .i64 left)] h = some (ii (szr left (wtL wtP l)), h) := by
  refine bm_eq cF54 ?_
  by_cases e : left - (l.length : Int) < 0
  · simp +contextual (maxSteps := 2000000) only [go_sem, Nat.reduceEqDiff, reduceCtorEq, Nat.reduceAdd, Nat.reduceLeDiff, F54, hl.len, i64_sub h1 h2 k0, decide_eq_true e]
    unfold szr wtL
    rw [if_pos (by omega)]
  simp +contextual (maxSteps := 2000000) only [go_sem, Nat.reduceEqDiff, reduceCtorEq, Nat.reduceAdd, Nat.reduceLeDiff, F54, hl.len, i64_sub h1 h2 k0, decide_eq_false e]
  refine wpC_loop (fun i T L h' => h' = h ∧ T 0 = .v v ∧ T 5 = .v (.one (.int .i64 i)) ∧ T 1 = .v (.one (.int .i64 (left - (l.length : Int) - (wsum wtP l i : Int)))) ∧ 0 ≤ left - (l.length : Int) - (wsum wtP l i : Int)) l.length ?_ ?_ (Nat.zero_le _) ?_
  · rintro i T L h' hi ⟨rfl, t0, t5, t1, hw⟩
    have hm := List.getElem_mem hi
    have e2 := wsum_next (f := wtP) hi
    have e3 := wsum_le (f := wtP) (l := l) (show i + 1 ≤ l.length by omega)
    have e1 := c_szPair l[i] (left - (l.length : Int) - (wsum wtP l i : Int)) h' hw (by omega) (k1 _ hm)
    by_cases e4 : left - (l.length : Int) - (wsum wtP l i : Int) - (wtP l[i] : Int) < 0
    · simp +contextual (maxSteps := 2000000) only [go_sem, Nat.reduceEqDiff, reduceCtorEq, Nat.reduceAdd, Nat.reduceLeDiff, t0, t1, t5, hl.len, hl.iaddr hi, hl.whole hi, e1, lt_true hi, decide_eq_true (szr_lt.2 e4)]
      unfold szr wtL
      rw [if_pos (by omega)]
    · simp +contextual (maxSteps := 2000000) only [go_sem, Nat.reduceEqDiff, reduceCtorEq, Nat.reduceAdd, Nat.reduceLeDiff, t0, t1, t5, hl.len, hl.iaddr hi, hl.whole hi, e1, lt_true hi, decide_eq_false (show ¬ szr (left - (l.length : Int) - (wsum wtP l i : Int)) (wtP l[i]) < 0 by rw [szr_lt]; exact e4)]
      have e5 : szr (left - (l.length : Int) - (wsum wtP l i : Int)) (wtP l[i]) = left - (l.length : Int) - (wsum wtP l (i + 1) : Int) := by
        unfold szr
        rw [if_neg e4, e2]
        omega
      rw [wrap_next hi (by omega), e5]
      exact ⟨rfl, rfl, by omega⟩
  · rintro T L h' ⟨rfl, t0, t5, t1, hw⟩
    simp +contextual (maxSteps := 2000000) only [go_sem, Nat.reduceEqDiff, reduceCtorEq, Nat.reduceAdd, Nat.reduceLeDiff, t0, t1, t5, hl.len, lt_false]
    unfold szr wtL
    rw [if_neg (by omega)]
    rw [show left - (l.length : Int) - (wsum wtP l l.length : Int) = left - ((l.length + wsum wtP l l.length : Nat) : Int) by omega]
  · simp +contextual (maxSteps := 2000000) only [go_sem, Nat.reduceEqDiff, reduceCtorEq, Nat.reduceAdd, Nat.reduceLeDiff, wsum_zero]
    (repeat' (first | refine And.intro ?_ ?_ | intro _)) <;> first | rfl | (simp; done) | (simp; omega)
/-! laws.szSignature -/
def L20_0 : List AStep := [⟨.box 24 (.t 0), (some 2), none, []⟩, ⟨.mov (.c (.int .i64 0)), (some 4), none, []⟩]
theorem v20_0 : VS L20_0.eq_1 := rfl
def L20_1 : List AStep := [⟨.mov (.t 8), (some 1), none, []⟩]
theorem v20_1 : VS L20_1.eq_1 := rfl
def L20_2 : List AStep := ⟨.mov (.t 1), (some 7), none, []⟩ :: ⟨.call 52 [(.t 6), (.t 7)], (some 8), none, []⟩ :: L20_1
theorem v20_2 : VS L20_2.eq_1 := rfl
def L20_3 : List AStep := ⟨.faddr 0 (.t 2), (some 5), none, []⟩ :: ⟨.load 1 false (.t 5), (some 6), none, []⟩ :: L20_2
theorem v20_3 : VS L20_3.eq_1 := rfl
def L20_4 : List AStep := [⟨.mov (.t 1), (some 9), none, []⟩, ⟨.bin .lss (.t 9) (.c (.int .i64 0)), (some 10), none, []⟩]
theorem v20_4 : VS L20_4.eq_1 := rfl
def L20_5 : List AStep := [⟨.mov (.c (.int .i64 (-1))), (some 4), none, []⟩]
theorem v20_5 : VS L20_5.eq_1 := rfl
def L20_6 : List AStep := [⟨.mov (.t 1), (some 11), none, []⟩, ⟨.mov (.t 11), (some 4), none, []⟩]
theorem v20_6 : VS L20_6.eq_1 := rfl
def C20_0 : ACode := .seq (.reg L20_5) .ret
theorem u20_0 : VC C20_0.eq_1 := rfl
def C20_1 : ACode := .cond (.t 10) C20_0 .skip
theorem u20_1 : VC C20_1.eq_1 := rfl
def C20_2 : ACode := .seq (.reg L20_4) C20_1
theorem u20_2 : VC C20_2.eq_1 := rfl
def C20_3 : ACode := .seq (.reg L20_6) .ret
theorem u20_3 : VC C20_3.eq_1 := rfl
def C20_4 : ACode := .seq C20_2 C20_3
theorem u20_4 : VC C20_4.eq_1 := rfl
def C20_5 : ACode := .seq (.reg L20_3) C20_4
theorem u20_5 : VC C20_5.eq_1 := rfl
def C20_6 : ACode := .seq (.reg L20_0) C20_5
theorem u20_6 : VC C20_6.eq_1 := rfl
def F20 : AFunc := ⟨12, [.tmp 4], C20_6⟩
theorem cF20 : compB Try.prog 20 = some F20 := by kernel_rfl
attribute [local go_sem ↓] u20_0 u20_1 u20_2 u20_3 u20_4 u20_5 u20_6 v20_0 v20_1 v20_2 v20_3 v20_4 v20_5 v20_6
theorem c_szSignature {ty : Nat} (l : List Param) (v : CV) (left : Int) (h : H) (h1 : 0 ≤ left) (h2 : left ≤ 1048576) (hl : Sl encQ 4 ty h (.one v) l) (k0 : l.length ≤ far) (k1 : ∀ x ∈ l, x.name.size ≤ far) : bm Try.prog 20 [.agg [v], .one (.int .i64 left)] h = some (ii (szr left (wtL wtQ l)), h) := by
  refine bm_eq cF20 ?_
  simp +contextual (maxSteps := 2000000) only [go_sem, Nat.reduceEqDiff, reduceCtorEq, Nat.reduceAdd, Nat.reduceLeDiff, F20, c_szParamS _ _ _ _ h1 h2 hl k0 k1]
  unfold szr
  (repeat' (first | refine And.intro ?_ ?_ | intro _)) <;> first | (simp_all; done) | (simp_all; omega)
/-! laws.szFlat -/
def L21_0 : List AStep := [⟨.box 28 (.t 0), (some 2), none, []⟩, ⟨.mov (.c (.int .i64 0)), (some 4), none, []⟩]
theorem v21_0 : VS L21_0.eq_1 := rfl
def L21_1 : List AStep := [⟨.mov (.t 8), (some 1), none, []⟩]
theorem v21_1 : VS L21_1.eq_1 := rfl
def L21_2 : List AStep := ⟨.mov (.t 1), (some 7), none, []⟩ :: ⟨.call 53 [(.t 6), (.t 7)], (some 8), none, []⟩ :: L21_1
theorem v21_2 : VS L21_2.eq_1 := rfl
def L21_3 : List AStep := ⟨.faddr 0 (.t 2), (some 5), none, []⟩ :: ⟨.load 1 false (.t 5), (some 6), none, []⟩ :: L21_2
theorem v21_3 : VS L21_3.eq_1 := rfl
def L21_4 : List AStep := [⟨.mov (.t 1), (some 9), none, []⟩, ⟨.bin .lss (.t 9) (.c (.int .i64 0)), (some 10), none, []⟩]
theorem v21_4 : VS L21_4.eq_1 := rfl
def L21_5 : List AStep := [⟨.mov (.c (.int .i64 (-1))), (some 4), none, []⟩]
theorem v21_5 : VS L21_5.eq_1 := rfl
def L21_6 : List AStep := [⟨.mov (.t 14), (some 1), none, []⟩]
theorem v21_6 : VS L21_6.eq_1 := rfl
def L21_7 : List AStep := ⟨.mov (.t 1), (some 13), none, []⟩ :: ⟨.call 54 [(.t 12), (.t 13)], (some 14), none, []⟩ :: L21_6
theorem v21_7 : VS L21_7.eq_1 := rfl
def L21_8 : List AStep := ⟨.faddr 1 (.t 2), (some 11), none, []⟩ :: ⟨.load 1 false (.t 11), (some 12), none, []⟩ :: L21_7
theorem v21_8 : VS L21_8.eq_1 := rfl
def L21_9 : List AStep := [⟨.mov (.t 1), (some 15), none, []⟩, ⟨.bin .lss (.t 15) (.c (.int .i64 0)), (some 16), none, []⟩]
theorem v21_9 : VS L21_9.eq_1 := rfl
def L21_10 : List AStep := [⟨.mov (.c (.int .i64 (-1))), (some 4), none, []⟩]
theorem v21_10 : VS L21_10.eq_1 := rfl
def L21_11 : List AStep := [⟨.mov (.t 1), (some 17), none, []⟩, ⟨.mov (.t 17), (some 4), none, []⟩]
theorem v21_11 : VS L21_11.eq_1 := rfl
def C21_0 : ACode := .seq (.reg L21_5) .ret
theorem u21_0 : VC C21_0.eq_1 := rfl
def C21_1 : ACode := .cond (.t 10) C21_0 .skip
theorem u21_1 : VC C21_1.eq_1 := rfl
def C21_2 : ACode := .seq (.reg L21_4) C21_1
theorem u21_2 : VC C21_2.eq_1 := rfl
def C21_3 : ACode := .seq (.reg L21_10) .ret
theorem u21_3 : VC C21_3.eq_1 := rfl
def C21_4 : ACode := .cond (.t 16) C21_3 .skip
theorem u21_4 : VC C21_4.eq_1 := rfl
def C21_5 : ACode := .seq (.reg L21_9) C21_4
theorem u21_5 : VC C21_5.eq_1 := rfl
def C21_6 : ACode := .seq (.reg L21_11) .ret
theorem u21_6 : VC C21_6.eq_1 := rfl
def C21_7 : ACode := .seq C21_5 C21_6
theorem u21_7 : VC C21_7.eq_1 := rfl
def C21_8 : ACode := .seq (.reg L21_8) C21_7
theorem u21_8 : VC C21_8.eq_1 := rfl
def C21_9 : ACode := .seq C21_2 C21_8
theorem u21_9 : VC C21_9.eq_1 := rfl
def C21_10 : ACode := .seq (.reg L21_3) C21_9
theorem u21_10 : VC C21_10.eq_1 := rfl
def C21_11 : ACode := .seq (.reg L21_0) C21_10
theorem u21_11 : VC C21_11.eq_1 := rfl
def F21 : AFunc := ⟨18, [.tmp 4], C21_11⟩
theorem cF21 : compB Try.prog 21 = some F21 := by kernel_rfl
attribute [local go_sem ↓] u21_0 u21_1 u21_2 u21_3 u21_4 u21_5 u21_6 u21_7 u21_8 u21_9 u21_10 u21_11 v21_0 v21_1 v21_2 v21_3 v21_4 v21_5 v21_6 v21_7 v21_8 v21_9 v21_10 v21_11
theorem c_szFlat {t1 t2 : Nat} (f : Flat) (pv nv : CV) (left : Int) (h : H) (h1 : 0 ≤ left) (h2 : left ≤ 1048576) (hp : Sl encI 1 t1 h (.one pv) f.pl) (hq : Sl encP 2 t2 h (.one nv) f.nl) (k0 : f.pl.length ≤ far) (k1 : f.nl.length ≤ far) (k2 : ∀ x ∈ f.nl, x.name.size ≤ far) :
    bm Try.prog 21 [.agg [pv, nv], .one (.int .i64 left)] h = some (ii (szr left (wtF f)), h) := by
  refine bm_eq cF21 ?_
  by_cases e : left - (f.pl.length : Int) < 0
  · simp +contextual (maxSteps := 2000000) only [go_sem, Nat.reduceEqDiff, reduceCtorEq, Nat.reduceAdd, Nat.reduceLeDiff, F21, c_szIntS _ _ _ _ h1 h2 hp k0, decide_eq_true (szr_lt.2 e)]
    unfold szr wtF
    rw [if_pos (by omega)]
  · have e1 : szr left f.pl.length = left - (f.pl.length : Int) := by unfold szr; rw [if_neg e]
    simp +contextual (maxSteps := 2000000) only [go_sem, Nat.reduceEqDiff, reduceCtorEq, Nat.reduceAdd, Nat.reduceLeDiff, F21, c_szIntS _ _ _ _ h1 h2 hp k0, e1, decide_eq_false e, c_szPairS _ _ (left - (f.pl.length : Int)) _ (by omega) (by omega) hq k1 k2]
    unfold szr wtF
    (repeat' (first | refine And.intro ?_ ?_ | intro _)) <;> first | (split <;> simp_all <;> omega)
end Go.Proofs.Ytdalgphpacikkab.Am
