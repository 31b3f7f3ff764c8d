/- Contracts of the laws: sizes. -/
import Derived.Test.YtdalgphpacikkaaDat
namespace Go.Proofs.Ytdalgphpacikkaa.Am
open Go
set_option maxRecDepth 100000
set_option maxHeartbeats 4000000
set_option linter.unusedSimpArgs false
set_option linter.unusedVariables false
attribute [local go_sem ↓] bv_t bv_c ev_t ev_c put_same put_ne put_none kill_at pro_at lb_same lb_ne start_zero start_succ wpC_seq wpC_reg wpC_cond wpC_block wpC_skip wpC_exit wpC_ret thenQ_normal thenQ_exit thenQ_ret inBlk_normal inBlk_exit inBlk_ret wpS_nil wpS_step wpS_again wpS_guard wpO_mov wpO_load wpO_faddr wpO_nilCheck wpO_pick wpO_build wpO_bin wpO_eqb wpO_eqst wpO_eqnil wpO_not wpO_conv wpO_bytesStr wpO_iaddr wpO_idxStr wpO_field wpO_extract wpO_len wpO_lenStr wpO_cap wpO_min wpO_slice wpO_sliceStr wpO_alloc wpO_box wpO_store wpO_call wpO_callv wpO_mkfn wpO_buildSlice wpO_mkslice wpO_append wpO_appz proA_nil proA_cons tmpX_nil tmpX_tmp tmpX_cell doneB_normal doneB_ret agK_cons agK_nil agK_guard agG_tt agG_ff agG_tf agG_ft agG_undef pureB_load results_one results_two results_nil resBs_cons resBs_nil resB_tmp resB_cell
attribute [local go_sem] kill_v kill_lp_ne kill_lp_same pro_v pro_lp_same pro_lp_ne av_v av_lp optB_some optX_some valX_eq ldX_lp ldX_v faX_lp faX_v ncX_lp ncX_ptr ncX_fn boxK_one boxK_agg stL_some stK_lp_one stK_lp_agg stK_v_one stK_v_agg proM_v proM_lp callG_mk callVG_mk callvK_fn fnG_mk ptrsA_nil ptrsA_cons callH_some whenA_true whenA_false guardH_tt guardH_ff guardH_tf guardH_ft guardH_undef agV_one agV_agg lenO_sl lenStrO_str notO_bool pickO_bool convO_int eqbO_bool eqnilO_sl extractO_tup capO_sl minO_int loadL_one loadL_all storeL_eq fillA_nil fillA_one fillA_agg nat_ge neg_ge nat_lt neg_lt buildO bin_add bin_sub bin_mul bin_eql bin_neq bin_lss bin_leq bin_gtr bin_geq str_eql str_neq str_lss str_leq str_gtr str_geq retK_some endK_mk gcK_same gcK_int gcK_bool tupO_one tupO_agg rdy_self ib ii Option.map_none Option.map_some Option.some.injEq exists_eq_left' exists_eq_left ne_eq not_false_eq_true if_true if_false List.map_cons List.map_nil List.getElem?_cons_zero List.getElem?_cons_succ List.length_cons List.length_nil List.take_succ_cons List.take_zero List.take_nil List.drop_succ_cons List.drop_zero List.drop_nil List.cons_append List.nil_append List.append_nil List.set_cons_zero List.set_cons_succ Nat.zero_add forall_const true_and and_true and_self Bool.false_eq_true false_implies true_implies implies_true Bool.not_true Bool.not_false Bool.not_eq_true' Bool.not_eq_false' beq_self_eq_true Bool.bne_true Bool.bne_false
attribute [local go_sem] lenI lenS lenP lenQ lenB lenL lenT encI_0 encS_0 encP_0 encP_1 encQ_0 encQ_1 encQ_2 encQ_3 encB_0 encB_1 encL_0 encL_1 encT_0 encT_1
attribute [local go_sem low] whenA_bool guardH_bool
theorem i64_sub {a : Int} {n : Nat} (h1 : 0 ≤ a) (h2 : a ≤ 1048576) (h3 : n ≤ far) : IntKind.i64.wrap (a - n) = a - n := by unfold far at h3; rw [i64_wrap (by omega) (by omega)]
/-! laws.szParam -/
def L61_0 : List AStep := [⟨.box 88 (.t 0), (some 2), none, []⟩, ⟨.mov (.c (.int .i64 0)), (some 4), none, []⟩]
theorem v61_0 : VS L61_0.eq_1 := rfl
def L61_1 : List AStep := [⟨.bin .sub (.t 5) (.t 8), (some 9), none, []⟩, ⟨.mov (.t 9), (some 1), none, []⟩]
theorem v61_1 : VS L61_1.eq_1 := rfl
def L61_2 : List AStep := ⟨.load 1 false (.t 6), (some 7), none, []⟩ :: ⟨.lenStr (.t 7), (some 8), none, []⟩ :: L61_1
theorem v61_2 : VS L61_2.eq_1 := rfl
def L61_3 : List AStep := ⟨.mov (.t 1), (some 5), none, []⟩ :: ⟨.faddr 0 (.t 2), (some 6), none, []⟩ :: L61_2
theorem v61_3 : VS L61_3.eq_1 := rfl
def L61_4 : List AStep := [⟨.mov (.t 1), (some 10), none, []⟩, ⟨.bin .lss (.t 10) (.c (.int .i64 0)), (some 11), none, []⟩]
theorem v61_4 : VS L61_4.eq_1 := rfl
def L61_5 : List AStep := [⟨.mov (.c (.int .i64 (-1))), (some 4), none, []⟩]
theorem v61_5 : VS L61_5.eq_1 := rfl
def L61_6 : List AStep := [⟨.mov (.t 1), (some 12), none, []⟩, ⟨.mov (.t 12), (some 4), none, []⟩]
theorem v61_6 : VS L61_6.eq_1 := rfl
def C61_0 : ACode := .seq (.reg L61_5) .ret
theorem u61_0 : VC C61_0.eq_1 := rfl
def C61_1 : ACode := .cond (.t 11) C61_0 .skip
theorem u61_1 : VC C61_1.eq_1 := rfl
def C61_2 : ACode := .seq (.reg L61_4) C61_1
theorem u61_2 : VC C61_2.eq_1 := rfl
def C61_3 : ACode := .seq (.reg L61_6) .ret
theorem u61_3 : VC C61_3.eq_1 := rfl
def C61_4 : ACode := .seq C61_2 C61_3
theorem u61_4 : VC C61_4.eq_1 := rfl
def C61_5 : ACode := .seq (.reg L61_3) C61_4
theorem u61_5 : VC C61_5.eq_1 := rfl
def C61_6 : ACode := .seq (.reg L61_0) C61_5
theorem u61_6 : VC C61_6.eq_1 := rfl
def F61 : AFunc := ⟨13, [.tmp 4], C61_6⟩
theorem cF61 : compB Try.prog 61 = some F61 := by kernel_rfl
attribute [local go_sem ↓] u61_0 u61_1 u61_2 u61_3 u61_4 u61_5 u61_6 v61_0 v61_1 v61_2 v61_3 v61_4 v61_5 v61_6
theorem c_szParam (p : Param) (left : Int) (h : H) (h1 : 0 ≤ left) (h2 : left ≤ 1048576) (k0 : p.name.size ≤ far) : bm Try.prog 61 [.agg (encQ p), .one (.int .i64 left)] h = some (ii (szr left (wtQ p)), h) := by
  refine bm_eq cF61 ?_
  simp +contextual (maxSteps := 2000000) only [go_sem, Nat.reduceEqDiff, reduceCtorEq, Nat.reduceAdd, Nat.reduceLeDiff, F61, i64_sub h1 h2 k0]
  unfold szr wtQ
  (repeat' (first | refine And.intro ?_ ?_ | intro _)) <;> first | (simp_all; done) | (simp_all; omega)
/-! laws.szPair -/
def L62_0 : List AStep := [⟨.box 91 (.t 0), (some 2), none, []⟩, ⟨.mov (.c (.int .i64 0)), (some 4), none, []⟩]
theorem v62_0 : VS L62_0.eq_1 := rfl
def L62_1 : List AStep := [⟨.bin .sub (.t 5) (.t 8), (some 9), none, []⟩, ⟨.mov (.t 9), (some 1), none, []⟩]
theorem v62_1 : VS L62_1.eq_1 := rfl
def L62_2 : List AStep := ⟨.load 1 false (.t 6), (some 7), none, []⟩ :: ⟨.lenStr (.t 7), (some 8), none, []⟩ :: L62_1
theorem v62_2 : VS L62_2.eq_1 := rfl
def L62_3 : List AStep := ⟨.mov (.t 1), (some 5), none, []⟩ :: ⟨.faddr 0 (.t 2), (some 6), none, []⟩ :: L62_2
theorem v62_3 : VS L62_3.eq_1 := rfl
def L62_4 : List AStep := [⟨.mov (.t 1), (some 10), none, []⟩, ⟨.bin .lss (.t 10) (.c (.int .i64 0)), (some 11), none, []⟩]
theorem v62_4 : VS L62_4.eq_1 := rfl
def L62_5 : List AStep := [⟨.mov (.c (.int .i64 (-1))), (some 4), none, []⟩]
theorem v62_5 : VS L62_5.eq_1 := rfl
def L62_6 : List AStep := [⟨.mov (.t 1), (some 12), none, []⟩, ⟨.mov (.t 12), (some 4), none, []⟩]
theorem v62_6 : VS L62_6.eq_1 := rfl
def C62_0 : ACode := .seq (.reg L62_5) .ret
theorem u62_0 : VC C62_0.eq_1 := rfl
def C62_1 : ACode := .cond (.t 11) C62_0 .skip
theorem u62_1 : VC C62_1.eq_1 := rfl
def C62_2 : ACode := .seq (.reg L62_4) C62_1
theorem u62_2 : VC C62_2.eq_1 := rfl
def C62_3 : ACode := .seq (.reg L62_6) .ret
theorem u62_3 : VC C62_3.eq_1 := rfl
def C62_4 : ACode := .seq C62_2 C62_3
theorem u62_4 : VC C62_4.eq_1 := rfl
def C62_5 : ACode := .seq (.reg L62_3) C62_4
theorem u62_5 : VC C62_5.eq_1 := rfl
def C62_6 : ACode := .seq (.reg L62_0) C62_5
theorem u62_6 : VC C62_6.eq_1 := rfl
def F62 : AFunc := ⟨13, [.tmp 4], C62_6⟩
theorem cF62 : compB Try.prog 62 = some F62 := by kernel_rfl
attribute [local go_sem ↓] u62_0 u62_1 u62_2 u62_3 u62_4 u62_5 u62_6 v62_0 v62_1 v62_2 v62_3 v62_4 v62_5 v62_6
theorem c_szPair (p : Pair) (left : Int) (h : H) (h1 : 0 ≤ left) (h2 : left ≤ 1048576) (k0 : p.name.size ≤ far) : bm Try.prog 62 [.agg (encP p), .one (.int .i64 left)] h = some (ii (szr left (wtP p)), h) := by
  refine bm_eq cF62 ?_
  simp +contextual (maxSteps := 2000000) only [go_sem, Nat.reduceEqDiff, reduceCtorEq, Nat.reduceAdd, Nat.reduceLeDiff, F62, i64_sub h1 h2 k0]
  unfold szr wtP
  (repeat' (first | refine And.intro ?_ ?_ | intro _)) <;> first | (simp_all; done) | (simp_all; omega)
/-! laws.szIntS -/
def L36_0 : List AStep := [⟨.mov (.c (.int .i64 0)), (some 4), none, []⟩]
theorem v36_0 : VS L36_0.eq_1 := rfl
def L36_1 : List AStep := [⟨.mov (.t 8), (some 1), none, []⟩]
theorem v36_1 : VS L36_1.eq_1 := rfl
def L36_2 : List AStep := ⟨.len (.t 6), (some 7), none, []⟩ :: ⟨.bin .sub (.t 5) (.t 7), (some 8), none, []⟩ :: L36_1
theorem v36_2 : VS L36_2.eq_1 := rfl
def L36_3 : List AStep := ⟨.mov (.t 1), (some 5), none, []⟩ :: ⟨.mov (.t 0), (some 6), none, []⟩ :: L36_2
theorem v36_3 : VS L36_3.eq_1 := rfl
def L36_4 : List AStep := [⟨.mov (.t 1), (some 9), none, []⟩, ⟨.bin .lss (.t 9) (.c (.int .i64 0)), (some 10), none, []⟩]
theorem v36_4 : VS L36_4.eq_1 := rfl
def L36_5 : List AStep := [⟨.mov (.c (.int .i64 (-1))), (some 4), none, []⟩]
theorem v36_5 : VS L36_5.eq_1 := rfl
def L36_6 : List AStep := [⟨.mov (.t 1), (some 11), none, []⟩, ⟨.mov (.t 11), (some 4), none, []⟩]
theorem v36_6 : VS L36_6.eq_1 := rfl
def C36_0 : ACode := .seq (.reg L36_5) .ret
theorem u36_0 : VC C36_0.eq_1 := rfl
def C36_1 : ACode := .cond (.t 10) C36_0 .skip
theorem u36_1 : VC C36_1.eq_1 := rfl
def C36_2 : ACode := .seq (.reg L36_4) C36_1
theorem u36_2 : VC C36_2.eq_1 := rfl
def C36_3 : ACode := .seq (.reg L36_6) .ret
theorem u36_3 : VC C36_3.eq_1 := rfl
def C36_4 : ACode := .seq C36_2 C36_3
theorem u36_4 : VC C36_4.eq_1 := rfl
def C36_5 : ACode := .seq (.reg L36_3) C36_4
theorem u36_5 : VC C36_5.eq_1 := rfl
def C36_6 : ACode := .seq (.reg L36_0) C36_5
theorem u36_6 : VC C36_6.eq_1 := rfl
def F36 : AFunc := ⟨12, [.tmp 4], C36_6⟩
theorem cF36 : compB Try.prog 36 = some F36 := by kernel_rfl
attribute [local go_sem ↓] u36_0 u36_1 u36_2 u36_3 u36_4 u36_5 u36_6 v36_0 v36_1 v36_2 v36_3 v36_4 v36_5 v36_6
theorem c_szIntS {ty : Nat} (l : List Int) (v : AV) (left : Int) (h : H) (h1 : 0 ≤ left) (h2 : left ≤ 1048576) (hl : Sl encI 1 ty h v l) (k0 : l.length ≤ far) : bm Try.prog 36 [v, .one (.int .i64 left)] h = some (ii (szr left l.length), h) := by
  refine bm_eq cF36 ?_
  simp +contextual (maxSteps := 2000000) only [go_sem, Nat.reduceEqDiff, reduceCtorEq, Nat.reduceAdd, Nat.reduceLeDiff, F36, hl.len, i64_sub h1 h2 k0]
  unfold szr
  (repeat' (first | refine And.intro ?_ ?_ | intro _)) <;> first | (simp_all; done) | (simp_all; omega)
/-! laws.szParamS -/
def L35_0 : List AStep := [⟨.mov (.c (.int .i64 0)), (some 4), none, []⟩]
theorem v35_0 : VS L35_0.eq_1 := rfl
def L35_1 : List AStep := [⟨.mov (.t 9), (some 1), none, []⟩]
theorem v35_1 : VS L35_1.eq_1 := rfl
def L35_2 : List AStep := ⟨.len (.t 7), (some 8), none, []⟩ :: ⟨.bin .sub (.t 6) (.t 8), (some 9), none, []⟩ :: L35_1
theorem v35_2 : VS L35_2.eq_1 := rfl
def L35_3 : List AStep := ⟨.mov (.t 1), (some 6), none, []⟩ :: ⟨.mov (.t 0), (some 7), none, []⟩ :: L35_2
theorem v35_3 : VS L35_3.eq_1 := rfl
def L35_4 : List AStep := [⟨.mov (.t 1), (some 10), none, []⟩, ⟨.bin .lss (.t 10) (.c (.int .i64 0)), (some 11), none, []⟩]
theorem v35_4 : VS L35_4.eq_1 := rfl
def L35_5 : List AStep := [⟨.mov (.c (.int .i64 (-1))), (some 4), none, []⟩]
theorem v35_5 : VS L35_5.eq_1 := rfl
def L35_6 : List AStep := [⟨.mov (.c (.int .i64 0)), (some 5), none, []⟩]
theorem v35_6 : VS L35_6.eq_1 := rfl
def L35_7 : List AStep := [⟨.len (.t 13), (some 14), none, []⟩, ⟨.bin .lss (.t 12) (.t 14), (some 15), none, []⟩]
theorem v35_7 : VS L35_7.eq_1 := rfl
def L35_8 : List AStep := ⟨.mov (.t 5), (some 12), none, []⟩ :: ⟨.mov (.t 0), (some 13), none, []⟩ :: L35_7
theorem v35_8 : VS L35_8.eq_1 := rfl
def L35_9 : List AStep := [⟨.mov (.t 23), (some 1), none, []⟩]
theorem v35_9 : VS L35_9.eq_1 := rfl
def L35_10 : List AStep := ⟨.mov (.t 1), (some 22), none, []⟩ :: ⟨.call 61 [(.t 21), (.t 22)], (some 23), none, []⟩ :: L35_9
theorem v35_10 : VS L35_10.eq_1 := rfl
def L35_11 : List AStep := ⟨.iaddr 4 (.t 18) (.t 19), (some 20), none, []⟩ :: ⟨.load 4 true (.t 20), (some 21), none, []⟩ :: L35_10
theorem v35_11 : VS L35_11.eq_1 := rfl
def L35_12 : List AStep := ⟨.mov (.t 0), (some 18), none, []⟩ :: ⟨.mov (.t 5), (some 19), none, []⟩ :: L35_11
theorem v35_12 : VS L35_12.eq_1 := rfl
def L35_13 : List AStep := [⟨.mov (.t 1), (some 24), none, []⟩, ⟨.bin .lss (.t 24) (.c (.int .i64 0)), (some 25), none, []⟩]
theorem v35_13 : VS L35_13.eq_1 := rfl
def L35_14 : List AStep := [⟨.mov (.c (.int .i64 (-1))), (some 4), none, []⟩]
theorem v35_14 : VS L35_14.eq_1 := rfl
def L35_15 : List AStep := [⟨.mov (.t 17), (some 5), none, []⟩]
theorem v35_15 : VS L35_15.eq_1 := rfl
def L35_16 : List AStep := ⟨.mov (.t 5), (some 16), none, []⟩ :: ⟨.bin .add (.t 16) (.c (.int .i64 1)), (some 17), none, []⟩ :: L35_15
theorem v35_16 : VS L35_16.eq_1 := rfl
def L35_17 : List AStep := [⟨.mov (.t 1), (some 26), none, []⟩, ⟨.mov (.t 26), (some 4), none, []⟩]
theorem v35_17 : VS L35_17.eq_1 := rfl
def C35_0 : ACode := .seq (.reg L35_5) .ret
theorem u35_0 : VC C35_0.eq_1 := rfl
def C35_1 : ACode := .cond (.t 11) C35_0 .skip
theorem u35_1 : VC C35_1.eq_1 := rfl
def C35_2 : ACode := .seq (.reg L35_4) C35_1
theorem u35_2 : VC C35_2.eq_1 := rfl
def C35_3 : ACode := .cond (.t 15) .skip (.exit 0)
theorem u35_3 : VC C35_3.eq_1 := rfl
def C35_4 : ACode := .seq (.reg L35_8) C35_3
theorem u35_4 : VC C35_4.eq_1 := rfl
def C35_5 : ACode := .seq (.reg L35_14) .ret
theorem u35_5 : VC C35_5.eq_1 := rfl
def C35_6 : ACode := .cond (.t 25) C35_5 .skip
theorem u35_6 : VC C35_6.eq_1 := rfl
def C35_7 : ACode := .seq (.reg L35_13) C35_6
theorem u35_7 : VC C35_7.eq_1 := rfl
def C35_8 : ACode := .seq (.reg L35_12) C35_7
theorem u35_8 : VC C35_8.eq_1 := rfl
def C35_9 : ACode := .block 1 C35_8
theorem u35_9 : VC C35_9.eq_1 := rfl
def C35_10 : ACode := .seq C35_9 (.reg L35_16)
theorem u35_10 : VC C35_10.eq_1 := rfl
def C35_11 : ACode := .seq C35_4 C35_10
theorem u35_11 : VC C35_11.eq_1 := rfl
def C35_12 : ACode := .block 0 (.loop C35_11)
theorem u35_12 : VC C35_12.eq_1 := rfl
def C35_13 : ACode := .seq (.reg L35_6) C35_12
theorem u35_13 : VC C35_13.eq_1 := rfl
def C35_14 : ACode := .seq (.reg L35_17) .ret
theorem u35_14 : VC C35_14.eq_1 := rfl
def C35_15 : ACode := .seq C35_13 C35_14
theorem u35_15 : VC C35_15.eq_1 := rfl
def C35_16 : ACode := .seq C35_2 C35_15
theorem u35_16 : VC C35_16.eq_1 := rfl
def C35_17 : ACode := .seq (.reg L35_3) C35_16
theorem u35_17 : VC C35_17.eq_1 := rfl
def C35_18 : ACode := .seq (.reg L35_0) C35_17
theorem u35_18 : VC C35_18.eq_1 := rfl
def F35 : AFunc := ⟨27, [.tmp 4], C35_18⟩
theorem cF35 : compB Try.prog 35 = some F35 := by kernel_rfl
attribute [local go_sem ↓] u35_0 u35_1 u35_2 u35_3 u35_4 u35_5 u35_6 u35_7 u35_8 u35_9 u35_10 u35_11 u35_12 u35_13 u35_14 u35_15 u35_16 u35_17 u35_18 v35_0 v35_1 v35_2 v35_3 v35_4 v35_5 v35_6 v35_7 v35_8 v35_9 v35_10 v35_11 v35_12 v35_13 v35_14 v35_15 v35_16 v35_17
theorem c_szParamS {ty : Nat} (l : List Param) (v : AV) (left : Int) (h : H) (h1 : 0 ≤ left) (h2 : left ≤ 1048576) (hl : Sl encQ 4 ty h v l) (k0 : l.length ≤ far) (k1 : ∀ x ∈ l, x.name.size ≤ far) : bm Try.prog 35 [v, .one (.int .i64 left)] h = some (ii (szr left (wtL wtQ l)), h) := by
  refine bm_eq cF35 ?_
  by_cases e : left - (l.length : Int) < 0
  · simp +contextual (maxSteps := 2000000) only [go_sem, Nat.reduceEqDiff, reduceCtorEq, Nat.reduceAdd, Nat.reduceLeDiff, F35, hl.len, i64_sub h1 h2 k0, decide_eq_true e]
    unfold szr wtL
    rw [if_pos (by omega)]
  simp +contextual (maxSteps := 2000000) only [go_sem, Nat.reduceEqDiff, reduceCtorEq, Nat.reduceAdd, Nat.reduceLeDiff, F35, hl.len, i64_sub h1 h2 k0, decide_eq_false e]
  refine wpC_loop (fun i T L h' => h' = h ∧ T 0 = .v v ∧ T 5 = .v (.one (.int .i64 i)) ∧ T 1 = .v (.one (.int .i64 (left - (l.length : Int) - (wsum wtQ l i : Int)))) ∧ 0 ≤ left - (l.length : Int) - (wsum wtQ l i : Int)) l.length ?_ ?_ (Nat.zero_le _) ?_
  · rintro i T L h' hi ⟨rfl, t0, t5, t1, hw⟩
    have hm := List.getElem_mem hi
    have e2 := wsum_next (f := wtQ) hi
    have e3 := wsum_le (f := wtQ) (l := l) (show i + 1 ≤ l.length by omega)
    have e1 := c_szParam l[i] (left - (l.length : Int) - (wsum wtQ l i : Int)) h' hw (by omega) (k1 _ hm)
    by_cases e4 : left - (l.length : Int) - (wsum wtQ l i : Int) - (wtQ l[i] : Int) < 0
    · simp +contextual (maxSteps := 2000000) only [go_sem, Nat.reduceEqDiff, reduceCtorEq, Nat.reduceAdd, Nat.reduceLeDiff, t0, t1, t5, hl.len, hl.iaddr hi, hl.whole hi, e1, lt_true hi, decide_eq_true (szr_lt.2 e4)]
      unfold szr wtL
      rw [if_pos (by omega)]
    · simp +contextual (maxSteps := 2000000) only [go_sem, Nat.reduceEqDiff, reduceCtorEq, Nat.reduceAdd, Nat.reduceLeDiff, t0, t1, t5, hl.len, hl.iaddr hi, hl.whole hi, e1, lt_true hi, decide_eq_false (show ¬ szr (left - (l.length : Int) - (wsum wtQ l i : Int)) (wtQ l[i]) < 0 by rw [szr_lt]; exact e4)]
      have e5 : szr (left - (l.length : Int) - (wsum wtQ l i : Int)) (wtQ l[i]) = left - (l.length : Int) - (wsum wtQ l (i + 1) : Int) := by
        unfold szr
        rw [if_neg e4, e2]
        omega
      rw [wrap_next hi (by omega), e5]
      exact ⟨rfl, rfl, by omega⟩
  · rintro T L h' ⟨rfl, t0, t5, t1, hw⟩
    simp +contextual (maxSteps := 2000000) only [go_sem, Nat.reduceEqDiff, reduceCtorEq, Nat.reduceAdd, Nat.reduceLeDiff, t0, t1, t5, hl.len, lt_false]
    unfold szr wtL
    rw [if_neg (by omega)]
    rw [show left - (l.length : Int) - (wsum wtQ l l.length : Int) = left - ((l.length + wsum wtQ l l.length : Nat) : Int) by omega]
  · simp +contextual (maxSteps := 2000000) only [go_sem, Nat.reduceEqDiff, reduceCtorEq, Nat.reduceAdd, Nat.reduceLeDiff, wsum_zero]
    (repeat' (first | refine And.intro ?_ ?_ | intro _)) <;> first | rfl | (simp; done) | (simp; omega)
/-! laws.szPairS -/
def L37_0 : List AStep := [⟨.mov (.c (.int .i64 0)), (some 4), none, []⟩]
theorem v37_0 : VS L37_0.eq_1 := rfl
def L37_1 : List AStep := [⟨.mov (.t 9), (some 1), none, []⟩]
theorem v37_1 : VS L37_1.eq_1 := rfl
def L37_2 : List AStep := ⟨.len (.t 7), (some 8), none, []⟩ :: ⟨.bin .sub (.t 6) (.t 8), (some 9), none, []⟩ :: L37_1
theorem v37_2 : VS L37_2.eq_1 := rfl
def L37_3 : List AStep := ⟨.mov (.t 1), (some 6), none, []⟩ :: ⟨.mov (.t 0), (some 7), none, []⟩ :: L37_2
theorem v37_3 : VS L37_3.eq_1 := rfl
def L37_4 : List AStep := [⟨.mov (.t 1), (some 10), none, []⟩, ⟨.bin .lss (.t 10) (.c (.int .i64 0)), (some 11), none, []⟩]
theorem v37_4 : VS L37_4.eq_1 := rfl
def L37_5 : List AStep := [⟨.mov (.c (.int .i64 (-1))), (some 4), none, []⟩]
theorem v37_5 : VS L37_5.eq_1 := rfl
def L37_6 : List AStep := [⟨.mov (.c (.int .i64 0)), (some 5), none, []⟩]
theorem v37_6 : VS L37_6.eq_1 := rfl
def L37_7 : List AStep := [⟨.len (.t 13), (some 14), none, []⟩, ⟨.bin .lss (.t 12) (.t 14), (some 15), none, []⟩]
theorem v37_7 : VS L37_7.eq_1 := rfl
def L37_8 : List AStep := ⟨.mov (.t 5), (some 12), none, []⟩ :: ⟨.mov (.t 0), (some 13), none, []⟩ :: L37_7
theorem v37_8 : VS L37_8.eq_1 := rfl
def L37_9 : List AStep := [⟨.mov (.t 23), (some 1), none, []⟩]
theorem v37_9 : VS L37_9.eq_1 := rfl
def L37_10 : List AStep := ⟨.mov (.t 1), (some 22), none, []⟩ :: ⟨.call 62 [(.t 21), (.t 22)], (some 23), none, []⟩ :: L37_9
theorem v37_10 : VS L37_10.eq_1 := rfl
def L37_11 : List AStep := ⟨.iaddr 2 (.t 18) (.t 19), (some 20), none, []⟩ :: ⟨.load 2 true (.t 20), (some 21), none, []⟩ :: L37_10
theorem v37_11 : VS L37_11.eq_1 := rfl
def L37_12 : List AStep := ⟨.mov (.t 0), (some 18), none, []⟩ :: ⟨.mov (.t 5), (some 19), none, []⟩ :: L37_11
theorem v37_12 : VS L37_12.eq_1 := rfl
def L37_13 : List AStep := [⟨.mov (.t 1), (some 24), none, []⟩, ⟨.bin .lss (.t 24) (.c (.int .i64 0)), (some 25), none, []⟩]
theorem v37_13 : VS L37_13.eq_1 := rfl
def L37_14 : List AStep := [⟨.mov (.c (.int .i64 (-1))), (some 4), none, []⟩]
theorem v37_14 : VS L37_14.eq_1 := rfl
def L37_15 : List AStep := [⟨.mov (.t 17), (some 5), none, []⟩]
theorem v37_15 : VS L37_15.eq_1 := rfl
def L37_16 : List AStep := ⟨.mov (.t 5), (some 16), none, []⟩ :: ⟨.bin .add (.t 16) (.c (.int .i64 1)), (some 17), none, []⟩ :: L37_15
theorem v37_16 : VS L37_16.eq_1 := rfl
def L37_17 : List AStep := [⟨.mov (.t 1), (some 26), none, []⟩, ⟨.mov (.t 26), (some 4), none, []⟩]
theorem v37_17 : VS L37_17.eq_1 := rfl
def C37_0 : ACode := .seq (.reg L37_5) .ret
theorem u37_0 : VC C37_0.eq_1 := rfl
def C37_1 : ACode := .cond (.t 11) C37_0 .skip
theorem u37_1 : VC C37_1.eq_1 := rfl
def C37_2 : ACode := .seq (.reg L37_4) C37_1
theorem u37_2 : VC C37_2.eq_1 := rfl
def C37_3 : ACode := .cond (.t 15) .skip (.exit 0)
theorem u37_3 : VC C37_3.eq_1 := rfl
def C37_4 : ACode := .seq (.reg L37_8) C37_3
theorem u37_4 : VC C37_4.eq_1 := rfl
def C37_5 : ACode := .seq (.reg L37_14) .ret
theorem u37_5 : VC C37_5.eq_1 := rfl
def C37_6 : ACode := .cond (.t 25) C37_5 .skip
theorem u37_6 : VC C37_6.eq_1 := rfl
def C37_7 : ACode := .seq (.reg L37_13) C37_6
theorem u37_7 : VC C37_7.eq_1 := rfl
def C37_8 : ACode := .seq (.reg L37_12) C37_7
theorem u37_8 : VC C37_8.eq_1 := rfl
def C37_9 : ACode := .block 1 C37_8
theorem u37_9 : VC C37_9.eq_1 := rfl
def C37_10 : ACode := .seq C37_9 (.reg L37_16)
theorem u37_10 : VC C37_10.eq_1 := rfl
def C37_11 : ACode := .seq C37_4 C37_10
theorem u37_11 : VC C37_11.eq_1 := rfl
def C37_12 : ACode := .block 0 (.loop C37_11)
theorem u37_12 : VC C37_12.eq_1 := rfl
def C37_13 : ACode := .seq (.reg L37_6) C37_12
theorem u37_13 : VC C37_13.eq_1 := rfl
def C37_14 : ACode := .seq (.reg L37_17) .ret
theorem u37_14 : VC C37_14.eq_1 := rfl
def C37_15 : ACode := .seq C37_13 C37_14
theorem u37_15 : VC C37_15.eq_1 := rfl
def C37_16 : ACode := .seq C37_2 C37_15
theorem u37_16 : VC C37_16.eq_1 := rfl
def C37_17 : ACode := .seq (.reg L37_3) C37_16
theorem u37_17 : VC C37_17.eq_1 := rfl
def C37_18 : ACode := .seq (.reg L37_0) C37_17
theorem u37_18 : VC C37_18.eq_1 := rfl
def F37 : AFunc := ⟨27, [.tmp 4], C37_18⟩
theorem cF37 : compB Try.prog 37 = some F37 := by kernel_rfl
attribute [local go_sem ↓] u37_0 u37_1 u37_2 u37_3 u37_4 u37_5 u37_6 u37_7 u37_8 u37_9 u37_10 u37_11 u37_12 u37_13 u37_14 u37_15 u37_16 u37_17 u37_18 v37_0 v37_1 v37_2 v37_3 v37_4 v37_5 v37_6 v37_7 v37_8 v37_9 v37_10 v37_11 v37_12 v37_13 v37_14 v37_15 v37_16 v37_17
theorem c_szPairS {ty : Nat} (l : List Pair) (v : AV) (left : Int) (h : H) (h1 : 0 ≤ left) (h2 : left ≤ 1048576) (hl : Sl encP 2 ty h v l) (k0 : l.length ≤ far) (k1 : ∀ x ∈ l, x.name.size ≤ far) : bm Try.prog 37 [v, .one (.int .i64 left)] h = some (ii (szr left (wtL wtP l)), h) := by
  refine bm_eq cF37 ?_
  by_cases e : left - (l.length : Int) < 0
  · simp +contextual (maxSteps := 2000000) only [go_sem, Nat.reduceEqDiff, reduceCtorEq, Nat.reduceAdd, Nat.reduceLeDiff, F37, hl.len, i64_sub h1 h2 k0, decide_eq_true e]
    unfold szr wtL
    rw [if_pos (by omega)]
  simp +contextual (maxSteps := 2000000) only [go_sem, Nat.reduceEqDiff, reduceCtorEq, Nat.reduceAdd, Nat.reduceLeDiff, F37, hl.len, i64_sub h1 h2 k0, decide_eq_false e]
  refine wpC_loop (fun i T L h' => h' = h ∧ T 0 = .v v ∧ T 5 = .v (.one (.int .i64 i)) ∧ T 1 = .v (.one (.int .i64 (left - (l.length : Int) - (wsum wtP l i : Int)))) ∧ 0 ≤ left - (l.length : Int) - (wsum wtP l i : Int)) l.length ?_ ?_ (Nat.zero_le _) ?_
  · rintro i T L h' hi ⟨rfl, t0, t5, t1, hw⟩
    have hm := List.getElem_mem hi
    have e2 := wsum_next (f := wtP) hi
    have e3 := wsum_le (f := wtP) (l := l) (show i + 1 ≤ l.length by omega)
    have e1 := c_szPair l[i] (left - (l.length : Int) - (wsum wtP l i : Int)) h' hw (by omega) (k1 _ hm)
    by_cases e4 : left - (l.length : Int) - (wsum wtP l i : Int) - (wtP l[i] : Int) < 0
    · simp +contextual (maxSteps := 2000000) only [go_sem, Nat.reduceEqDiff, reduceCtorEq, Nat.reduceAdd, Nat.reduceLeDiff, t0, t1, t5, hl.len, hl.iaddr hi, hl.whole hi, e1, lt_true hi, decide_eq_true (szr_lt.2 e4)]
      unfold szr wtL
      rw [if_pos (by omega)]
    · simp +contextual (maxSteps := 2000000) only [go_sem, Nat.reduceEqDiff, reduceCtorEq, Nat.reduceAdd, Nat.reduceLeDiff, t0, t1, t5, hl.len, hl.iaddr hi, hl.whole hi, e1, lt_true hi, decide_eq_false (show ¬ szr (left - (l.length : Int) - (wsum wtP l i : Int)) (wtP l[i]) < 0 by rw [szr_lt]; exact e4)]
      have e5 : szr (left - (l.length : Int) - (wsum wtP l i : Int)) (wtP l[i]) = left - (l.length : Int) - (wsum wtP l (i + 1) : Int) := by
        unfold szr
        rw [if_neg e4, e2]
        omega
      rw [wrap_next hi (by omega), e5]
      exact ⟨rfl, rfl, by omega⟩
  · rintro T L h' ⟨rfl, t0, t5, t1, hw⟩
    simp +contextual (maxSteps := 2000000) only [go_sem, Nat.reduceEqDiff, reduceCtorEq, Nat.reduceAdd, Nat.reduceLeDiff, t0, t1, t5, hl.len, lt_false]
    unfold szr wtL
    rw [if_neg (by omega)]
    rw [show left - (l.length : Int) - (wsum wtP l l.length : Int) = left - ((l.length + wsum wtP l l.length : Nat) : Int) by omega]
  · simp +contextual (maxSteps := 2000000) only [go_sem, Nat.reduceEqDiff, reduceCtorEq, Nat.reduceAdd, Nat.reduceLeDiff, wsum_zero]
    (repeat' (first | refine And.intro ?_ ?_ | intro _)) <;> first | rfl | (simp; done) | (simp; omega)
/-! laws.szSignature -/
def L8_0 : List AStep := [⟨.box 24 (.t 0), (some 2), none, []⟩, ⟨.mov (.c (.int .i64 0)), (some 4), none, []⟩]
theorem v8_0 : VS L8_0.eq_1 := rfl
def L8_1 : List AStep := [⟨.mov (.t 8), (some 1), none, []⟩]
theorem v8_1 : VS L8_1.eq_1 := rfl
def L8_2 : List AStep := ⟨.mov (.t 1), (some 7), none, []⟩ :: ⟨.call 35 [(.t 6), (.t 7)], (some 8), none, []⟩ :: L8_1
theorem v8_2 : VS L8_2.eq_1 := rfl
def L8_3 : List AStep := ⟨.faddr 0 (.t 2), (some 5), none, []⟩ :: ⟨.load 1 false (.t 5), (some 6), none, []⟩ :: L8_2
theorem v8_3 : VS L8_3.eq_1 := rfl
def L8_4 : List AStep := [⟨.mov (.t 1), (some 9), none, []⟩, ⟨.bin .lss (.t 9) (.c (.int .i64 0)), (some 10), none, []⟩]
theorem v8_4 : VS L8_4.eq_1 := rfl
def L8_5 : List AStep := [⟨.mov (.c (.int .i64 (-1))), (some 4), none, []⟩]
theorem v8_5 : VS L8_5.eq_1 := rfl
def L8_6 : List AStep := [⟨.mov (.t 1), (some 11), none, []⟩, ⟨.mov (.t 11), (some 4), none, []⟩]
theorem v8_6 : VS L8_6.eq_1 := rfl
def C8_0 : ACode := .seq (.reg L8_5) .ret
theorem u8_0 : VC C8_0.eq_1 := rfl
def C8_1 : ACode := .cond (.t 10) C8_0 .skip
theorem u8_1 : VC C8_1.eq_1 := rfl
def C8_2 : ACode := .seq (.reg L8_4) C8_1
theorem u8_2 : VC C8_2.eq_1 := rfl
def C8_3 : ACode := .seq (.reg L8_6) .ret
theorem u8_3 : VC C8_3.eq_1 := rfl
def C8_4 : ACode := .seq C8_2 C8_3
theorem u8_4 : VC C8_4.eq_1 := rfl
def C8_5 : ACode := .seq (.reg L8_3) C8_4
theorem u8_5 : VC C8_5.eq_1 := rfl
def C8_6 : ACode := .seq (.reg L8_0) C8_5
theorem u8_6 : VC C8_6.eq_1 := rfl
def F8 : AFunc := ⟨12, [.tmp 4], C8_6⟩
theorem cF8 : compB Try.prog 8 = some F8 := by kernel_rfl
attribute [local go_sem ↓] u8_0 u8_1 u8_2 u8_3 u8_4 u8_5 u8_6 v8_0 v8_1 v8_2 v8_3 v8_4 v8_5 v8_6
theorem c_szSignature {ty : Nat} (l : List Param) (v : CV) (left : Int) (h : H) (h1 : 0 ≤ left) (h2 : left ≤ 1048576) (hl : Sl encQ 4 ty h (.one v) l) (k0 : l.length ≤ far) (k1 : ∀ x ∈ l, x.name.size ≤ far) : bm Try.prog 8 [.agg [v], .one (.int .i64 left)] h = some (ii (szr left (wtL wtQ l)), h) := by
  refine bm_eq cF8 ?_
  simp +contextual (maxSteps := 2000000) only [go_sem, Nat.reduceEqDiff, reduceCtorEq, Nat.reduceAdd, Nat.reduceLeDiff, F8, c_szParamS _ _ _ _ h1 h2 hl k0 k1]
  unfold szr
  (repeat' (first | refine And.intro ?_ ?_ | intro _)) <;> first | (simp_all; done) | (simp_all; omega)
/-! laws.szFlat -/
def L9_0 : List AStep := [⟨.box 28 (.t 0), (some 2), none, []⟩, ⟨.mov (.c (.int .i64 0)), (some 4), none, []⟩]
theorem v9_0 : VS L9_0.eq_1 := rfl
def L9_1 : List AStep := [⟨.mov (.t 8), (some 1), none, []⟩]
theorem v9_1 : VS L9_1.eq_1 := rfl
def L9_2 : List AStep := ⟨.mov (.t 1), (some 7), none, []⟩ :: ⟨.call 36 [(.t 6), (.t 7)], (some 8), none, []⟩ :: L9_1
theorem v9_2 : VS L9_2.eq_1 := rfl
def L9_3 : List AStep := ⟨.faddr 0 (.t 2), (some 5), none, []⟩ :: ⟨.load 1 false (.t 5), (some 6), none, []⟩ :: L9_2
theorem v9_3 : VS L9_3.eq_1 := rfl
def L9_4 : List AStep := [⟨.mov (.t 1), (some 9), none, []⟩, ⟨.bin .lss (.t 9) (.c (.int .i64 0)), (some 10), none, []⟩]
theorem v9_4 : VS L9_4.eq_1 := rfl
def L9_5 : List AStep := [⟨.mov (.c (.int .i64 (-1))), (some 4), none, []⟩]
theorem v9_5 : VS L9_5.eq_1 := rfl
def L9_6 : List AStep := [⟨.mov (.t 14), (some 1), none, []⟩]
theorem v9_6 : VS L9_6.eq_1 := rfl
def L9_7 : List AStep := ⟨.mov (.t 1), (some 13), none, []⟩ :: ⟨.call 37 [(.t 12), (.t 13)], (some 14), none, []⟩ :: L9_6
theorem v9_7 : VS L9_7.eq_1 := rfl
def L9_8 : List AStep := ⟨.faddr 1 (.t 2), (some 11), none, []⟩ :: ⟨.load 1 false (.t 11), (some 12), none, []⟩ :: L9_7
theorem v9_8 : VS L9_8.eq_1 := rfl
def L9_9 : List AStep := [⟨.mov (.t 1), (some 15), none, []⟩, ⟨.bin .lss (.t 15) (.c (.int .i64 0)), (some 16), none, []⟩]
theorem v9_9 : VS L9_9.eq_1 := rfl
def L9_10 : List AStep := [⟨.mov (.c (.int .i64 (-1))), (some 4), none, []⟩]
theorem v9_10 : VS L9_10.eq_1 := rfl
def L9_11 : List AStep := [⟨.mov (.t 1), (some 17), none, []⟩, ⟨.mov (.t 17), (some 4), none, []⟩]
theorem v9_11 : VS L9_11.eq_1 := rfl
def C9_0 : ACode := .seq (.reg L9_5) .ret
theorem u9_0 : VC C9_0.eq_1 := rfl
def C9_1 : ACode := .cond (.t 10) C9_0 .skip
theorem u9_1 : VC C9_1.eq_1 := rfl
def C9_2 : ACode := .seq (.reg L9_4) C9_1
theorem u9_2 : VC C9_2.eq_1 := rfl
def C9_3 : ACode := .seq (.reg L9_10) .ret
theorem u9_3 : VC C9_3.eq_1 := rfl
def C9_4 : ACode := .cond (.t 16) C9_3 .skip
theorem u9_4 : VC C9_4.eq_1 := rfl
def C9_5 : ACode := .seq (.reg L9_9) C9_4
theorem u9_5 : VC C9_5.eq_1 := rfl
def C9_6 : ACode := .seq (.reg L9_11) .ret
theorem u9_6 : VC C9_6.eq_1 := rfl
def C9_7 : ACode := .seq C9_5 C9_6
theorem u9_7 : VC C9_7.eq_1 := rfl
def C9_8 : ACode := .seq (.reg L9_8) C9_7
theorem u9_8 : VC C9_8.eq_1 := rfl
def C9_9 : ACode := .seq C9_2 C9_8
theorem u9_9 : VC C9_9.eq_1 := rfl
def C9_10 : ACode := .seq (.reg L9_3) C9_9
theorem u9_10 : VC C9_10.eq_1 := rfl
def C9_11 : ACode := .seq (.reg L9_0) C9_10
theorem u9_11 : VC C9_11.eq_1 := rfl
def F9 : AFunc := ⟨18, [.tmp 4], C9_11⟩
theorem cF9 : compB Try.prog 9 = some F9 := by kernel_rfl
attribute [local go_sem ↓] u9_0 u9_1 u9_2 u9_3 u9_4 u9_5 u9_6 u9_7 u9_8 u9_9 u9_10 u9_11 v9_0 v9_1 v9_2 v9_3 v9_4 v9_5 v9_6 v9_7 v9_8 v9_9 v9_10 v9_11
theorem c_szFlat {t1 t2 : Nat} (f : Flat) (pv nv : CV) (left : Int) (h : H) (h1 : 0 ≤ left) (h2 : left ≤ 1048576) (hp : Sl encI 1 t1 h (.one pv) f.pl) (hq : Sl encP 2 t2 h (.one nv) f.nl) (k0 : f.pl.length ≤ far) (k1 : f.nl.length ≤ far) (k2 : ∀ x ∈ f.nl, x.name.size ≤ far) :
    bm Try.prog 9 [.agg [pv, nv], .one (.int .i64 left)] h = some (ii (szr left (wtF f)), h) := by
  refine bm_eq cF9 ?_
  by_cases e : left - (f.pl.length : Int) < 0
  · simp +contextual (maxSteps := 2000000) only [go_sem, Nat.reduceEqDiff, reduceCtorEq, Nat.reduceAdd, Nat.reduceLeDiff, F9, c_szIntS _ _ _ _ h1 h2 hp k0, decide_eq_true (szr_lt.2 e)]
    unfold szr wtF
    rw [if_pos (by omega)]
  · have e1 : szr left f.pl.length = left - (f.pl.length : Int) := by unfold szr; rw [if_neg e]
    simp +contextual (maxSteps := 2000000) only [go_sem, Nat.reduceEqDiff, reduceCtorEq, Nat.reduceAdd, Nat.reduceLeDiff, F9, c_szIntS _ _ _ _ h1 h2 hp k0, e1, decide_eq_false e, c_szPairS _ _ (left - (f.pl.length : Int)) _ (by omega) (by omega) hq k1 k2]
    unfold szr wtF
    (repeat' (first | refine And.intro ?_ ?_ | intro _)) <;> first | (split <;> simp_all <;> omega)
end Go.Proofs.Ytdalgphpacikkaa.Am
