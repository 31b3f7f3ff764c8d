/- Contracts of the program: copies, calls over each other. -/
import Derived.Test.YtoeceafibmafpaaDoorA3
namespace Go.Proofs.YtoeceafibmafpaaDoor.Am
open Go
set_option maxRecDepth 100000
set_option maxHeartbeats 4000000
set_option linter.unusedSimpArgs false
set_option linter.unusedVariables false
attribute [local go_sem ↓] bv_t bv_c ev_t ev_c put_same put_ne put_none kill_at pro_at lb_same lb_ne start_zero start_succ wpC_seq wpC_reg wpC_cond wpC_block wpC_skip wpC_exit wpC_ret thenQ_normal thenQ_exit thenQ_ret inBlk_normal inBlk_exit inBlk_ret wpS_nil wpS_step wpS_again wpS_guard wpO_mov wpO_load wpO_faddr wpO_nilCheck wpO_pick wpO_build wpO_bin wpO_eqb wpO_eqst wpO_eqnil wpO_not wpO_conv wpO_bytesStr wpO_iaddr wpO_idxStr wpO_field wpO_extract wpO_len wpO_lenStr wpO_cap wpO_min wpO_slice wpO_sliceStr wpO_alloc wpO_box wpO_store wpO_call wpO_callv wpO_mkfn wpO_buildSlice wpO_mkslice wpO_append wpO_appz proA_nil proA_cons tmpX_nil tmpX_tmp tmpX_cell doneB_normal doneB_ret agK_cons agK_nil agK_guard agG_tt agG_ff agG_tf agG_ft agG_undef pureB_load results_one results_two results_nil resBs_cons resBs_nil resB_tmp resB_cell
attribute [local go_sem] kill_v kill_lp_ne kill_lp_same pro_v pro_lp_same pro_lp_ne av_v av_lp optB_some optX_some valX_eq ldX_lp ldX_v faX_lp faX_v ncX_lp ncX_ptr ncX_fn boxK_one boxK_agg stL_some stK_lp_one stK_lp_agg stK_v_one stK_v_agg proM_v proM_lp callG_mk callVG_mk callvK_fn fnG_mk ptrsA_nil ptrsA_cons callH_some whenA_true whenA_false guardH_tt guardH_ff guardH_tf guardH_ft guardH_undef agV_one agV_agg lenO_sl lenStrO_str notO_bool pickO_bool convO_int eqbO_bool eqnilO_sl extractO_tup capO_sl minO_int loadL_one loadL_all storeL_eq fillA_nil fillA_one fillA_agg nat_ge neg_ge nat_lt neg_lt buildO bin_add bin_sub bin_mul bin_eql bin_neq bin_lss bin_leq bin_gtr bin_geq str_eql str_neq str_lss str_leq str_gtr str_geq retK_some endK_mk gcK_same gcK_int gcK_bool tupO_one tupO_agg rdy_self ib ii Option.map_none Option.map_some Option.some.injEq exists_eq_left' exists_eq_left ne_eq not_false_eq_true if_true if_false List.map_cons List.map_nil List.getElem?_cons_zero List.getElem?_cons_succ List.length_cons List.length_nil List.take_succ_cons List.take_zero List.take_nil List.drop_succ_cons List.drop_zero List.drop_nil List.cons_append List.nil_append List.append_nil List.set_cons_zero List.set_cons_succ Nat.zero_add forall_const true_and and_true and_self Bool.false_eq_true false_implies true_implies implies_true Bool.not_true Bool.not_false Bool.not_eq_true' Bool.not_eq_false' beq_self_eq_true Bool.bne_true Bool.bne_false
attribute [local go_sem] lenI lenS lenP lenQ lenB lenL lenT encI_0 encS_0 encP_0 encP_1 encQ_0 encQ_1 encQ_2 encQ_3 encB_0 encB_1 encL_0 encL_1 encT_0 encT_1
attribute [local go_sem low] whenA_bool guardH_bool
/-! slices.Grow(()string,string) -/
def L73_0 : List AStep := [⟨.mov (.c (.sl none 0 (some 0))), (some 4), none, []⟩]
theorem v73_0 : VS L73_0.eq_1 := rfl
def L73_1 : List AStep := [⟨.mov (.t 1), (some 5), none, []⟩, ⟨.bin .lss (.t 5) (.c (.int .i64 0)), (some 6), none, []⟩]
theorem v73_1 : VS L73_1.eq_1 := rfl
def L73_2 : List AStep := [⟨.bin .sub (.t 8) (.t 13), (some 14), none, []⟩, ⟨.mov (.t 14), (some 1), none, []⟩]
theorem v73_2 : VS L73_2.eq_1 := rfl
def L73_3 : List AStep := ⟨.len (.t 11), (some 12), none, []⟩ :: ⟨.bin .sub (.t 10) (.t 12), (some 13), none, []⟩ :: L73_2
theorem v73_3 : VS L73_3.eq_1 := rfl
def L73_4 : List AStep := ⟨.cap (.t 9), (some 10), none, []⟩ :: ⟨.mov (.t 0), (some 11), none, []⟩ :: L73_3
theorem v73_4 : VS L73_4.eq_1 := rfl
def L73_5 : List AStep := ⟨.mov (.t 1), (some 8), none, []⟩ :: ⟨.mov (.t 0), (some 9), none, []⟩ :: L73_4
theorem v73_5 : VS L73_5.eq_1 := rfl
def L73_6 : List AStep := [⟨.mov (.t 1), (some 15), none, []⟩, ⟨.bin .gtr (.t 15) (.c (.int .i64 0)), (some 16), none, []⟩]
theorem v73_6 : VS L73_6.eq_1 := rfl
def L73_7 : List AStep := [⟨.slice 9 1 (.t 22) none (some (.t 24)) none, (some 25), none, []⟩, ⟨.mov (.t 25), (some 0), none, []⟩]
theorem v73_7 : VS L73_7.eq_1 := rfl
def L73_8 : List AStep := ⟨.mov (.t 0), (some 23), none, []⟩ :: ⟨.len (.t 23), (some 24), none, []⟩ :: L73_7
theorem v73_8 : VS L73_8.eq_1 := rfl
def L73_9 : List AStep := ⟨.mov (.t 1), (some 21), none, []⟩ :: ⟨.appz 9 1 16 [(.str (strOfNums []))] (.t 20) (.t 21), (some 22), none, []⟩ :: L73_8
theorem v73_9 : VS L73_9.eq_1 := rfl
def L73_10 : List AStep := ⟨.cap (.t 18), (some 19), none, []⟩ :: ⟨.slice 9 1 (.t 17) none (some (.t 19)) none, (some 20), none, []⟩ :: L73_9
theorem v73_10 : VS L73_10.eq_1 := rfl
def L73_11 : List AStep := ⟨.mov (.t 0), (some 17), none, []⟩ :: ⟨.mov (.t 0), (some 18), none, []⟩ :: L73_10
theorem v73_11 : VS L73_11.eq_1 := rfl
def L73_12 : List AStep := [⟨.mov (.t 0), (some 26), none, []⟩, ⟨.mov (.t 26), (some 4), none, []⟩]
theorem v73_12 : VS L73_12.eq_1 := rfl
def C73_0 : ACode := .cond (.c .nilf) .skip .skip
theorem u73_0 : VC C73_0.eq_1 := rfl
def C73_1 : ACode := .cond (.t 6) C73_0 .skip
theorem u73_1 : VC C73_1.eq_1 := rfl
def C73_2 : ACode := .seq (.reg L73_1) C73_1
theorem u73_2 : VC C73_2.eq_1 := rfl
def C73_3 : ACode := .cond (.t 16) (.reg L73_11) .skip
theorem u73_3 : VC C73_3.eq_1 := rfl
def C73_4 : ACode := .seq (.reg L73_6) C73_3
theorem u73_4 : VC C73_4.eq_1 := rfl
def C73_5 : ACode := .seq (.reg L73_5) C73_4
theorem u73_5 : VC C73_5.eq_1 := rfl
def C73_6 : ACode := .seq (.reg L73_12) .ret
theorem u73_6 : VC C73_6.eq_1 := rfl
def C73_7 : ACode := .seq C73_5 C73_6
theorem u73_7 : VC C73_7.eq_1 := rfl
def C73_8 : ACode := .seq C73_2 C73_7
theorem u73_8 : VC C73_8.eq_1 := rfl
def C73_9 : ACode := .seq (.reg L73_0) C73_8
theorem u73_9 : VC C73_9.eq_1 := rfl
def F73 : AFunc := ⟨27, [.tmp 4], C73_9⟩
theorem cF73 : compB Tryd.prog 73 = some F73 := by kernel_rfl
attribute [local go_sem ↓] u73_0 u73_1 u73_2 u73_3 u73_4 u73_5 u73_6 u73_7 u73_8 u73_9 v73_0 v73_1 v73_2 v73_3 v73_4 v73_5 v73_6 v73_7 v73_8 v73_9 v73_10 v73_11 v73_12
theorem c_growS (n : Nat) (h : H) (hn : n ≤ big) : callK (bm Tryd.prog 73 [.one (.sl none 0 (some 0)), .one (.int .i64 n)] h) fun r h' => Grow h h' ∧ NwS h h' r [] := by
  refine bm_of cF73 ?_
  have e1 : decide (((n : Nat) : Int) < 0) = false := decide_eq_false (by omega)
  have e2 : IntKind.i64.wrap (((0 : Nat) : Int) - ((0 : Nat) : Int)) = 0 := rfl
  have e3 : IntKind.i64.wrap (((n : Nat) : Int) - 0) = n := by unfold big at hn; rw [i64_wrap (by omega) (by omega)]; omega
  have e4 : cutO 9 1 h (.one (.sl none 0 (some 0))) none (some (.one (.int .i64 ((0 : Nat) : Int)))) none = some (.one (.sl none 0 (some 0))) := by simp [cutO, pureA, AX.ev, boundsA, maxA, highA, lowA, boundA]
  by_cases h0 : n = 0
  · subst h0
    simp +contextual (maxSteps := 2000000) only [go_sem, Nat.reduceEqDiff, reduceCtorEq, Nat.reduceAdd, Nat.reduceLeDiff, F73, e1, e2, e3, show decide (((0 : Nat) : Int) > 0) = false from rfl]
    exact ⟨Grow.refl h, .nil⟩
  · simp +contextual (maxSteps := 2000000) only [go_sem, Nat.reduceEqDiff, reduceCtorEq, Nat.reduceAdd, Nat.reduceLeDiff, F73, e1, e2, e3, e4, decide_eq_true (show ((n : Nat) : Int) > 0 by omega)]
    unfold big at hn
    refine wp_appz (by omega) (by omega) (by omega) ?_
    intro h1 g1 b1
    have e5 := cut_zero (k := 1) (n := n) b1 (kd := .i64)
    simp +contextual (maxSteps := 2000000) only [go_sem, Nat.reduceEqDiff, reduceCtorEq, Nat.reduceAdd, Nat.reduceLeDiff, show (((0 : Nat) : Int)) = 0 from rfl, e5]
    have n1 : NwS h h1 (.one (.sl (some (h.n, 0)) 0 none)) [] := .spare b1 (Nat.le_refl _)
    exact gcK_of ⟨g1, n1⟩ (fun hs _ => ⟨Grow.refl h, n1.scalar hs h⟩)
/-! slices.Concat(()string,string) -/
def L41_0 : List AStep := [⟨.mov (.c (.sl none 0 (some 0))), (some 2), none, []⟩]
theorem v41_0 : VS L41_0.eq_1 := rfl
def L41_1 : List AStep := [⟨.mov (.c (.int .i64 0)), (some 3), none, []⟩]
theorem v41_1 : VS L41_1.eq_1 := rfl
def L41_2 : List AStep := [⟨.mov (.c (.int .i64 0)), (some 11), none, []⟩]
theorem v41_2 : VS L41_2.eq_1 := rfl
def L41_3 : List AStep := ⟨.mov (.t 0), (some 9), none, []⟩ :: ⟨.len (.t 9), (some 10), none, []⟩ :: L41_2
theorem v41_3 : VS L41_3.eq_1 := rfl
def L41_4 : List AStep := [⟨.bin .lss (.t 11) (.t 10), (some 12), none, []⟩]
theorem v41_4 : VS L41_4.eq_1 := rfl
def L41_5 : List AStep := [⟨.mov (.t 14), (some 5), none, []⟩]
theorem v41_5 : VS L41_5.eq_1 := rfl
def L41_6 : List AStep := ⟨.iaddr 1 (.t 9) (.t 11), (some 13), none, []⟩ :: ⟨.load 1 false (.t 13), (some 14), none, []⟩ :: L41_5
theorem v41_6 : VS L41_6.eq_1 := rfl
def L41_7 : List AStep := [⟨.mov (.t 18), (some 3), none, []⟩]
theorem v41_7 : VS L41_7.eq_1 := rfl
def L41_8 : List AStep := ⟨.len (.t 16), (some 17), none, []⟩ :: ⟨.bin .add (.t 15) (.t 17), (some 18), none, []⟩ :: L41_7
theorem v41_8 : VS L41_8.eq_1 := rfl
def L41_9 : List AStep := ⟨.mov (.t 3), (some 15), none, []⟩ :: ⟨.mov (.t 5), (some 16), none, []⟩ :: L41_8
theorem v41_9 : VS L41_9.eq_1 := rfl
def L41_10 : List AStep := [⟨.mov (.t 3), (some 19), none, []⟩, ⟨.bin .lss (.t 19) (.c (.int .i64 0)), (some 20), none, []⟩]
theorem v41_10 : VS L41_10.eq_1 := rfl
def L41_11 : List AStep := [⟨.bin .add (.t 11) (.c (.int .i64 1)), (some 22), none, []⟩, ⟨.mov (.t 22), (some 11), none, []⟩]
theorem v41_11 : VS L41_11.eq_1 := rfl
def L41_12 : List AStep := [⟨.mov (.t 24), (some 6), none, []⟩]
theorem v41_12 : VS L41_12.eq_1 := rfl
def L41_13 : List AStep := ⟨.mov (.t 3), (some 23), none, []⟩ :: ⟨.call 73 [(.c (.sl none 0 (some 0))), (.t 23)], (some 24), none, []⟩ :: L41_12
theorem v41_13 : VS L41_13.eq_1 := rfl
def L41_14 : List AStep := [⟨.mov (.c (.int .i64 0)), (some 27), none, []⟩]
theorem v41_14 : VS L41_14.eq_1 := rfl
def L41_15 : List AStep := ⟨.mov (.t 0), (some 25), none, []⟩ :: ⟨.len (.t 25), (some 26), none, []⟩ :: L41_14
theorem v41_15 : VS L41_15.eq_1 := rfl
def L41_16 : List AStep := [⟨.bin .lss (.t 27) (.t 26), (some 28), none, []⟩]
theorem v41_16 : VS L41_16.eq_1 := rfl
def L41_17 : List AStep := [⟨.mov (.t 30), (some 8), none, []⟩]
theorem v41_17 : VS L41_17.eq_1 := rfl
def L41_18 : List AStep := ⟨.iaddr 1 (.t 25) (.t 27), (some 29), none, []⟩ :: ⟨.load 1 false (.t 29), (some 30), none, []⟩ :: L41_17
theorem v41_18 : VS L41_18.eq_1 := rfl
def L41_19 : List AStep := [⟨.append 9 1 16 (.t 31) (.t 32), (some 33), none, []⟩, ⟨.mov (.t 33), (some 6), none, []⟩]
theorem v41_19 : VS L41_19.eq_1 := rfl
def L41_20 : List AStep := ⟨.mov (.t 6), (some 31), none, []⟩ :: ⟨.mov (.t 8), (some 32), none, []⟩ :: L41_19
theorem v41_20 : VS L41_20.eq_1 := rfl
def L41_21 : List AStep := [⟨.bin .add (.t 27) (.c (.int .i64 1)), (some 34), none, []⟩, ⟨.mov (.t 34), (some 27), none, []⟩]
theorem v41_21 : VS L41_21.eq_1 := rfl
def L41_22 : List AStep := [⟨.mov (.t 6), (some 35), none, []⟩, ⟨.mov (.t 35), (some 2), none, []⟩]
theorem v41_22 : VS L41_22.eq_1 := rfl
def C41_0 : ACode := .cond (.t 12) .skip (.exit 0)
theorem u41_0 : VC C41_0.eq_1 := rfl
def C41_1 : ACode := .cond (.c .nilf) .skip .skip
theorem u41_1 : VC C41_1.eq_1 := rfl
def C41_2 : ACode := .cond (.t 20) C41_1 .skip
theorem u41_2 : VC C41_2.eq_1 := rfl
def C41_3 : ACode := .seq (.reg L41_10) C41_2
theorem u41_3 : VC C41_3.eq_1 := rfl
def C41_4 : ACode := .seq (.reg L41_9) C41_3
theorem u41_4 : VC C41_4.eq_1 := rfl
def C41_5 : ACode := .seq (.reg L41_6) C41_4
theorem u41_5 : VC C41_5.eq_1 := rfl
def C41_6 : ACode := .block 1 C41_5
theorem u41_6 : VC C41_6.eq_1 := rfl
def C41_7 : ACode := .seq C41_6 (.reg L41_11)
theorem u41_7 : VC C41_7.eq_1 := rfl
def C41_8 : ACode := .seq C41_0 C41_7
theorem u41_8 : VC C41_8.eq_1 := rfl
def C41_9 : ACode := .seq (.reg L41_4) C41_8
theorem u41_9 : VC C41_9.eq_1 := rfl
def C41_10 : ACode := .block 0 (.loop C41_9)
theorem u41_10 : VC C41_10.eq_1 := rfl
def C41_11 : ACode := .seq (.reg L41_3) C41_10
theorem u41_11 : VC C41_11.eq_1 := rfl
def C41_12 : ACode := .cond (.t 28) .skip (.exit 2)
theorem u41_12 : VC C41_12.eq_1 := rfl
def C41_13 : ACode := .seq (.reg L41_18) (.reg L41_20)
theorem u41_13 : VC C41_13.eq_1 := rfl
def C41_14 : ACode := .block 3 C41_13
theorem u41_14 : VC C41_14.eq_1 := rfl
def C41_15 : ACode := .seq C41_14 (.reg L41_21)
theorem u41_15 : VC C41_15.eq_1 := rfl
def C41_16 : ACode := .seq C41_12 C41_15
theorem u41_16 : VC C41_16.eq_1 := rfl
def C41_17 : ACode := .seq (.reg L41_16) C41_16
theorem u41_17 : VC C41_17.eq_1 := rfl
def C41_18 : ACode := .block 2 (.loop C41_17)
theorem u41_18 : VC C41_18.eq_1 := rfl
def C41_19 : ACode := .seq (.reg L41_15) C41_18
theorem u41_19 : VC C41_19.eq_1 := rfl
def C41_20 : ACode := .seq (.reg L41_22) .ret
theorem u41_20 : VC C41_20.eq_1 := rfl
def C41_21 : ACode := .seq C41_19 C41_20
theorem u41_21 : VC C41_21.eq_1 := rfl
def C41_22 : ACode := .seq (.reg L41_13) C41_21
theorem u41_22 : VC C41_22.eq_1 := rfl
def C41_23 : ACode := .seq C41_11 C41_22
theorem u41_23 : VC C41_23.eq_1 := rfl
def C41_24 : ACode := .seq (.reg L41_1) C41_23
theorem u41_24 : VC C41_24.eq_1 := rfl
def C41_25 : ACode := .seq (.reg L41_0) C41_24
theorem u41_25 : VC C41_25.eq_1 := rfl
def F41 : AFunc := ⟨36, [.tmp 2], C41_25⟩
theorem cF41 : compB Tryd.prog 41 = some F41 := by kernel_rfl
attribute [local go_sem ↓] u41_0 u41_1 u41_2 u41_3 u41_4 u41_5 u41_6 u41_7 u41_8 u41_9 u41_10 u41_11 u41_12 u41_13 u41_14 u41_15 u41_16 u41_17 u41_18 u41_19 u41_20 u41_21 u41_22 u41_23 u41_24 u41_25 v41_0 v41_1 v41_2 v41_3 v41_4 v41_5 v41_6 v41_7 v41_8 v41_9 v41_10 v41_11 v41_12 v41_13 v41_14 v41_15 v41_16 v41_17 v41_18 v41_19 v41_20 v41_21 v41_22
theorem c_concatS (ls : List (List ByteArray)) (cs : List CV) (v : AV) (h : H) (hl : Sl (fun c : CV => [c]) 1 22 h v cs) (hlen : ls.length = cs.length) (he : ∀ i (hi : i < ls.length) (hj : i < cs.length), SlS h (.one cs[i]) ls[i]) (hn : ls.flatten.length ≤ big) (hm : ls.length ≤ big) :
    callK (bm Tryd.prog 41 [v] h) fun r h' => Grow h h' ∧ NwS h h' r ls.flatten := by
  refine bm_of cF41 ?_
  have hpre : ∀ i, i ≤ ls.length → (ls.take i).flatten.length ≤ ls.flatten.length := by
    intro i hi
    have : ls.flatten = (ls.take i).flatten ++ (ls.drop i).flatten := by rw [← List.flatten_append, List.take_append_drop]
    rw [this, List.length_append]
    omega
  have hnx : ∀ i (hi : i < ls.length), (ls.take (i + 1)).flatten = (ls.take i).flatten ++ ls[i] := by
    intro i hi
    rw [List.take_succ_eq_append_getElem hi, List.flatten_append]
    simp
  have hbig := hn
  unfold big at hbig
  simp +contextual (maxSteps := 2000000) only [go_sem, Nat.reduceEqDiff, reduceCtorEq, Nat.reduceAdd, Nat.reduceLeDiff, F41, hl.len]
  refine wpC_loop (fun i T L h' => h' = h ∧ T 0 = .v v ∧ T 9 = .v v ∧ T 10 = .v (.one (.int .i64 cs.length)) ∧ T 11 = .v (.one (.int .i64 i)) ∧ T 3 = .v (.one (.int .i64 ((ls.take i).flatten.length : Nat)))) cs.length ?_ ?_ (Nat.zero_le _) ?_
  · rintro i T L h' hi ⟨rfl, t0, t9, t10, t11, t3⟩
    have hi2 : i < ls.length := by omega
    have e1 := hpre (i + 1) (by omega)
    rw [hnx i hi2, List.length_append] at e1
    have e2 : IntKind.i64.wrap (((ls.take i).flatten.length : Int) + (ls[i].length : Int)) = (((ls.take i).flatten.length + ls[i].length : Nat) : Int) := by rw [i64_wrap (by omega) (by omega)]; omega
    have hld := hl.oneO hi
    rw [show ([cs[i]] : List CV)[0]? = some cs[i] from rfl] at hld
    simp +contextual (maxSteps := 2000000) only [go_sem, Nat.reduceEqDiff, reduceCtorEq, Nat.reduceAdd, Nat.reduceLeDiff, t0, t9, t10, t11, t3, hl.iaddr hi, hld, lt_true hi, (he i hi2 hi).len, e2, decide_eq_false (show ¬ (((ls.take i).flatten.length + ls[i].length : Nat) : Int) < 0 by omega)]
    rw [hnx i hi2, List.length_append, wrap_next hi (by unfold big at hm; omega)]
    exact ⟨rfl, rfl⟩
  · rintro T L h' ⟨rfl, t0, t9, t10, t11, t3⟩
    rw [← hlen, List.take_length] at t3
    simp +contextual (maxSteps := 2000000) only [go_sem, Nat.reduceEqDiff, reduceCtorEq, Nat.reduceAdd, Nat.reduceLeDiff, t0, t9, t10, t11, t3, lt_false]
    refine wp_call (c_growS _ _ hn) ?_
    rintro r h1 ⟨g1, n1⟩
    simp +contextual (maxSteps := 2000000) only [go_sem, Nat.reduceEqDiff, reduceCtorEq, Nat.reduceAdd, Nat.reduceLeDiff, t0, hl.len]
    refine wpC_loop (fun i T L h2 => Grow h' h2 ∧ T 25 = .v v ∧ T 26 = .v (.one (.int .i64 cs.length)) ∧ T 27 = .v (.one (.int .i64 i)) ∧ ∃ s, T 6 = .v s ∧ NwS h' h2 s (ls.take i).flatten) cs.length ?_ ?_ (Nat.zero_le _) ?_
    · rintro i T L h2 hi ⟨g2, t25, t26, t27, s, t6, n2⟩
      have hi2 : i < ls.length := by omega
      have e1 := hpre (i + 1) (by omega)
      rw [hnx i hi2, List.length_append] at e1
      have hl2 := hl.grow g2
      have hld := hl2.oneO hi
      rw [show ([cs[i]] : List CV)[0]? = some cs[i] from rfl] at hld
      simp +contextual (maxSteps := 2000000) only [go_sem, Nat.reduceEqDiff, reduceCtorEq, Nat.reduceAdd, Nat.reduceLeDiff, t25, t26, t27, t6, hl2.iaddr hi, hld, lt_true hi]
      refine wp_append lenS n2 ((he i hi2 hi).grow g2) g2 (by omega) ?_
      intro h3 s' g3 n3 _ _
      simp +contextual (maxSteps := 2000000) only [go_sem, Nat.reduceEqDiff, reduceCtorEq, Nat.reduceAdd, Nat.reduceLeDiff, t25, t26, t27]
      rw [hnx i hi2, wrap_next hi (by unfold big at hm; omega)]
      exact ⟨g3, rfl, _, rfl, n3⟩
    · rintro T L h2 ⟨g2, t25, t26, t27, s, t6, n2⟩
      rw [← hlen, List.take_length] at n2
      simp +contextual (maxSteps := 2000000) only [go_sem, Nat.reduceEqDiff, reduceCtorEq, Nat.reduceAdd, Nat.reduceLeDiff, t25, t26, t27, t6, lt_false]
      exact gcK_of ⟨g2, n2⟩ (fun hs _ => ⟨Grow.refl _, n2.scalar hs _⟩)
    · simp +contextual (maxSteps := 2000000) only [go_sem, Nat.reduceEqDiff, reduceCtorEq, Nat.reduceAdd, Nat.reduceLeDiff]
      exact ⟨g1, by simpa [rdy] using n1⟩
  · simp +contextual (maxSteps := 2000000) only [go_sem, Nat.reduceEqDiff, reduceCtorEq, Nat.reduceAdd, Nat.reduceLeDiff]
    simp
end Go.Proofs.YtoeceafibmafpaaDoor.Am
