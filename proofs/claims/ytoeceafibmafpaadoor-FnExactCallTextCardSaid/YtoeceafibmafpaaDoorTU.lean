/- Contracts: the texts of calls, of both sides. -/
import Derived.Test.YtoeceafibmafpaaDoorTQ
namespace Go.Proofs.YtoeceafibmafpaaDoor.Am
open Go
set_option maxRecDepth 100000
set_option maxHeartbeats 4000000
set_option linter.unusedSimpArgs false
set_option linter.unusedVariables false
attribute [local go_sem ↓] bv_t bv_c ev_t ev_c put_same put_ne put_none kill_at pro_at lb_same lb_ne start_zero start_succ wpC_seq wpC_reg wpC_cond wpC_block wpC_skip wpC_exit wpC_ret thenQ_normal thenQ_exit thenQ_ret inBlk_normal inBlk_exit inBlk_ret wpS_nil wpS_step wpS_again wpS_guard wpO_mov wpO_load wpO_faddr wpO_nilCheck wpO_pick wpO_build wpO_bin wpO_eqb wpO_eqst wpO_eqnil wpO_not wpO_conv wpO_bytesStr wpO_iaddr wpO_idxStr wpO_field wpO_extract wpO_len wpO_lenStr wpO_cap wpO_min wpO_slice wpO_sliceStr wpO_alloc wpO_box wpO_store wpO_call wpO_callv wpO_mkfn wpO_buildSlice wpO_mkslice wpO_append wpO_appz proA_nil proA_cons tmpX_nil tmpX_tmp tmpX_cell doneB_normal doneB_ret agK_cons agK_nil agK_guard agG_tt agG_ff agG_tf agG_ft agG_undef pureB_load results_one results_two results_nil resBs_cons resBs_nil resB_tmp resB_cell
attribute [local go_sem] kill_v kill_lp_ne kill_lp_same pro_v pro_lp_same pro_lp_ne av_v av_lp optB_some optX_some valX_eq ldX_lp ldX_v faX_lp faX_v ncX_lp ncX_ptr ncX_fn boxK_one boxK_agg stL_some stK_lp_one stK_lp_agg stK_v_one stK_v_agg proM_v proM_lp callG_mk callVG_mk callvK_fn fnG_mk ptrsA_nil ptrsA_cons callH_some whenA_true whenA_false guardH_tt guardH_ff guardH_tf guardH_ft guardH_undef agV_one agV_agg lenO_sl lenStrO_str notO_bool pickO_bool convO_int eqbO_bool eqnilO_sl extractO_tup capO_sl minO_int loadL_one loadL_all storeL_eq fillA_nil fillA_one fillA_agg nat_ge neg_ge nat_lt neg_lt buildO bin_add bin_sub bin_mul bin_eql bin_neq bin_lss bin_leq bin_gtr bin_geq str_eql str_neq str_lss str_leq str_gtr str_geq retK_some endK_mk gcK_same gcK_int gcK_bool tupO_one tupO_agg rdy_self ib ii Option.map_none Option.map_some Option.some.injEq exists_eq_left' exists_eq_left ne_eq not_false_eq_true if_true if_false List.map_cons List.map_nil List.getElem?_cons_zero List.getElem?_cons_succ List.length_cons List.length_nil List.take_succ_cons List.take_zero List.take_nil List.drop_succ_cons List.drop_zero List.drop_nil List.cons_append List.nil_append List.append_nil List.set_cons_zero List.set_cons_succ Nat.zero_add forall_const true_and and_true and_self Bool.false_eq_true false_implies true_implies implies_true Bool.not_true Bool.not_false Bool.not_eq_true' Bool.not_eq_false' beq_self_eq_true Bool.bne_true Bool.bne_false
attribute [local go_sem] lenI lenS lenP lenQ lenB lenL lenT encI_0 encS_0 encP_0 encP_1 encQ_0 encQ_1 encQ_2 encQ_3 encB_0 encB_1 encL_0 encL_1 encT_0 encT_1
attribute [local go_sem low] whenA_bool guardH_bool
def calT (l : List Arg) : ByteArray := joinB (strOfNums [44, 32]) (l.map argT)
def calTx (l : List Arg) : ByteArray := if okCall l = true then calT l else strOfNums []
theorem argT_all {l : List Arg} (ok : okCall l = true) : ∀ s ∈ l.map argT, s.size ≤ 4194304 := fun s hs => by
  obtain ⟨a, ha, rfl⟩ := List.mem_map.1 hs
  obtain ⟨i, hi, rfl⟩ := List.getElem_of_mem ha
  have := argT_size (ArgOk.of ((okCall_at ok).2 i hi))
  omega
/-! spec.callText -/
def L61_0 : List AStep := [⟨.box 68 (.t 0), (some 1), none, []⟩, ⟨.mov (.c (.str (strOfNums []))), (some 2), none, []⟩]
theorem v61_0 : VS L61_0.eq_1 := rfl
def L61_1 : List AStep := [⟨.buildSlice 9 0 [(.str (strOfNums []))] [], (some 5), none, []⟩, ⟨.mov (.t 5), (some 3), none, []⟩]
theorem v61_1 : VS L61_1.eq_1 := rfl
def L61_2 : List AStep := [⟨.mov (.c (.int .i64 0)), (some 4), none, []⟩]
theorem v61_2 : VS L61_2.eq_1 := rfl
def L61_3 : List AStep := [⟨.bin .lss (.t 6) (.t 9), (some 10), none, []⟩]
theorem v61_3 : VS L61_3.eq_1 := rfl
def L61_4 : List AStep := ⟨.load 1 false (.t 7), (some 8), none, []⟩ :: ⟨.len (.t 8), (some 9), none, []⟩ :: L61_3
theorem v61_4 : VS L61_4.eq_1 := rfl
def L61_5 : List AStep := ⟨.mov (.t 4), (some 6), none, []⟩ :: ⟨.faddr 0 (.t 1), (some 7), none, []⟩ :: L61_4
theorem v61_5 : VS L61_5.eq_1 := rfl
def L61_6 : List AStep := [⟨.append 9 1 16 (.t 13) (.t 20), (some 21), none, []⟩, ⟨.mov (.t 21), (some 3), none, []⟩]
theorem v61_6 : VS L61_6.eq_1 := rfl
def L61_7 : List AStep := ⟨.call 96 [(.t 18)], (some 19), none, []⟩ :: ⟨.buildSlice 9 1 [(.str (strOfNums []))] [(0, 1, (.t 19))], (some 20), none, []⟩ :: L61_6
theorem v61_7 : VS L61_7.eq_1 := rfl
def L61_8 : List AStep := ⟨.iaddr 4 (.t 15) (.t 16), (some 17), none, []⟩ :: ⟨.load 4 true (.t 17), (some 18), none, []⟩ :: L61_7
theorem v61_8 : VS L61_8.eq_1 := rfl
def L61_9 : List AStep := ⟨.load 1 false (.t 14), (some 15), none, []⟩ :: ⟨.mov (.t 4), (some 16), none, []⟩ :: L61_8
theorem v61_9 : VS L61_9.eq_1 := rfl
def L61_10 : List AStep := ⟨.mov (.t 3), (some 13), none, []⟩ :: ⟨.faddr 0 (.t 1), (some 14), none, []⟩ :: L61_9
theorem v61_10 : VS L61_10.eq_1 := rfl
def L61_11 : List AStep := [⟨.mov (.t 12), (some 4), none, []⟩]
theorem v61_11 : VS L61_11.eq_1 := rfl
def L61_12 : List AStep := ⟨.mov (.t 4), (some 11), none, []⟩ :: ⟨.bin .add (.t 11) (.c (.int .i64 1)), (some 12), none, []⟩ :: L61_11
theorem v61_12 : VS L61_12.eq_1 := rfl
def L61_13 : List AStep := [⟨.mov (.t 23), (some 2), none, []⟩]
theorem v61_13 : VS L61_13.eq_1 := rfl
def L61_14 : List AStep := ⟨.mov (.t 3), (some 22), none, []⟩ :: ⟨.call 79 [(.t 22), (.c (.str (strOfNums [44, 32])))], (some 23), none, []⟩ :: L61_13
theorem v61_14 : VS L61_14.eq_1 := rfl
def C61_0 : ACode := .cond (.t 10) .skip (.exit 0)
theorem u61_0 : VC C61_0.eq_1 := rfl
def C61_1 : ACode := .seq (.reg L61_5) C61_0
theorem u61_1 : VC C61_1.eq_1 := rfl
def C61_2 : ACode := .block 1 (.reg L61_10)
theorem u61_2 : VC C61_2.eq_1 := rfl
def C61_3 : ACode := .seq C61_2 (.reg L61_12)
theorem u61_3 : VC C61_3.eq_1 := rfl
def C61_4 : ACode := .seq C61_1 C61_3
theorem u61_4 : VC C61_4.eq_1 := rfl
def C61_5 : ACode := .block 0 (.loop C61_4)
theorem u61_5 : VC C61_5.eq_1 := rfl
def C61_6 : ACode := .seq (.reg L61_2) C61_5
theorem u61_6 : VC C61_6.eq_1 := rfl
def C61_7 : ACode := .seq (.reg L61_14) .ret
theorem u61_7 : VC C61_7.eq_1 := rfl
def C61_8 : ACode := .seq C61_6 C61_7
theorem u61_8 : VC C61_8.eq_1 := rfl
def C61_9 : ACode := .seq (.reg L61_1) C61_8
theorem u61_9 : VC C61_9.eq_1 := rfl
def C61_10 : ACode := .seq (.reg L61_0) C61_9
theorem u61_10 : VC C61_10.eq_1 := rfl
def F61 : AFunc := ⟨24, [.tmp 2], C61_10⟩
theorem cF61 : compB Tryd.prog 61 = some F61 := by kernel_rfl
attribute [local go_sem ↓] u61_0 u61_1 u61_2 u61_3 u61_4 u61_5 u61_6 u61_7 u61_8 u61_9 u61_10 v61_0 v61_1 v61_2 v61_3 v61_4 v61_5 v61_6 v61_7 v61_8 v61_9 v61_10 v61_11 v61_12 v61_13 v61_14
theorem c_callText (l : List Arg) (p : CV) (h : H) (hl : SlC h p l) (ok : okCall l = true) : callK (bm Tryd.prog 61 [.agg [p]] h) fun r h' => Grow h h' ∧ r = .one (.str (calT l)) := by
  refine bm_of cF61 ?_
  obtain ⟨rs, y0⟩ := hl.ex
  have hn := (okCall_at ok).1
  have yl : lenO (.one p) = some (ii l.length) := by rw [y0.out.len, y0.len]
  simp +contextual (maxSteps := 2000000) only [go_sem, Nat.reduceEqDiff, reduceCtorEq, Nat.reduceAdd, Nat.reduceLeDiff, F61]
  refine wp_lit (enc := encS) (k := 1) (l := []) rfl rfl ?_
  intro h1 w1 g1 n1 _
  simp +contextual (maxSteps := 2000000) only [go_sem, Nat.reduceEqDiff, reduceCtorEq, Nat.reduceAdd, Nat.reduceLeDiff]
  refine wpC_loop (fun i T L h' => Grow h h' ∧ T 1 = .lp 1 0 ∧ (L 1).2 = [p] ∧ (∃ s, T 3 = .v s ∧ NwS h h' s ((l.take i).map argT)) ∧ T 4 = .v (.one (.int .i64 i))) l.length ?_ ?_ (Nat.zero_le _) ?_
  · rintro i T L h' hi ⟨gh, t1, l1, ⟨s, t3, z⟩, t4⟩
    have y := y0.grow gh
    have hr : i < rs.length := by rw [y.len]; exact hi
    have ye := y.el i hr
    rw [getC_eq hi] at ye
    simp +contextual (maxSteps := 2000000) only [go_sem, Nat.reduceEqDiff, reduceCtorEq, Nat.reduceAdd, Nat.reduceLeDiff, t1, l1, t3, t4, yl, y.out.iaddr hr, y.out.whole hr, lt_true hi]
    refine wp_call (c_argText rs[i] l[i] h' ye (ArgOk.of ((okCall_at ok).2 i hi))) ?_
    rintro q h2 ⟨g2, rfl⟩
    simp +contextual (maxSteps := 2000000) only [go_sem, Nat.reduceEqDiff, reduceCtorEq, Nat.reduceAdd, Nat.reduceLeDiff, t1, l1, t3, t4]
    refine wp_lit (enc := encS) (k := 1) (l := [argT l[i]]) rfl rfl ?_
    intro h3 w3 g3 n3 _
    simp +contextual (maxSteps := 2000000) only [go_sem, Nat.reduceEqDiff, reduceCtorEq, Nat.reduceAdd, Nat.reduceLeDiff, t1, l1, t3, t4]
    refine wp_append lenS ((z.grow g2).grow g3) (n3.sl lenS) ((gh.trans g2).trans g3) (by simp; omega) ?_
    intro h4 s4 g4 n4 _ _
    simp +contextual (maxSteps := 2000000) only [go_sem, Nat.reduceEqDiff, reduceCtorEq, Nat.reduceAdd, Nat.reduceLeDiff, t1, l1, t3, t4]
    rw [wrap_next hi (by omega)]
    exact ⟨g4, ⟨s4, rfl, by rw [map_next argT hi]; exact n4⟩, rfl⟩
  · rintro T L h' ⟨gh, t1, l1, ⟨s, t3, z⟩, t4⟩
    rw [List.take_length] at z
    have ej := c_joinWith s (strOfNums [44, 32]) (l.map argT) h' (z.sl lenS) (by rw [strOfNums_size]; decide) (by simp; omega) (argT_all ok)
    simp +contextual (maxSteps := 2000000) only [go_sem, Nat.reduceEqDiff, reduceCtorEq, Nat.reduceAdd, Nat.reduceLeDiff, t1, l1, t3, t4, yl, lt_false, ej]
    exact gcK_of ⟨gh, rfl⟩ (fun _ _ => ⟨Grow.refl h, rfl⟩)
  · simp +contextual (maxSteps := 2000000) only [go_sem, Nat.reduceEqDiff, reduceCtorEq, Nat.reduceAdd, Nat.reduceLeDiff]
    first | exact ⟨g1, _, rfl, n1⟩ | exact ⟨g1, ⟨_, rfl, n1⟩, rfl⟩ | exact ⟨g1, rfl, ⟨_, rfl, n1⟩, rfl⟩ | exact ⟨g1, rfl, _, rfl, n1⟩
/-! spec.CallText -/
def L31_0 : List AStep := [⟨.box 68 (.t 0), (some 1), none, []⟩, ⟨.mov (.c (.str (strOfNums []))), (some 2), none, []⟩]
theorem v31_0 : VS L31_0.eq_1 := rfl
def L31_1 : List AStep := [⟨.not (.t 4), (some 5), none, []⟩]
theorem v31_1 : VS L31_1.eq_1 := rfl
def L31_2 : List AStep := ⟨.load 1 true (.t 1), (some 3), none, []⟩ :: ⟨.call 60 [(.t 3)], (some 4), none, []⟩ :: L31_1
theorem v31_2 : VS L31_2.eq_1 := rfl
def L31_3 : List AStep := [⟨.mov (.c (.str (strOfNums []))), (some 2), none, []⟩]
theorem v31_3 : VS L31_3.eq_1 := rfl
def L31_4 : List AStep := [⟨.mov (.t 7), (some 2), none, []⟩]
theorem v31_4 : VS L31_4.eq_1 := rfl
def L31_5 : List AStep := ⟨.load 1 true (.t 1), (some 6), none, []⟩ :: ⟨.call 61 [(.t 6)], (some 7), none, []⟩ :: L31_4
theorem v31_5 : VS L31_5.eq_1 := rfl
def C31_0 : ACode := .seq (.reg L31_3) .ret
theorem u31_0 : VC C31_0.eq_1 := rfl
def C31_1 : ACode := .cond (.t 5) C31_0 .skip
theorem u31_1 : VC C31_1.eq_1 := rfl
def C31_2 : ACode := .seq (.reg L31_2) C31_1
theorem u31_2 : VC C31_2.eq_1 := rfl
def C31_3 : ACode := .seq (.reg L31_5) .ret
theorem u31_3 : VC C31_3.eq_1 := rfl
def C31_4 : ACode := .seq C31_2 C31_3
theorem u31_4 : VC C31_4.eq_1 := rfl
def C31_5 : ACode := .seq (.reg L31_0) C31_4
theorem u31_5 : VC C31_5.eq_1 := rfl
def F31 : AFunc := ⟨8, [.tmp 2], C31_5⟩
theorem cF31 : compB Tryd.prog 31 = some F31 := by kernel_rfl
attribute [local go_sem ↓] u31_0 u31_1 u31_2 u31_3 u31_4 u31_5 v31_0 v31_1 v31_2 v31_3 v31_4 v31_5
theorem k_sCallText (l : List Arg) (p : CV) (h : H) (hl : SlC h p l) (m : miniC l) : callK (bm Tryd.prog 31 [.agg [p]] h) fun r h' => Grow h h' ∧ r = .one (.str (calTx l)) := by
  refine bm_of cF31 ?_
  have ev := c_validCall l p h hl m
  unfold calTx
  cases ok : okCall l with
  | false =>
    rw [ok] at ev
    simp +contextual (maxSteps := 2000000) only [go_sem, Nat.reduceEqDiff, reduceCtorEq, Nat.reduceAdd, Nat.reduceLeDiff, F31, ev]
    try exact Grow.refl h
  | true =>
    rw [ok] at ev
    simp +contextual (maxSteps := 2000000) only [go_sem, Nat.reduceEqDiff, reduceCtorEq, Nat.reduceAdd, Nat.reduceLeDiff, F31, ev]
    refine wp_call (c_callText l p h hl ok) ?_
    rintro q h1 ⟨g1, rfl⟩
    simp +contextual (maxSteps := 2000000) only [go_sem, Nat.reduceEqDiff, reduceCtorEq, Nat.reduceAdd, Nat.reduceLeDiff]
    exact gcK_of ⟨g1, rfl⟩ (fun _ _ => ⟨Grow.refl h, rfl⟩)
/-! impl.CallText -/
def L33_0 : List AStep := [⟨.box 68 (.t 0), (some 1), none, []⟩, ⟨.mov (.c (.str (strOfNums []))), (some 2), none, []⟩]
theorem v33_0 : VS L33_0.eq_1 := rfl
def L33_1 : List AStep := [⟨.not (.t 7), (some 8), none, []⟩]
theorem v33_1 : VS L33_1.eq_1 := rfl
def L33_2 : List AStep := ⟨.load 1 true (.t 1), (some 6), none, []⟩ :: ⟨.call 63 [(.t 6)], (some 7), none, []⟩ :: L33_1
theorem v33_2 : VS L33_2.eq_1 := rfl
def L33_3 : List AStep := [⟨.mov (.c (.str (strOfNums []))), (some 2), none, []⟩]
theorem v33_3 : VS L33_3.eq_1 := rfl
def L33_4 : List AStep := [⟨.mov (.c (.sl none 0 (some 0))), (some 3), none, []⟩]
theorem v33_4 : VS L33_4.eq_1 := rfl
def L33_5 : List AStep := [⟨.len (.t 10), (some 11), none, []⟩, ⟨.mov (.c (.int .i64 0)), (some 12), none, []⟩]
theorem v33_5 : VS L33_5.eq_1 := rfl
def L33_6 : List AStep := ⟨.faddr 0 (.t 1), (some 9), none, []⟩ :: ⟨.load 1 false (.t 9), (some 10), none, []⟩ :: L33_5
theorem v33_6 : VS L33_6.eq_1 := rfl
def L33_7 : List AStep := [⟨.bin .lss (.t 12) (.t 11), (some 13), none, []⟩]
theorem v33_7 : VS L33_7.eq_1 := rfl
def L33_8 : List AStep := [⟨.alloc 99 [(.int .i64 0), (.str (strOfNums [])), (.sl none 0 (some 0)), (.sl none 0 (some 0))], (some 5), none, []⟩, ⟨.store 4 (.t 5) (.t 15), none, none, []⟩]
theorem v33_8 : VS L33_8.eq_1 := rfl
def L33_9 : List AStep := ⟨.iaddr 4 (.t 10) (.t 12), (some 14), none, []⟩ :: ⟨.load 4 true (.t 14), (some 15), none, []⟩ :: L33_8
theorem v33_9 : VS L33_9.eq_1 := rfl
def L33_10 : List AStep := [⟨.append 9 1 16 (.t 16) (.t 19), (some 20), none, []⟩, ⟨.mov (.t 20), (some 3), none, []⟩]
theorem v33_10 : VS L33_10.eq_1 := rfl
def L33_11 : List AStep := ⟨.call 64 [(.t 17)], (some 18), none, []⟩ :: ⟨.buildSlice 9 1 [(.str (strOfNums []))] [(0, 1, (.t 18))], (some 19), none, []⟩ :: L33_10
theorem v33_11 : VS L33_11.eq_1 := rfl
def L33_12 : List AStep := ⟨.mov (.t 3), (some 16), none, []⟩ :: ⟨.load 4 true (.t 5), (some 17), none, []⟩ :: L33_11
theorem v33_12 : VS L33_12.eq_1 := rfl
def L33_13 : List AStep := [⟨.bin .add (.t 12) (.c (.int .i64 1)), (some 21), none, []⟩, ⟨.mov (.t 21), (some 12), none, []⟩]
theorem v33_13 : VS L33_13.eq_1 := rfl
def L33_14 : List AStep := [⟨.mov (.t 23), (some 2), none, []⟩]
theorem v33_14 : VS L33_14.eq_1 := rfl
def L33_15 : List AStep := ⟨.mov (.t 3), (some 22), none, []⟩ :: ⟨.call 40 [(.t 22), (.c (.str (strOfNums [44, 32])))], (some 23), none, []⟩ :: L33_14
theorem v33_15 : VS L33_15.eq_1 := rfl
def C33_0 : ACode := .seq (.reg L33_3) .ret
theorem u33_0 : VC C33_0.eq_1 := rfl
def C33_1 : ACode := .cond (.t 8) C33_0 .skip
theorem u33_1 : VC C33_1.eq_1 := rfl
def C33_2 : ACode := .seq (.reg L33_2) C33_1
theorem u33_2 : VC C33_2.eq_1 := rfl
def C33_3 : ACode := .cond (.t 13) .skip (.exit 0)
theorem u33_3 : VC C33_3.eq_1 := rfl
def C33_4 : ACode := .seq (.reg L33_9) (.reg L33_12)
theorem u33_4 : VC C33_4.eq_1 := rfl
def C33_5 : ACode := .block 1 C33_4
theorem u33_5 : VC C33_5.eq_1 := rfl
def C33_6 : ACode := .seq C33_5 (.reg L33_13)
theorem u33_6 : VC C33_6.eq_1 := rfl
def C33_7 : ACode := .seq C33_3 C33_6
theorem u33_7 : VC C33_7.eq_1 := rfl
def C33_8 : ACode := .seq (.reg L33_7) C33_7
theorem u33_8 : VC C33_8.eq_1 := rfl
def C33_9 : ACode := .block 0 (.loop C33_8)
theorem u33_9 : VC C33_9.eq_1 := rfl
def C33_10 : ACode := .seq (.reg L33_6) C33_9
theorem u33_10 : VC C33_10.eq_1 := rfl
def C33_11 : ACode := .seq (.reg L33_15) .ret
theorem u33_11 : VC C33_11.eq_1 := rfl
def C33_12 : ACode := .seq C33_10 C33_11
theorem u33_12 : VC C33_12.eq_1 := rfl
def C33_13 : ACode := .seq (.reg L33_4) C33_12
theorem u33_13 : VC C33_13.eq_1 := rfl
def C33_14 : ACode := .seq C33_2 C33_13
theorem u33_14 : VC C33_14.eq_1 := rfl
def C33_15 : ACode := .seq (.reg L33_0) C33_14
theorem u33_15 : VC C33_15.eq_1 := rfl
def F33 : AFunc := ⟨24, [.tmp 2], C33_15⟩
theorem cF33 : compB Tryd.prog 33 = some F33 := by kernel_rfl
attribute [local go_sem ↓] u33_0 u33_1 u33_2 u33_3 u33_4 u33_5 u33_6 u33_7 u33_8 u33_9 u33_10 u33_11 u33_12 u33_13 u33_14 u33_15 v33_0 v33_1 v33_2 v33_3 v33_4 v33_5 v33_6 v33_7 v33_8 v33_9 v33_10 v33_11 v33_12 v33_13 v33_14 v33_15
theorem k_iCallText (l : List Arg) (p : CV) (h : H) (hl : SlC h p l) (m : miniC l) : callK (bm Tryd.prog 33 [.agg [p]] h) fun r h' => Grow h h' ∧ r = .one (.str (calTx l)) := by
  refine bm_of cF33 ?_
  have ev := c_ValidCall l p h hl m
  unfold calTx
  cases ok : okCall l with
  | false =>
    rw [ok] at ev
    simp +contextual (maxSteps := 2000000) only [go_sem, Nat.reduceEqDiff, reduceCtorEq, Nat.reduceAdd, Nat.reduceLeDiff, F33, ev]
    try exact Grow.refl h
  | true =>
  rw [ok] at ev
  obtain ⟨rs, y0⟩ := hl.ex
  have hn := (okCall_at ok).1
  have yl : lenO (.one p) = some (ii l.length) := by rw [y0.out.len, y0.len]
  simp +contextual (maxSteps := 2000000) only [go_sem, Nat.reduceEqDiff, reduceCtorEq, Nat.reduceAdd, Nat.reduceLeDiff, F33, ev, yl]
  refine wpC_loop (fun i T L h' => Grow h h' ∧ (∃ s, T 3 = .v s ∧ NwS h h' s ((l.take i).map argT)) ∧ T 10 = .v (.one p) ∧ T 11 = .v (.one (.int .i64 l.length)) ∧ T 12 = .v (.one (.int .i64 i))) l.length ?_ ?_ (Nat.zero_le _) ?_
  · rintro i T L h' hi ⟨gh, ⟨s, t3, z⟩, t10, t11, t12⟩
    have y := y0.grow gh
    have hr : i < rs.length := by rw [y.len]; exact hi
    have ye := y.el i hr
    rw [getC_eq hi] at ye
    have et := c_argTextI rs[i] l[i] h' ye (ArgOk.of ((okCall_at ok).2 i hi))
    simp only [encC] at et
    simp +contextual (maxSteps := 2000000) only [go_sem, Nat.reduceEqDiff, reduceCtorEq, Nat.reduceAdd, Nat.reduceLeDiff, t3, t10, t11, t12, y.out.iaddr hr, y.out.whole hr, encC, lt_true hi]
    refine wp_call et ?_
    rintro q h2 ⟨g2, rfl⟩
    simp +contextual (maxSteps := 2000000) only [go_sem, Nat.reduceEqDiff, reduceCtorEq, Nat.reduceAdd, Nat.reduceLeDiff, t3, t10, t11, t12]
    refine wp_lit (enc := encS) (k := 1) (l := [argT l[i]]) rfl rfl ?_
    intro h3 w3 g3 n3 _
    simp +contextual (maxSteps := 2000000) only [go_sem, Nat.reduceEqDiff, reduceCtorEq, Nat.reduceAdd, Nat.reduceLeDiff, t3, t10, t11, t12]
    refine wp_append lenS ((z.grow g2).grow g3) (n3.sl lenS) ((gh.trans g2).trans g3) (by simp; omega) ?_
    intro h4 s4 g4 n4 _ _
    simp +contextual (maxSteps := 2000000) only [go_sem, Nat.reduceEqDiff, reduceCtorEq, Nat.reduceAdd, Nat.reduceLeDiff, t3, t10, t11, t12]
    rw [wrap_next hi (by omega)]
    exact ⟨g4, ⟨s4, rfl, by rw [map_next argT hi]; exact n4⟩, rfl⟩
  · rintro T L h' ⟨gh, ⟨s, t3, z⟩, t10, t11, t12⟩
    rw [List.take_length] at z
    have hz := joinB_sm (sep := strOfNums [44, 32]) (l := l.map argT) (by rw [strOfNums_size]; decide) (by simp; omega) (argT_all ok)
    have ej := c_join s (strOfNums [44, 32]) (l.map argT) h' (z.sl lenS) (by omega) (by simp; omega)
    simp +contextual (maxSteps := 2000000) only [go_sem, Nat.reduceEqDiff, reduceCtorEq, Nat.reduceAdd, Nat.reduceLeDiff, t3, t10, t11, t12, lt_false, ej]
    exact gcK_of ⟨gh, rfl⟩ (fun _ _ => ⟨Grow.refl h, rfl⟩)
  · simp +contextual (maxSteps := 2000000) only [go_sem, Nat.reduceEqDiff, reduceCtorEq, Nat.reduceAdd, Nat.reduceLeDiff]
    first | exact ⟨Grow.refl h, _, rfl, .nil⟩ | exact ⟨Grow.refl h, ⟨_, rfl, .nil⟩, rfl⟩
end Go.Proofs.YtoeceafibmafpaaDoor.Am
