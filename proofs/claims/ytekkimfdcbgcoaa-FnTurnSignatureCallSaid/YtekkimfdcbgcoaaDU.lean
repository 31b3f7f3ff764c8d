/- Contracts: turns that are drawn. -/
import Derived.Test.YtekkimfdcbgcoaaDI
import Derived.Test.YtekkimfdcbgcoaaFS
namespace Go.Proofs.Ytekkimfdcbgcoaa.Am
open Go
set_option maxRecDepth 100000
set_option maxHeartbeats 4000000
set_option linter.unusedSimpArgs false
set_option linter.unusedVariables false
attribute [local go_sem ↓] bv_t bv_c ev_t ev_c put_same put_ne put_none kill_at pro_at lb_same lb_ne start_zero start_succ wpC_seq wpC_reg wpC_cond wpC_block wpC_skip wpC_exit wpC_ret thenQ_normal thenQ_exit thenQ_ret inBlk_normal inBlk_exit inBlk_ret wpS_nil wpS_step wpS_again wpS_guard wpO_mov wpO_load wpO_faddr wpO_nilCheck wpO_pick wpO_build wpO_bin wpO_eqb wpO_eqst wpO_eqnil wpO_not wpO_conv wpO_bytesStr wpO_iaddr wpO_idxStr wpO_field wpO_extract wpO_len wpO_lenStr wpO_cap wpO_min wpO_slice wpO_sliceStr wpO_alloc wpO_box wpO_store wpO_call wpO_callv wpO_mkfn wpO_buildSlice wpO_mkslice wpO_append wpO_appz proA_nil proA_cons tmpX_nil tmpX_tmp tmpX_cell doneB_normal doneB_ret agK_cons agK_nil agK_guard agG_tt agG_ff agG_tf agG_ft agG_undef pureB_load results_one results_two results_nil resBs_cons resBs_nil resB_tmp resB_cell
attribute [local go_sem] kill_v kill_lp_ne kill_lp_same pro_v pro_lp_same pro_lp_ne av_v av_lp optB_some optX_some valX_eq ldX_lp ldX_v faX_lp faX_v ncX_lp ncX_ptr ncX_fn boxK_one boxK_agg stL_some stK_lp_one stK_lp_agg stK_v_one stK_v_agg proM_v proM_lp callG_mk callVG_mk callvK_fn fnG_mk ptrsA_nil ptrsA_cons callH_some whenA_true whenA_false guardH_tt guardH_ff guardH_tf guardH_ft guardH_undef agV_one agV_agg lenO_sl lenStrO_str notO_bool pickO_bool convO_int eqbO_bool eqnilO_sl extractO_tup capO_sl minO_int loadL_one loadL_all storeL_eq fillA_nil fillA_one fillA_agg nat_ge neg_ge nat_lt neg_lt buildO bin_add bin_sub bin_mul bin_eql bin_neq bin_lss bin_leq bin_gtr bin_geq str_eql str_neq str_lss str_leq str_gtr str_geq retK_some endK_mk gcK_same gcK_int gcK_bool tupO_one tupO_agg rdy_self ib ii Option.map_none Option.map_some Option.some.injEq exists_eq_left' exists_eq_left ne_eq not_false_eq_true if_true if_false List.map_cons List.map_nil List.getElem?_cons_zero List.getElem?_cons_succ List.length_cons List.length_nil List.take_succ_cons List.take_zero List.take_nil List.drop_succ_cons List.drop_zero List.drop_nil List.cons_append List.nil_append List.append_nil List.set_cons_zero List.set_cons_succ Nat.zero_add forall_const true_and and_true and_self Bool.false_eq_true false_implies true_implies implies_true Bool.not_true Bool.not_false Bool.not_eq_true' Bool.not_eq_false' beq_self_eq_true Bool.bne_true Bool.bne_false
attribute [local go_sem] lenI lenS lenP lenQ lenB lenL lenT encI_0 encS_0 encP_0 encP_1 encQ_0 encQ_1 encQ_2 encQ_3 encB_0 encB_1 encL_0 encL_1 encT_0 encT_1
attribute [local go_sem low] whenA_bool guardH_bool
theorem rem5 {k i : Int} (h1 : 0 ≤ k) (h2 : 0 ≤ i) : 0 ≤ (k + i).tmod 5 ∧ (k + i).tmod 5 < 5 := by
  rw [Int.tmod_eq_emod_of_nonneg (by omega)]
  omega
structure tinyU (l : List Turn) : Prop where
  len : l.length ≤ 10
  nm : ∀ x ∈ l, x.fr.size ≤ 10 ∧ x.to.size ≤ 10
theorem tinyU.mini {l : List Turn} (t : tinyU l) : miniU l := ⟨Nat.le_trans t.len (by decide), fun x hx => ⟨Nat.le_trans (t.nm x hx).1 (by decide), Nat.le_trans (t.nm x hx).2 (by decide)⟩⟩
/-! spec.goodTurns -/
def L105_0 : List AStep := [⟨.mov (.c (.sl none 0 (some 0))), (some 2), none, []⟩]
theorem v105_0 : VS L105_0.eq_1 := rfl
def L105_1 : List AStep := [⟨.buildSlice 9 5 [(.str (strOfNums []))] [(0, 1, (.c (.str (strOfNums [97])))), (1, 1, (.c (.str (strOfNums [98])))), (2, 1, (.c (.str (strOfNums [99])))), (3, 1, (.c (.str (strOfNums [120])))), (4, 1, (.c (.str (strOfNums [100]))))], (some 8), none, []⟩, ⟨.mov (.t 8), (some 3), none, []⟩]
theorem v105_1 : VS L105_1.eq_1 := rfl
def L105_2 : List AStep := [⟨.call 109 [(.t 9), (.t 10)], (some 11), none, []⟩, ⟨.mov (.t 11), (some 4), none, []⟩]
theorem v105_2 : VS L105_2.eq_1 := rfl
def L105_3 : List AStep := ⟨.mov (.t 0), (some 9), none, []⟩ :: ⟨.buildSlice 3 5 [(.int .i64 0)] [(0, 1, (.c (.int .i64 3))), (1, 1, (.c (.int .i64 2))), (2, 1, (.c (.int .i64 4))), (3, 1, (.c (.int .i64 1))), (4, 1, (.c (.int .i64 0)))], (some 10), none, []⟩ :: L105_2
theorem v105_3 : VS L105_3.eq_1 := rfl
def L105_4 : List AStep := [⟨.mov (.t 13), (some 5), none, []⟩]
theorem v105_4 : VS L105_4.eq_1 := rfl
def L105_5 : List AStep := ⟨.mov (.t 0), (some 12), none, []⟩ :: ⟨.call 106 [(.t 12), (.c (.int .i64 5))], (some 13), none, []⟩ :: L105_4
theorem v105_5 : VS L105_5.eq_1 := rfl
def L105_6 : List AStep := [⟨.buildSlice 86 0 [(.str (strOfNums [])), (.str (strOfNums []))] [], (some 14), none, []⟩, ⟨.mov (.t 14), (some 6), none, []⟩]
theorem v105_6 : VS L105_6.eq_1 := rfl
def L105_7 : List AStep := [⟨.mov (.c (.int .i64 0)), (some 7), none, []⟩]
theorem v105_7 : VS L105_7.eq_1 := rfl
def L105_8 : List AStep := [⟨.bin .lss (.t 15) (.t 16), (some 17), none, []⟩]
theorem v105_8 : VS L105_8.eq_1 := rfl
def L105_9 : List AStep := ⟨.mov (.t 7), (some 15), none, []⟩ :: ⟨.mov (.t 4), (some 16), none, []⟩ :: L105_8
theorem v105_9 : VS L105_9.eq_1 := rfl
def L105_10 : List AStep := [⟨.append 86 2 32 (.t 20) (.t 39), (some 40), none, []⟩, ⟨.mov (.t 40), (some 6), none, []⟩]
theorem v105_10 : VS L105_10.eq_1 := rfl
def L105_11 : List AStep := ⟨.build [(.str (strOfNums [])), (.str (strOfNums []))] [(0, 1, (.t 27)), (1, 1, (.t 37))], (some 38), none, []⟩ :: ⟨.buildSlice 86 1 [(.str (strOfNums [])), (.str (strOfNums []))] [(0, 2, (.t 38))], (some 39), none, []⟩ :: L105_10
theorem v105_11 : VS L105_11.eq_1 := rfl
def L105_12 : List AStep := ⟨.iaddr 1 (.t 28) (.t 35), (some 36), none, []⟩ :: ⟨.load 1 false (.t 36), (some 37), none, []⟩ :: L105_11
theorem v105_12 : VS L105_12.eq_1 := rfl
def L105_13 : List AStep := ⟨.bin .add (.t 29) (.t 33), (some 34), none, []⟩ :: ⟨.bin .rem (.t 34) (.c (.int .i64 5)), (some 35), none, []⟩ :: L105_12
theorem v105_13 : VS L105_13.eq_1 := rfl
def L105_14 : List AStep := ⟨.mov (.t 4), (some 32), none, []⟩ :: ⟨.bin .rem (.t 31) (.t 32), (some 33), none, []⟩ :: L105_13
theorem v105_14 : VS L105_14.eq_1 := rfl
def L105_15 : List AStep := ⟨.mov (.t 7), (some 30), none, []⟩ :: ⟨.bin .add (.t 30) (.c (.int .i64 1)), (some 31), none, []⟩ :: L105_14
theorem v105_15 : VS L105_15.eq_1 := rfl
def L105_16 : List AStep := ⟨.mov (.t 3), (some 28), none, []⟩ :: ⟨.mov (.t 5), (some 29), none, []⟩ :: L105_15
theorem v105_16 : VS L105_16.eq_1 := rfl
def L105_17 : List AStep := ⟨.iaddr 1 (.t 21) (.t 25), (some 26), none, []⟩ :: ⟨.load 1 false (.t 26), (some 27), none, []⟩ :: L105_16
theorem v105_17 : VS L105_17.eq_1 := rfl
def L105_18 : List AStep := ⟨.bin .add (.t 22) (.t 23), (some 24), none, []⟩ :: ⟨.bin .rem (.t 24) (.c (.int .i64 5)), (some 25), none, []⟩ :: L105_17
theorem v105_18 : VS L105_18.eq_1 := rfl
def L105_19 : List AStep := ⟨.mov (.t 5), (some 22), none, []⟩ :: ⟨.mov (.t 7), (some 23), none, []⟩ :: L105_18
theorem v105_19 : VS L105_19.eq_1 := rfl
def L105_20 : List AStep := ⟨.mov (.t 6), (some 20), none, []⟩ :: ⟨.mov (.t 3), (some 21), none, []⟩ :: L105_19
theorem v105_20 : VS L105_20.eq_1 := rfl
def L105_21 : List AStep := [⟨.mov (.t 19), (some 7), none, []⟩]
theorem v105_21 : VS L105_21.eq_1 := rfl
def L105_22 : List AStep := ⟨.mov (.t 7), (some 18), none, []⟩ :: ⟨.bin .add (.t 18) (.c (.int .i64 1)), (some 19), none, []⟩ :: L105_21
theorem v105_22 : VS L105_22.eq_1 := rfl
def L105_23 : List AStep := [⟨.mov (.t 6), (some 41), none, []⟩, ⟨.mov (.t 41), (some 2), none, []⟩]
theorem v105_23 : VS L105_23.eq_1 := rfl
def C105_0 : ACode := .cond (.t 17) .skip (.exit 0)
theorem u105_0 : VC C105_0.eq_1 := rfl
def C105_1 : ACode := .seq (.reg L105_9) C105_0
theorem u105_1 : VC C105_1.eq_1 := rfl
def C105_2 : ACode := .block 1 (.reg L105_20)
theorem u105_2 : VC C105_2.eq_1 := rfl
def C105_3 : ACode := .seq C105_2 (.reg L105_22)
theorem u105_3 : VC C105_3.eq_1 := rfl
def C105_4 : ACode := .seq C105_1 C105_3
theorem u105_4 : VC C105_4.eq_1 := rfl
def C105_5 : ACode := .block 0 (.loop C105_4)
theorem u105_5 : VC C105_5.eq_1 := rfl
def C105_6 : ACode := .seq (.reg L105_7) C105_5
theorem u105_6 : VC C105_6.eq_1 := rfl
def C105_7 : ACode := .seq (.reg L105_23) .ret
theorem u105_7 : VC C105_7.eq_1 := rfl
def C105_8 : ACode := .seq C105_6 C105_7
theorem u105_8 : VC C105_8.eq_1 := rfl
def C105_9 : ACode := .seq (.reg L105_6) C105_8
theorem u105_9 : VC C105_9.eq_1 := rfl
def C105_10 : ACode := .seq (.reg L105_5) C105_9
theorem u105_10 : VC C105_10.eq_1 := rfl
def C105_11 : ACode := .seq (.reg L105_3) C105_10
theorem u105_11 : VC C105_11.eq_1 := rfl
def C105_12 : ACode := .seq (.reg L105_1) C105_11
theorem u105_12 : VC C105_12.eq_1 := rfl
def C105_13 : ACode := .seq (.reg L105_0) C105_12
theorem u105_13 : VC C105_13.eq_1 := rfl
def F105 : AFunc := ⟨42, [.tmp 2], C105_13⟩
theorem cF105 : compB Try.prog 105 = some F105 := by kernel_rfl
attribute [local go_sem ↓] u105_0 u105_1 u105_2 u105_3 u105_4 u105_5 u105_6 u105_7 u105_8 u105_9 u105_10 u105_11 u105_12 u105_13 v105_0 v105_1 v105_2 v105_3 v105_4 v105_5 v105_6 v105_7 v105_8 v105_9 v105_10 v105_11 v105_12 v105_13 v105_14 v105_15 v105_16 v105_17 v105_18 v105_19 v105_20 v105_21 v105_22 v105_23
theorem c_goodTurns (b : Nat) (p : Int) (h : H) (r : Rd h b p) (hp : p ≤ 2 ^ 38) : callK (bm Try.prog 105 [.one (.ptr (some (b, 0)))] h) fun q h' => (∃ l, NwT h h' q l ∧ tinyU l) ∧ Drew b p 2 h h' := by
  refine bm_of cF105 ?_
  have hbn := r.lt
  simp +contextual (maxSteps := 2000000) only [go_sem, Nat.reduceEqDiff, reduceCtorEq, Nat.reduceAdd, Nat.reduceLeDiff, F105]
  refine wp_lit (enc := encS) (k := 1) (l := [strOfNums [97], strOfNums [98], strOfNums [99], strOfNums [120], strOfNums [100]]) rfl rfl ?_
  intro h1 w1 g1 n1 b1
  simp +contextual (maxSteps := 2000000) only [go_sem, Nat.reduceEqDiff, reduceCtorEq, Nat.reduceAdd, Nat.reduceLeDiff]
  refine wp_lit (enc := encI) (k := 1) (l := [3, 2, 4, 1, 0]) rfl rfl ?_
  intro h2 w2 g2 n2 b2
  have g12 := g1.trans g2
  simp +contextual (maxSteps := 2000000) only [go_sem, Nat.reduceEqDiff, reduceCtorEq, Nat.reduceAdd, Nat.reduceLeDiff]
  refine wp_call (c_one b p _ w2 h2 (r.grow g12) (by omega) (n2.sl lenI) (fun i hi => Nat.lt_of_lt_of_le hbn (Nat.le_trans g1.n (b2 i hi))) (by decide) (by decide)) ?_
  rintro q h3 ⟨⟨m, hm, rfl⟩, d3⟩
  have hm8 : 0 ≤ m ∧ m ≤ 4 := by simp at hm; omega
  obtain ⟨m, rfl⟩ := Int.eq_ofNat_of_zero_le hm8.1
  have n3 := (n1.grow g2).drew d3 hbn
  have d3 := d3.pre g12
  obtain ⟨p3, hp1, hp2, r3⟩ := d3.ex
  simp +contextual (maxSteps := 2000000) only [go_sem, Nat.reduceEqDiff, reduceCtorEq, Nat.reduceAdd, Nat.reduceLeDiff]
  refine wp_call (c_pick b 5 p3 h3 r3 (by omega)) ?_
  rintro q h4 ⟨⟨k, rfl, k0, k1⟩, d4⟩
  have n4 := n3.drew d4 hbn
  have d4 := d4.then d3.st (by omega) hp2
  have k4 : k ≤ 4 := by omega
  simp +contextual (maxSteps := 2000000) only [go_sem, Nat.reduceEqDiff, reduceCtorEq, Nat.reduceAdd, Nat.reduceLeDiff]
  refine wp_lit (enc := encT) (k := 2) (l := []) rfl rfl ?_
  intro h5 w5 g5 n5 b5
  have sl0 := (n4.grow g5).sl lenS
  have hsm : ∀ x ∈ [strOfNums [97], strOfNums [98], strOfNums [99], strOfNums [120], strOfNums [100]], x.size ≤ 10 := fun x hx => by
    simp only [List.mem_cons, List.not_mem_nil, or_false] at hx
    rcases hx with rfl | rfl | rfl | rfl | rfl <;> exact Nat.le_of_ble_eq_true rfl
  have hl5 : [strOfNums [97], strOfNums [98], strOfNums [99], strOfNums [120], strOfNums [100]].length = 5 := rfl
  have sep0 : Sep w1 w5 := fun j hj e => by have := b5 j e; have := (n4.lt hj).1; omega
  generalize [strOfNums [97], strOfNums [98], strOfNums [99], strOfNums [120], strOfNums [100]] = ns at sl0 hsm hl5
  have n5 := n5.from d4.st.n
  have d5 := d4.grow g5
  simp +contextual (maxSteps := 2000000) only [go_sem, Nat.reduceEqDiff, reduceCtorEq, Nat.reduceAdd, Nat.reduceLeDiff]
  refine wpC_loop (fun i T L h' => T 3 = .v w1 ∧ T 4 = .v (.one (.int .i64 m)) ∧ T 5 = .v (.one (.int .i64 k)) ∧ (∃ s l, T 6 = .v s ∧ NwT h h' s l ∧ l.length ≤ i ∧ (∀ x ∈ l, x.fr.size ≤ 10 ∧ x.to.size ≤ 10) ∧ SlS h' w1 ns ∧ Sep w1 s) ∧ T 7 = .v (.one (.int .i64 i)) ∧ Drew b p 2 h h') m ?_ ?_ (Nat.zero_le _) ?_
  · rintro i T L h' hi ⟨t3, t4, t5, ⟨s, l, t6, nl, hl1, hl2, sl, sep⟩, t7, d⟩
    have hm0 : (m : Int) ≠ 0 := by omega
    have e1 : ((i : Int) + 1).tmod m = ((i : Int) + 1) % m := Int.tmod_eq_emod_of_nonneg (by omega)
    have f0 : 0 ≤ ((i : Int) + 1).tmod m := by rw [e1]; exact Int.emod_nonneg _ hm0
    have f1 : ((i : Int) + 1).tmod m < m := by rw [e1]; exact Int.emod_lt_of_pos _ (by omega)
    have a1 := rem5 (k := k) (i := i) k0 (by omega)
    have a2 := rem5 (k := k) (i := ((i : Int) + 1).tmod m) k0 f0
    have v1 : IntKind.i64.wrap (k + i) = k + i := i64_wrap (by omega) (by omega)
    have v2 : IntKind.i64.wrap ((i : Int) + 1) = (i : Int) + 1 := i64_wrap (by omega) (by omega)
    have v3 : IntKind.i64.wrap (k + ((i : Int) + 1).tmod m) = k + ((i : Int) + 1).tmod m := i64_wrap (by omega) (by omega)
    have j1 : ((k + i).tmod 5).toNat < ns.length := by omega
    have j2 : ((k + ((i : Int) + 1).tmod m).tmod 5).toNat < ns.length := by omega
    simp +contextual (maxSteps := 2000000) only [go_sem, Nat.reduceEqDiff, reduceCtorEq, Nat.reduceAdd, Nat.reduceLeDiff, t3, t4, t5, t6, t7, lt_true hi, v1, v2, v3, bin_rem (show (5 : Int) ≠ 0 by decide), bin_rem hm0, sl.iaddr_int a1.1 (by omega), sl.iaddr_int a2.1 (by omega), sl.oneO j1, sl.oneO j2]
    refine wp_lit (enc := encT) (k := 2) (l := [⟨ns[((k + i).tmod 5).toNat], ns[((k + ((i : Int) + 1).tmod m).tmod 5).toNat]⟩]) rfl rfl ?_
    intro h6 w6 g6 n6 b6
    have nl6 := nl.grow g6
    simp +contextual (maxSteps := 2000000) only [go_sem, Nat.reduceEqDiff, reduceCtorEq, Nat.reduceAdd, Nat.reduceLeDiff, t3, t4, t5, t6, t7, v2]
    refine wp_appendD lenT nl6 (n6.sl lenT) (Nat.le_trans d.st.n g6.n) (by simp; omega) ?_
    intro h7 s7 n7 st7 hb7
    have d7 := (d.grow g6).stay st7 (fun i hi => (nl6.lt hi).2) hbn
    have sl7 := (sl.grow g6).of_stay st7 sep
    have sep7 : Sep w1 s7 := fun j hj e => by
      rcases hb7 j e with e | e
      · exact sep j hj e
      · have := (sl.grow g6).ltB hj; omega
    simp +contextual (maxSteps := 2000000) only [go_sem, Nat.reduceEqDiff, reduceCtorEq, Nat.reduceAdd, Nat.reduceLeDiff, t3, t4, t5, t6, t7, v2]
    refine ⟨⟨s7, _, rfl, n7, by simp; omega, fun y hy => ?_, sl7, sep7⟩, by rw [show ((i + 1 : Nat) : Int) = (i : Int) + 1 by omega], d7⟩
    rcases List.mem_append.1 hy with hy | hy
    · exact hl2 y hy
    · rw [List.mem_singleton.1 hy]; exact ⟨hsm _ (List.getElem_mem _), hsm _ (List.getElem_mem _)⟩
  · rintro T L h' ⟨t3, t4, t5, ⟨s, l, t6, nl, hl1, hl2, sl, sep⟩, t7, d⟩
    simp +contextual (maxSteps := 2000000) only [go_sem, Nat.reduceEqDiff, reduceCtorEq, Nat.reduceAdd, Nat.reduceLeDiff, t3, t4, t5, t6, t7, lt_false]
    exact gcK_drew r d ⟨⟨l, nl, ⟨by omega, hl2⟩⟩, d⟩
  · simp +contextual (maxSteps := 2000000) only [go_sem, Nat.reduceEqDiff, reduceCtorEq, Nat.reduceAdd, Nat.reduceLeDiff]
    exact ⟨⟨w5, [], rfl, n5, Nat.le_refl 0, fun x hx => by simp at hx, sl0, sep0⟩, rfl, d5⟩
theorem tinyU.set {l : List Turn} (t : tinyU l) {k : Nat} {x : Turn} (hx : x.fr.size ≤ 10 ∧ x.to.size ≤ 10) : tinyU (l.set k x) := ⟨by rw [List.length_set]; exact t.len, fun y hy => by
  rcases List.mem_or_eq_of_mem_set hy with hy | rfl
  · exact t.nm y hy
  · exact hx⟩
/-! spec.someTurns -/
def L52_0 : List AStep := [⟨.mov (.c (.sl none 0 (some 0))), (some 2), none, []⟩]
theorem v52_0 : VS L52_0.eq_1 := rfl
def L52_1 : List AStep := [⟨.mov (.t 6), (some 3), none, []⟩]
theorem v52_1 : VS L52_1.eq_1 := rfl
def L52_2 : List AStep := ⟨.mov (.t 0), (some 5), none, []⟩ :: ⟨.call 105 [(.t 5)], (some 6), none, []⟩ :: L52_1
theorem v52_2 : VS L52_2.eq_1 := rfl
def L52_3 : List AStep := [⟨.bin .eql (.t 12) (.c (.int .i64 0)), (some 13), (some (10, true)), []⟩, ⟨.pick (.t 10) (.t 13) (.c (.bool false)), (some 14), none, []⟩]
theorem v52_3 : VS L52_3.eq_1 := rfl
def L52_4 : List AStep := ⟨.mov (.t 0), (some 11), (some (10, true)), []⟩ :: ⟨.call 106 [(.t 11), (.c (.int .i64 12))], (some 12), (some (10, true)), []⟩ :: L52_3
theorem v52_4 : VS L52_4.eq_1 := rfl
def L52_5 : List AStep := ⟨.bin .gtr (.t 8) (.c (.int .i64 0)), (some 9), none, []⟩ :: ⟨.mov (.t 9), (some 10), none, []⟩ :: L52_4
theorem v52_5 : VS L52_5.eq_1 := rfl
def L52_6 : List AStep := ⟨.mov (.t 3), (some 7), none, []⟩ :: ⟨.len (.t 7), (some 8), none, []⟩ :: L52_5
theorem v52_6 : VS L52_6.eq_1 := rfl
def L52_7 : List AStep := [⟨.mov (.t 18), (some 4), none, []⟩]
theorem v52_7 : VS L52_7.eq_1 := rfl
def L52_8 : List AStep := ⟨.len (.t 16), (some 17), none, []⟩ :: ⟨.call 106 [(.t 15), (.t 17)], (some 18), none, []⟩ :: L52_7
theorem v52_8 : VS L52_8.eq_1 := rfl
def L52_9 : List AStep := ⟨.mov (.t 0), (some 15), none, []⟩ :: ⟨.mov (.t 3), (some 16), none, []⟩ :: L52_8
theorem v52_9 : VS L52_9.eq_1 := rfl
def L52_10 : List AStep := [⟨.bin .eql (.t 20) (.c (.int .i64 0)), (some 21), none, []⟩]
theorem v52_10 : VS L52_10.eq_1 := rfl
def L52_11 : List AStep := ⟨.mov (.t 0), (some 19), none, []⟩ :: ⟨.call 106 [(.t 19), (.c (.int .i64 2))], (some 20), none, []⟩ :: L52_10
theorem v52_11 : VS L52_11.eq_1 := rfl
def L52_12 : List AStep := [⟨.store 1 (.t 27) (.t 25), none, none, []⟩]
theorem v52_12 : VS L52_12.eq_1 := rfl
def L52_13 : List AStep := ⟨.iaddr 2 (.t 22) (.t 23), (some 26), none, []⟩ :: ⟨.faddr 1 (.t 26), (some 27), none, []⟩ :: L52_12
theorem v52_13 : VS L52_13.eq_1 := rfl
def L52_14 : List AStep := ⟨.mov (.t 0), (some 24), none, []⟩ :: ⟨.call 107 [(.t 24)], (some 25), none, []⟩ :: L52_13
theorem v52_14 : VS L52_14.eq_1 := rfl
def L52_15 : List AStep := ⟨.mov (.t 3), (some 22), none, []⟩ :: ⟨.mov (.t 4), (some 23), none, []⟩ :: L52_14
theorem v52_15 : VS L52_15.eq_1 := rfl
def L52_16 : List AStep := [⟨.store 1 (.t 33) (.t 31), none, none, []⟩]
theorem v52_16 : VS L52_16.eq_1 := rfl
def L52_17 : List AStep := ⟨.iaddr 2 (.t 28) (.t 29), (some 32), none, []⟩ :: ⟨.faddr 0 (.t 32), (some 33), none, []⟩ :: L52_16
theorem v52_17 : VS L52_17.eq_1 := rfl
def L52_18 : List AStep := ⟨.mov (.t 0), (some 30), none, []⟩ :: ⟨.call 107 [(.t 30)], (some 31), none, []⟩ :: L52_17
theorem v52_18 : VS L52_18.eq_1 := rfl
def L52_19 : List AStep := ⟨.mov (.t 3), (some 28), none, []⟩ :: ⟨.mov (.t 4), (some 29), none, []⟩ :: L52_18
theorem v52_19 : VS L52_19.eq_1 := rfl
def L52_20 : List AStep := [⟨.mov (.t 3), (some 34), none, []⟩, ⟨.mov (.t 34), (some 2), none, []⟩]
theorem v52_20 : VS L52_20.eq_1 := rfl
def C52_0 : ACode := .cond (.t 21) (.reg L52_15) (.reg L52_19)
theorem u52_0 : VC C52_0.eq_1 := rfl
def C52_1 : ACode := .seq (.reg L52_11) C52_0
theorem u52_1 : VC C52_1.eq_1 := rfl
def C52_2 : ACode := .seq (.reg L52_9) C52_1
theorem u52_2 : VC C52_2.eq_1 := rfl
def C52_3 : ACode := .cond (.t 14) C52_2 .skip
theorem u52_3 : VC C52_3.eq_1 := rfl
def C52_4 : ACode := .seq (.reg L52_6) C52_3
theorem u52_4 : VC C52_4.eq_1 := rfl
def C52_5 : ACode := .seq (.reg L52_20) .ret
theorem u52_5 : VC C52_5.eq_1 := rfl
def C52_6 : ACode := .seq C52_4 C52_5
theorem u52_6 : VC C52_6.eq_1 := rfl
def C52_7 : ACode := .seq (.reg L52_2) C52_6
theorem u52_7 : VC C52_7.eq_1 := rfl
def C52_8 : ACode := .seq (.reg L52_0) C52_7
theorem u52_8 : VC C52_8.eq_1 := rfl
def F52 : AFunc := ⟨35, [.tmp 2], C52_8⟩
theorem cF52 : compB Try.prog 52 = some F52 := by kernel_rfl
attribute [local go_sem ↓] u52_0 u52_1 u52_2 u52_3 u52_4 u52_5 u52_6 u52_7 u52_8 v52_0 v52_1 v52_2 v52_3 v52_4 v52_5 v52_6 v52_7 v52_8 v52_9 v52_10 v52_11 v52_12 v52_13 v52_14 v52_15 v52_16 v52_17 v52_18 v52_19 v52_20
theorem c_someTurns (b : Nat) (p : Int) (h : H) (r : Rd h b p) (hp : p ≤ 2 ^ 37) : callK (bm Try.prog 52 [.one (.ptr (some (b, 0)))] h) fun q h' => (∃ l, NwT h h' q l ∧ tinyU l) ∧ Drew b p 7 h h' := by
  refine bm_of cF52 ?_
  have hbn := r.lt
  simp +contextual (maxSteps := 2000000) only [go_sem, Nat.reduceEqDiff, reduceCtorEq, Nat.reduceAdd, Nat.reduceLeDiff, F52]
  refine wp_call (c_goodTurns b p h r (by omega)) ?_
  rintro q h1 ⟨⟨l, z1, tl⟩, d1⟩
  obtain ⟨p1, hp1, hp2, r1⟩ := d1.ex
  cases en : decide ((l.length : Int) > 0) with
  | false =>
    have d1 := d1.more (show 2 ≤ 7 by omega)
    simp +contextual (maxSteps := 2000000) only [go_sem, Nat.reduceEqDiff, reduceCtorEq, Nat.reduceAdd, Nat.reduceLeDiff, z1.length, en]
    exact gcK_drew r d1 ⟨⟨l, z1, tl⟩, d1⟩
  | true =>
  have en2 : 0 < l.length := by have := of_decide_eq_true en; omega
  simp +contextual (maxSteps := 2000000) only [go_sem, Nat.reduceEqDiff, reduceCtorEq, Nat.reduceAdd, Nat.reduceLeDiff, z1.length, en]
  refine wp_call (c_pick b 12 p1 h1 r1 (by omega)) ?_
  rintro q2 h2 ⟨⟨e, rfl, _, _⟩, d2⟩
  have z2 := z1.drew d2 hbn
  obtain ⟨p2, hq1, hq2, r2⟩ := d2.ex
  have d2 := d2.then d1.st (by omega) hp2
  by_cases e0 : e = 0
  · simp +contextual (maxSteps := 2000000) only [go_sem, Nat.reduceEqDiff, reduceCtorEq, Nat.reduceAdd, Nat.reduceLeDiff, decide_eq_true e0, z2.length]
    refine wp_call (c_pick b l.length p2 h2 r2 (by omega)) ?_
    rintro q3 h3 ⟨⟨k, rfl, k0, k1⟩, d3⟩
    obtain ⟨k, rfl⟩ := Int.eq_ofNat_of_zero_le k0
    have hk : k < l.length := by omega
    have z3 := z2.drew d3 hbn
    obtain ⟨p3, hs1, hs2, r3⟩ := d3.ex
    have d3 := d3.then d2.st (by omega) (show p2 ≤ p + ((2 + 1 : Nat) : Int) by omega)
    simp +contextual (maxSteps := 2000000) only [go_sem, Nat.reduceEqDiff, reduceCtorEq, Nat.reduceAdd, Nat.reduceLeDiff]
    refine wp_call (c_pick b 2 p3 h3 r3 (by omega)) ?_
    rintro q4 h4 ⟨⟨e4, rfl, _, _⟩, d4⟩
    have z4 := z3.drew d4 hbn
    obtain ⟨p4, hu1, hu2, r4⟩ := d4.ex
    have d4 := d4.then d3.st (by omega) (show p3 ≤ p + ((2 + 1 + 1 : Nat) : Int) by omega)
    have tk := tl.nm l[k] (List.getElem_mem hk)
    by_cases e1 : e4 = 0
    · simp +contextual (maxSteps := 2000000) only [go_sem, Nat.reduceEqDiff, reduceCtorEq, Nat.reduceAdd, Nat.reduceLeDiff, decide_eq_true e1]
      refine wp_call (c_anyName b p4 h4 r4 (by omega)) ?_
      rintro q5 h5 ⟨⟨s, rfl, hs⟩, d5⟩
      have z5 := z4.drew d5 hbn
      have d5 := d5.then d4.st (by omega) (show p4 ≤ p + ((2 + 1 + 1 + 1 : Nat) : Int) by omega)
      simp +contextual (maxSteps := 2000000) only [go_sem, Nat.reduceEqDiff, reduceCtorEq, Nat.reduceAdd, Nat.reduceLeDiff, z5.iaddr hk]
      refine wp_setD (x := (⟨l[k].fr, s⟩ : Turn)) (off := 1) (vs := [.str s]) lenT z5 hk rfl rfl (Nat.le_of_ble_eq_true rfl) d5.st.n ?_
      intro h6 n6 st6
      have d6 := (d5.stay st6 (fun i hi => (z5.lt hi).2) hbn).more (show 2 + 1 + 1 + 1 + 2 ≤ 7 by omega)
      simp +contextual (maxSteps := 2000000) only [go_sem, Nat.reduceEqDiff, reduceCtorEq, Nat.reduceAdd, Nat.reduceLeDiff]
      exact gcK_drew r d6 ⟨⟨_, n6, tl.set ⟨tk.1, hs⟩⟩, d6⟩
    · simp +contextual (maxSteps := 2000000) only [go_sem, Nat.reduceEqDiff, reduceCtorEq, Nat.reduceAdd, Nat.reduceLeDiff, decide_eq_false e1]
      refine wp_call (c_anyName b p4 h4 r4 (by omega)) ?_
      rintro q5 h5 ⟨⟨s, rfl, hs⟩, d5⟩
      have z5 := z4.drew d5 hbn
      have d5 := d5.then d4.st (by omega) (show p4 ≤ p + ((2 + 1 + 1 + 1 : Nat) : Int) by omega)
      simp +contextual (maxSteps := 2000000) only [go_sem, Nat.reduceEqDiff, reduceCtorEq, Nat.reduceAdd, Nat.reduceLeDiff, z5.iaddr hk]
      refine wp_setD (x := (⟨s, l[k].to⟩ : Turn)) (off := 0) (vs := [.str s]) lenT z5 hk rfl rfl (Nat.le_of_ble_eq_true rfl) d5.st.n ?_
      intro h6 n6 st6
      have d6 := (d5.stay st6 (fun i hi => (z5.lt hi).2) hbn).more (show 2 + 1 + 1 + 1 + 2 ≤ 7 by omega)
      simp +contextual (maxSteps := 2000000) only [go_sem, Nat.reduceEqDiff, reduceCtorEq, Nat.reduceAdd, Nat.reduceLeDiff]
      exact gcK_drew r d6 ⟨⟨_, n6, tl.set ⟨hs, tk.2⟩⟩, d6⟩
  · have d3 := d2.more (show 2 + 1 ≤ 7 by omega)
    simp +contextual (maxSteps := 2000000) only [go_sem, Nat.reduceEqDiff, reduceCtorEq, Nat.reduceAdd, Nat.reduceLeDiff, decide_eq_false e0]
    exact gcK_drew r d3 ⟨⟨l, z2, tl⟩, d3⟩
/-! spec.DrawTurnFlat -/
def L12_0 : List AStep := [⟨.mov (.c (.sl none 0 (some 0))), (some 2), none, []⟩, ⟨.alloc 27 [(.sl none 0 (some 0)), (.sl none 0 (some 0))], (some 3), none, []⟩]
theorem v12_0 : VS L12_0.eq_1 := rfl
def L12_1 : List AStep := [⟨.mov (.t 6), (some 4), none, []⟩]
theorem v12_1 : VS L12_1.eq_1 := rfl
def L12_2 : List AStep := ⟨.mov (.t 0), (some 5), none, []⟩ :: ⟨.call 51 [(.t 5)], (some 6), none, []⟩ :: L12_1
theorem v12_2 : VS L12_2.eq_1 := rfl
def L12_3 : List AStep := [⟨.mov (.t 8), (some 2), none, []⟩, ⟨.store 2 (.t 3) (.t 10), none, none, []⟩]
theorem v12_3 : VS L12_3.eq_1 := rfl
def L12_4 : List AStep := ⟨.mov (.t 4), (some 9), none, []⟩ :: ⟨.call 53 [(.t 9)], (some 10), none, []⟩ :: L12_3
theorem v12_4 : VS L12_4.eq_1 := rfl
def L12_5 : List AStep := ⟨.mov (.t 4), (some 7), none, []⟩ :: ⟨.call 52 [(.t 7)], (some 8), none, []⟩ :: L12_4
theorem v12_5 : VS L12_5.eq_1 := rfl
def C12_0 : ACode := .seq (.reg L12_5) .ret
theorem u12_0 : VC C12_0.eq_1 := rfl
def C12_1 : ACode := .seq (.reg L12_2) C12_0
theorem u12_1 : VC C12_1.eq_1 := rfl
def C12_2 : ACode := .seq (.reg L12_0) C12_1
theorem u12_2 : VC C12_2.eq_1 := rfl
def F12 : AFunc := ⟨11, [.tmp 2, .cell 3 2 true], C12_2⟩
theorem cF12 : compB Try.prog 12 = some F12 := by kernel_rfl
attribute [local go_sem ↓] u12_0 u12_1 u12_2 v12_0 v12_1 v12_2 v12_3 v12_4 v12_5
theorem c_drawTurnFlat (code : List Int) (v : CV) (h : H) (hl : Sl encBy 1 5 h (.one v) code) (hc : ∀ x ∈ code, 0 ≤ x ∧ x ≤ 255) : callK (bm Try.prog 12 [.one v] h) fun q h' => Grow h h' ∧ ∃ t x y l f, q = .tup [.one t, .agg [x, y]] ∧ NwT h h' (.one t) l ∧ NwF h h' x y f ∧ tinyU l ∧ miniF f := by
  refine bm_of cF12 ?_
  simp +contextual (maxSteps := 2000000) only [go_sem, Nat.reduceEqDiff, reduceCtorEq, Nat.reduceAdd, Nat.reduceLeDiff, F12]
  refine wp_call (c_newReader code v h hl hc) ?_
  rintro q h1 ⟨g1, b, rfl, r1, hb⟩
  have hbn := r1.lt
  simp +contextual (maxSteps := 2000000) only [go_sem, Nat.reduceEqDiff, reduceCtorEq, Nat.reduceAdd, Nat.reduceLeDiff]
  refine wp_call (c_someTurns b 0 h1 r1 (by decide)) ?_
  rintro q2 h2 ⟨⟨l, z2, tl⟩, d2⟩
  obtain ⟨p2, hp1, hp2, r2⟩ := d2.ex
  obtain ⟨t, rfl⟩ := z2.one
  simp +contextual (maxSteps := 2000000) only [go_sem, Nat.reduceEqDiff, reduceCtorEq, Nat.reduceAdd, Nat.reduceLeDiff]
  refine wp_call (c_someFlat b p2 h2 r2 (by omega)) ?_
  rintro q3 h3 ⟨⟨x, y, f, rfl, z3, mf⟩, d3⟩
  have z4 := (z2.drew d3 hbn).from g1.n
  have z5 := z3.from (Nat.le_trans g1.n d2.st.n)
  have d3 := d3.then d2.st (by omega) hp2
  have G := d3.out g1 hb
  simp +contextual (maxSteps := 2000000) only [go_sem, Nat.reduceEqDiff, reduceCtorEq, Nat.reduceAdd, Nat.reduceLeDiff]
  exact gcK_of ⟨G, t, x, y, l, f, rfl, z4, z5, tl, mf⟩ (fun hs _ => by
    simp [AV.scalar, AV.scalars] at hs
    exact ⟨Grow.refl h, t, x, y, l, f, rfl, z4.scalar hs.1 h, ⟨z5.pl.scalar hs.2.1 h, z5.nl.scalar hs.2.2 h, z5.sep⟩, tl, mf⟩)
end Go.Proofs.Ytekkimfdcbgcoaa.Am
