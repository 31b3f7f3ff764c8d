/- Contracts: the texts of shapes, of both sides. -/
import Derived.Test.YtoeceafibmafpaaDoorTY
import Derived.Test.YtoeceafibmafpaaDoorXS
import Derived.Test.YtoeceafibmafpaaDoorB1
namespace Go.Proofs.YtoeceafibmafpaaDoor.Am
open Go
set_option maxRecDepth 100000
set_option maxHeartbeats 4000000
set_option linter.unusedSimpArgs false
set_option linter.unusedVariables false
attribute [local go_sem ↓] bv_t bv_c ev_t ev_c put_same put_ne put_none kill_at pro_at lb_same lb_ne start_zero start_succ wpC_seq wpC_reg wpC_cond wpC_block wpC_skip wpC_exit wpC_ret thenQ_normal thenQ_exit thenQ_ret inBlk_normal inBlk_exit inBlk_ret wpS_nil wpS_step wpS_again wpS_guard wpO_mov wpO_load wpO_faddr wpO_nilCheck wpO_pick wpO_build wpO_bin wpO_eqb wpO_eqst wpO_eqnil wpO_not wpO_conv wpO_bytesStr wpO_iaddr wpO_idxStr wpO_field wpO_extract wpO_len wpO_lenStr wpO_cap wpO_min wpO_slice wpO_sliceStr wpO_alloc wpO_box wpO_store wpO_call wpO_callv wpO_mkfn wpO_buildSlice wpO_mkslice wpO_append wpO_appz proA_nil proA_cons tmpX_nil tmpX_tmp tmpX_cell doneB_normal doneB_ret agK_cons agK_nil agK_guard agG_tt agG_ff agG_tf agG_ft agG_undef pureB_load results_one results_two results_nil resBs_cons resBs_nil resB_tmp resB_cell
attribute [local go_sem] kill_v kill_lp_ne kill_lp_same pro_v pro_lp_same pro_lp_ne av_v av_lp optB_some optX_some valX_eq ldX_lp ldX_v faX_lp faX_v ncX_lp ncX_ptr ncX_fn boxK_one boxK_agg stL_some stK_lp_one stK_lp_agg stK_v_one stK_v_agg proM_v proM_lp callG_mk callVG_mk callvK_fn fnG_mk ptrsA_nil ptrsA_cons callH_some whenA_true whenA_false guardH_tt guardH_ff guardH_tf guardH_ft guardH_undef agV_one agV_agg lenO_sl lenStrO_str notO_bool pickO_bool convO_int eqbO_bool eqnilO_sl extractO_tup capO_sl minO_int loadL_one loadL_all storeL_eq fillA_nil fillA_one fillA_agg nat_ge neg_ge nat_lt neg_lt buildO bin_add bin_sub bin_mul bin_eql bin_neq bin_lss bin_leq bin_gtr bin_geq str_eql str_neq str_lss str_leq str_gtr str_geq retK_some endK_mk gcK_same gcK_int gcK_bool tupO_one tupO_agg rdy_self ib ii Option.map_none Option.map_some Option.some.injEq exists_eq_left' exists_eq_left ne_eq not_false_eq_true if_true if_false List.map_cons List.map_nil List.getElem?_cons_zero List.getElem?_cons_succ List.length_cons List.length_nil List.take_succ_cons List.take_zero List.take_nil List.drop_succ_cons List.drop_zero List.drop_nil List.cons_append List.nil_append List.append_nil List.set_cons_zero List.set_cons_succ Nat.zero_add forall_const true_and and_true and_self Bool.false_eq_true false_implies true_implies implies_true Bool.not_true Bool.not_false Bool.not_eq_true' Bool.not_eq_false' beq_self_eq_true Bool.bne_true Bool.bne_false
attribute [local go_sem] lenI lenS lenP lenQ lenB lenL lenT encI_0 encS_0 encP_0 encP_1 encQ_0 encQ_1 encQ_2 encQ_3 encB_0 encB_1 encL_0 encL_1 encT_0 encT_1
attribute [local go_sem low] whenA_bool guardH_bool
theorem sum_small {m : Nat} : ∀ {l : List ByteArray}, (∀ s ∈ l, s.size ≤ m) → (l.map (·.size)).sum ≤ l.length * m
  | [], _ => by simp
  | x :: l, h => by
    have h1 := h x (.head _)
    have h2 := sum_small (l := l) fun s hs => h s (.tail _ hs)
    simp only [List.map_cons, List.sum_cons, List.length_cons, Nat.succ_mul]
    omega
theorem joinB_small {sep : ByteArray} {l : List ByteArray} (hsep : sep.size ≤ 4) (hn : l.length ≤ 4194304) (hs : ∀ s ∈ l, s.size ≤ 4194304) : (joinB sep l).size ≤ 35184372088832 := by
  have h1 := joinB_size sep l
  have h2 := sum_small hs
  have h3 : l.length * 4194304 ≤ 4194304 * 4194304 := Nat.mul_le_mul_right _ hn
  have h4 : sep.size * l.length ≤ 4 * 4194304 := Nat.mul_le_mul hsep hn
  omega
/-! spec.shapeText -/
def L37_0 : List AStep := [⟨.box 27 (.t 0), (some 1), none, []⟩, ⟨.mov (.c (.str (strOfNums []))), (some 2), none, []⟩]
theorem v37_0 : VS L37_0.eq_1 := rfl
def L37_1 : List AStep := [⟨.call 68 [(.t 6)], (some 7), none, []⟩, ⟨.mov (.t 7), (some 3), none, []⟩]
theorem v37_1 : VS L37_1.eq_1 := rfl
def L37_2 : List AStep := ⟨.faddr 0 (.t 1), (some 5), none, []⟩ :: ⟨.load 1 false (.t 5), (some 6), none, []⟩ :: L37_1
theorem v37_2 : VS L37_2.eq_1 := rfl
def L37_3 : List AStep := [⟨.mov (.c (.int .i64 0)), (some 4), none, []⟩]
theorem v37_3 : VS L37_3.eq_1 := rfl
def L37_4 : List AStep := [⟨.bin .lss (.t 8) (.t 11), (some 12), none, []⟩]
theorem v37_4 : VS L37_4.eq_1 := rfl
def L37_5 : List AStep := ⟨.load 1 false (.t 9), (some 10), none, []⟩ :: ⟨.len (.t 10), (some 11), none, []⟩ :: L37_4
theorem v37_5 : VS L37_5.eq_1 := rfl
def L37_6 : List AStep := ⟨.mov (.t 4), (some 8), none, []⟩ :: ⟨.faddr 1 (.t 1), (some 9), none, []⟩ :: L37_5
theorem v37_6 : VS L37_6.eq_1 := rfl
def L37_7 : List AStep := [⟨.mov (.t 22), (some 3), none, []⟩]
theorem v37_7 : VS L37_7.eq_1 := rfl
def L37_8 : List AStep := ⟨.load 1 false (.t 20), (some 21), none, []⟩ :: ⟨.bin .add (.t 16) (.t 21), (some 22), none, []⟩ :: L37_7
theorem v37_8 : VS L37_8.eq_1 := rfl
def L37_9 : List AStep := ⟨.mov (.t 4), (some 19), none, []⟩ :: ⟨.iaddr 1 (.t 18) (.t 19), (some 20), none, []⟩ :: L37_8
theorem v37_9 : VS L37_9.eq_1 := rfl
def L37_10 : List AStep := ⟨.faddr 1 (.t 1), (some 17), none, []⟩ :: ⟨.load 1 false (.t 17), (some 18), none, []⟩ :: L37_9
theorem v37_10 : VS L37_10.eq_1 := rfl
def L37_11 : List AStep := ⟨.mov (.t 3), (some 15), none, []⟩ :: ⟨.bin .add (.t 15) (.c (.str (strOfNums [32]))), (some 16), none, []⟩ :: L37_10
theorem v37_11 : VS L37_11.eq_1 := rfl
def L37_12 : List AStep := [⟨.mov (.t 14), (some 4), none, []⟩]
theorem v37_12 : VS L37_12.eq_1 := rfl
def L37_13 : List AStep := ⟨.mov (.t 4), (some 13), none, []⟩ :: ⟨.bin .add (.t 13) (.c (.int .i64 1)), (some 14), none, []⟩ :: L37_12
theorem v37_13 : VS L37_13.eq_1 := rfl
def L37_14 : List AStep := [⟨.mov (.t 3), (some 23), none, []⟩, ⟨.mov (.t 23), (some 2), none, []⟩]
theorem v37_14 : VS L37_14.eq_1 := rfl
def C37_0 : ACode := .cond (.t 12) .skip (.exit 0)
theorem u37_0 : VC C37_0.eq_1 := rfl
def C37_1 : ACode := .seq (.reg L37_6) C37_0
theorem u37_1 : VC C37_1.eq_1 := rfl
def C37_2 : ACode := .block 1 (.reg L37_11)
theorem u37_2 : VC C37_2.eq_1 := rfl
def C37_3 : ACode := .seq C37_2 (.reg L37_13)
theorem u37_3 : VC C37_3.eq_1 := rfl
def C37_4 : ACode := .seq C37_1 C37_3
theorem u37_4 : VC C37_4.eq_1 := rfl
def C37_5 : ACode := .block 0 (.loop C37_4)
theorem u37_5 : VC C37_5.eq_1 := rfl
def C37_6 : ACode := .seq (.reg L37_3) C37_5
theorem u37_6 : VC C37_6.eq_1 := rfl
def C37_7 : ACode := .seq (.reg L37_14) .ret
theorem u37_7 : VC C37_7.eq_1 := rfl
def C37_8 : ACode := .seq C37_6 C37_7
theorem u37_8 : VC C37_8.eq_1 := rfl
def C37_9 : ACode := .seq (.reg L37_2) C37_8
theorem u37_9 : VC C37_9.eq_1 := rfl
def C37_10 : ACode := .seq (.reg L37_0) C37_9
theorem u37_10 : VC C37_10.eq_1 := rfl
def F37 : AFunc := ⟨24, [.tmp 2], C37_10⟩
theorem cF37 : compB Tryd.prog 37 = some F37 := by kernel_rfl
attribute [local go_sem ↓] u37_0 u37_1 u37_2 u37_3 u37_4 u37_5 u37_6 u37_7 u37_8 u37_9 u37_10 v37_0 v37_1 v37_2 v37_3 v37_4 v37_5 v37_6 v37_7 v37_8 v37_9 v37_10 v37_11 v37_12 v37_13 v37_14
theorem c_shapeText (x : Shape) (c p : CV) (h : H) (a : SlX h c p x) (m : miniX x) (ok : okShape x = true) : bm Tryd.prog 37 [.agg [c, p]] h = some (.one (.str (joinB (strOfNums [32]) (numB x.count :: x.names))), h) := by
  refine bm_eq cF37 ?_
  obtain rfl := a.c
  have hl := a.out
  have hn := m.len
  have hcnt : 0 ≤ x.count ∧ x.count ≤ 8 := by
    unfold okShape at ok
    simp only [Bool.and_eq_true, decide_eq_true_iff] at ok
    exact ok.2.1
  have hsm : ∀ i, (joinB (strOfNums [32]) (numB x.count :: x.names.take i)).size ≤ 35184372088832 := fun i => joinB_small (by rw [strOfNums_size]; decide) (by simp; omega) fun s hs => by
    rcases List.mem_cons.1 hs with rfl | hs
    · have := numB_size x.count; omega
    · have := m.nm s (List.mem_of_mem_take hs); omega
  simp +contextual (maxSteps := 2000000) only [go_sem, Nat.reduceEqDiff, reduceCtorEq, Nat.reduceAdd, Nat.reduceLeDiff, F37, c_number x.count (by omega) (by omega)]
  refine wpC_loop (fun i T L h' => h' = h ∧ T 1 = .lp 1 0 ∧ (L 1).2 = [.int .i64 x.count, p] ∧ T 4 = .v (.one (.int .i64 i)) ∧ T 3 = .v (.one (.str (joinB (strOfNums [32]) (numB x.count :: x.names.take i))))) x.names.length ?_ ?_ (Nat.zero_le _) ?_
  · rintro i T L h' hi ⟨rfl, t1, l1, t4, t3⟩
    have hs := hsm i
    have hx := m.nm _ (List.getElem_mem hi)
    have e1 := str_add (s := joinB (strOfNums [32]) (numB x.count :: x.names.take i)) (t := strOfNums [32]) (by rw [strOfNums_size]; simp; omega)
    have e2 := str_add (s := joinB (strOfNums [32]) (numB x.count :: x.names.take i) ++ strOfNums [32]) (t := x.names[i]) (by rw [ByteArray.size_append, strOfNums_size]; simp; omega)
    rw [← joinB_step _ _ _ _ hi] at e2
    simp +contextual (maxSteps := 2000000) only [go_sem, Nat.reduceEqDiff, reduceCtorEq, Nat.reduceAdd, Nat.reduceLeDiff, t1, l1, t3, t4, hl.len, hl.iaddr hi, hl.oneO hi, lt_true hi, e1, e2]
    rw [wrap_next hi (by omega)]
  · rintro T L h' ⟨rfl, t1, l1, t4, t3⟩
    rw [List.take_length] at t3
    simp +contextual (maxSteps := 2000000) only [go_sem, Nat.reduceEqDiff, reduceCtorEq, Nat.reduceAdd, Nat.reduceLeDiff, t1, l1, t3, t4, hl.len, lt_false]
  · simp +contextual (maxSteps := 2000000) only [go_sem, Nat.reduceEqDiff, reduceCtorEq, Nat.reduceAdd, Nat.reduceLeDiff]
    exact ⟨rfl, rfl⟩
def shT (x : Shape) : ByteArray := if okShape x = true then joinB (strOfNums [32]) (numB x.count :: x.names) else strOfNums []
/-! spec.ShapeText -/
def L10_0 : List AStep := [⟨.box 27 (.t 0), (some 1), none, []⟩, ⟨.mov (.c (.str (strOfNums []))), (some 2), none, []⟩]
theorem v10_0 : VS L10_0.eq_1 := rfl
def L10_1 : List AStep := [⟨.not (.t 4), (some 5), none, []⟩]
theorem v10_1 : VS L10_1.eq_1 := rfl
def L10_2 : List AStep := ⟨.load 2 true (.t 1), (some 3), none, []⟩ :: ⟨.call 36 [(.t 3)], (some 4), none, []⟩ :: L10_1
theorem v10_2 : VS L10_2.eq_1 := rfl
def L10_3 : List AStep := [⟨.mov (.c (.str (strOfNums []))), (some 2), none, []⟩]
theorem v10_3 : VS L10_3.eq_1 := rfl
def L10_4 : List AStep := [⟨.mov (.t 7), (some 2), none, []⟩]
theorem v10_4 : VS L10_4.eq_1 := rfl
def L10_5 : List AStep := ⟨.load 2 true (.t 1), (some 6), none, []⟩ :: ⟨.call 37 [(.t 6)], (some 7), none, []⟩ :: L10_4
theorem v10_5 : VS L10_5.eq_1 := rfl
def C10_0 : ACode := .seq (.reg L10_3) .ret
theorem u10_0 : VC C10_0.eq_1 := rfl
def C10_1 : ACode := .cond (.t 5) C10_0 .skip
theorem u10_1 : VC C10_1.eq_1 := rfl
def C10_2 : ACode := .seq (.reg L10_2) C10_1
theorem u10_2 : VC C10_2.eq_1 := rfl
def C10_3 : ACode := .seq (.reg L10_5) .ret
theorem u10_3 : VC C10_3.eq_1 := rfl
def C10_4 : ACode := .seq C10_2 C10_3
theorem u10_4 : VC C10_4.eq_1 := rfl
def C10_5 : ACode := .seq (.reg L10_0) C10_4
theorem u10_5 : VC C10_5.eq_1 := rfl
def F10 : AFunc := ⟨8, [.tmp 2], C10_5⟩
theorem cF10 : compB Tryd.prog 10 = some F10 := by kernel_rfl
attribute [local go_sem ↓] u10_0 u10_1 u10_2 u10_3 u10_4 u10_5 v10_0 v10_1 v10_2 v10_3 v10_4 v10_5
theorem k_sShapeText (x : Shape) (c p : CV) (h : H) (a : SlX h c p x) (m : miniX x) : bm Tryd.prog 10 [.agg [c, p]] h = some (.one (.str (shT x)), h) := by
  refine bm_eq cF10 ?_
  have ev := c_validShape x c p h a m
  unfold shT
  cases ok : okShape x with
  | false =>
    rw [ok] at ev
    simp +contextual (maxSteps := 2000000) only [go_sem, Nat.reduceEqDiff, reduceCtorEq, Nat.reduceAdd, Nat.reduceLeDiff, F10, ev]
  | true =>
    rw [ok] at ev
    simp +contextual (maxSteps := 2000000) only [go_sem, Nat.reduceEqDiff, reduceCtorEq, Nat.reduceAdd, Nat.reduceLeDiff, F10, ev, c_shapeText x c p h a m ok]
/-! impl.ShapeText -/
def L12_0 : List AStep := [⟨.box 27 (.t 0), (some 1), none, []⟩, ⟨.mov (.c (.str (strOfNums []))), (some 2), none, []⟩]
theorem v12_0 : VS L12_0.eq_1 := rfl
def L12_1 : List AStep := [⟨.not (.t 4), (some 5), none, []⟩]
theorem v12_1 : VS L12_1.eq_1 := rfl
def L12_2 : List AStep := ⟨.load 2 true (.t 1), (some 3), none, []⟩ :: ⟨.call 39 [(.t 3)], (some 4), none, []⟩ :: L12_1
theorem v12_2 : VS L12_2.eq_1 := rfl
def L12_3 : List AStep := [⟨.mov (.c (.str (strOfNums []))), (some 2), none, []⟩]
theorem v12_3 : VS L12_3.eq_1 := rfl
def L12_4 : List AStep := [⟨.call 40 [(.t 13), (.c (.str (strOfNums [32])))], (some 14), none, []⟩, ⟨.mov (.t 14), (some 2), none, []⟩]
theorem v12_4 : VS L12_4.eq_1 := rfl
def L12_5 : List AStep := ⟨.buildSlice 22 2 [(.sl none 0 (some 0))] [(0, 1, (.t 9)), (1, 1, (.t 11))], (some 12), none, []⟩ :: ⟨.call 41 [(.t 12)], (some 13), none, []⟩ :: L12_4
theorem v12_5 : VS L12_5.eq_1 := rfl
def L12_6 : List AStep := ⟨.call 42 [(.t 7)], (some 8), none, [(.load 1 false (.t 10), (some 11), none)]⟩ :: ⟨.buildSlice 9 1 [(.str (strOfNums []))] [(0, 1, (.t 8))], (some 9), none, []⟩ :: L12_5
theorem v12_6 : VS L12_6.eq_1 := rfl
def L12_7 : List AStep := ⟨.faddr 1 (.t 1), (some 10), none, []⟩ :: ⟨.load 1 false (.t 10), (some 11), none, []⟩ :: L12_6
theorem v12_7 : VS L12_7.eq_1 := rfl
def L12_8 : List AStep := ⟨.faddr 0 (.t 1), (some 6), none, []⟩ :: ⟨.load 1 false (.t 6), (some 7), none, []⟩ :: L12_7
theorem v12_8 : VS L12_8.eq_1 := rfl
def C12_0 : ACode := .seq (.reg L12_3) .ret
theorem u12_0 : VC C12_0.eq_1 := rfl
def C12_1 : ACode := .cond (.t 5) C12_0 .skip
theorem u12_1 : VC C12_1.eq_1 := rfl
def C12_2 : ACode := .seq (.reg L12_2) C12_1
theorem u12_2 : VC C12_2.eq_1 := rfl
def C12_3 : ACode := .seq (.reg L12_8) .ret
theorem u12_3 : VC C12_3.eq_1 := rfl
def C12_4 : ACode := .seq C12_2 C12_3
theorem u12_4 : VC C12_4.eq_1 := rfl
def C12_5 : ACode := .seq (.reg L12_0) C12_4
theorem u12_5 : VC C12_5.eq_1 := rfl
def F12 : AFunc := ⟨15, [.tmp 2], C12_5⟩
theorem cF12 : compB Tryd.prog 12 = some F12 := by kernel_rfl
attribute [local go_sem ↓] u12_0 u12_1 u12_2 u12_3 u12_4 u12_5 v12_0 v12_1 v12_2 v12_3 v12_4 v12_5 v12_6 v12_7 v12_8
theorem k_iShapeText (x : Shape) (c p : CV) (h : H) (a : SlX h c p x) (m : miniX x) : callK (bm Tryd.prog 12 [.agg [c, p]] h) fun r h' => Grow h h' ∧ r = .one (.str (shT x)) := by
  refine bm_of cF12 ?_
  have ev := c_ValidShape x c p h a m
  unfold shT
  cases ok : okShape x with
  | false =>
    rw [ok] at ev
    simp +contextual (maxSteps := 2000000) only [go_sem, Nat.reduceEqDiff, reduceCtorEq, Nat.reduceAdd, Nat.reduceLeDiff, F12, ev]
    try exact Grow.refl h
  | true =>
    rw [ok] at ev
    have hcnt : 0 ≤ x.count ∧ x.count ≤ 8 := by
      unfold okShape at ok
      simp only [Bool.and_eq_true, decide_eq_true_iff] at ok
      exact ok.2.1
    have hn := m.len
    obtain rfl := a.c
    have hsm : (joinB (strOfNums [32]) (numB x.count :: x.names)).size ≤ 35184372088832 := joinB_small (by rw [strOfNums_size]; decide) (by simp; omega) fun s hs => by
      rcases List.mem_cons.1 hs with rfl | hs
      · have := numB_size x.count; omega
      · have := m.nm s hs; omega
    simp +contextual (maxSteps := 2000000) only [go_sem, Nat.reduceEqDiff, reduceCtorEq, Nat.reduceAdd, Nat.reduceLeDiff, F12, ev, c_itoa x.count (by omega) (by omega)]
    refine wp_lit (enc := encS) (k := 1) (l := [numB x.count]) rfl rfl ?_
    intro h1 w1 g1 n1 _
    obtain ⟨c1, rfl⟩ := n1.one
    simp +contextual (maxSteps := 2000000) only [go_sem, Nat.reduceEqDiff, reduceCtorEq, Nat.reduceAdd, Nat.reduceLeDiff]
    refine wp_lit (enc := fun c : CV => [c]) (k := 1) (l := [c1, p]) rfl rfl ?_
    intro h2 w2 g2 n2 _
    have s1 := (n1.sl lenS).grow g2
    have s2 := (a.out.grow g1).grow g2
    simp +contextual (maxSteps := 2000000) only [go_sem, Nat.reduceEqDiff, reduceCtorEq, Nat.reduceAdd, Nat.reduceLeDiff]
    refine wp_call (c_concatS [[numB x.count], x.names] [c1, p] w2 h2 (n2.sl fun _ => rfl) rfl (fun i hi hj => ?_) (by simp; unfold big; omega) (show 2 ≤ big by decide)) ?_
    · match i, hi, hj with
      | 0, _, _ => exact s1
      | 1, _, _ => exact s2
    rintro r h3 ⟨g3, n3⟩
    have e3 : [[numB x.count], x.names].flatten = numB x.count :: x.names := by simp
    rw [e3] at n3
    simp +contextual (maxSteps := 2000000) only [go_sem, Nat.reduceEqDiff, reduceCtorEq, Nat.reduceAdd, Nat.reduceLeDiff, c_join r (strOfNums [32]) _ h3 (n3.sl lenS) (by omega) (by simp; omega)]
    exact gcK_of ⟨(g1.trans g2).trans g3, rfl⟩ (fun _ _ => ⟨Grow.refl h, rfl⟩)
end Go.Proofs.YtoeceafibmafpaaDoor.Am
