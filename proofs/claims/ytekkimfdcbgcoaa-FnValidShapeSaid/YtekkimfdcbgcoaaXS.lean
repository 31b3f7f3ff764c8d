/- Contracts: shapes, of both sides. -/
import Derived.Test.YtekkimfdcbgcoaaK2
import Derived.Test.YtekkimfdcbgcoaaL2
import Derived.Test.YtekkimfdcbgcoaaBK
import Derived.Test.YtekkimfdcbgcoaaB1
import Derived.Test.YtekkimfdcbgcoaaSD
namespace Go.Proofs.Ytekkimfdcbgcoaa.Am
open Go
set_option maxRecDepth 100000
set_option maxHeartbeats 4000000
set_option linter.unusedSimpArgs false
set_option linter.unusedVariables false
attribute [local go_sem ↓] bv_t bv_c ev_t ev_c put_same put_ne put_none kill_at pro_at lb_same lb_ne start_zero start_succ wpC_seq wpC_reg wpC_cond wpC_block wpC_skip wpC_exit wpC_ret thenQ_normal thenQ_exit thenQ_ret inBlk_normal inBlk_exit inBlk_ret wpS_nil wpS_step wpS_again wpS_guard wpO_mov wpO_load wpO_faddr wpO_nilCheck wpO_pick wpO_build wpO_bin wpO_eqb wpO_eqst wpO_eqnil wpO_not wpO_conv wpO_bytesStr wpO_iaddr wpO_idxStr wpO_field wpO_extract wpO_len wpO_lenStr wpO_cap wpO_min wpO_slice wpO_sliceStr wpO_alloc wpO_box wpO_store wpO_call wpO_callv wpO_mkfn wpO_buildSlice wpO_mkslice wpO_append wpO_appz proA_nil proA_cons tmpX_nil tmpX_tmp tmpX_cell doneB_normal doneB_ret agK_cons agK_nil agK_guard agG_tt agG_ff agG_tf agG_ft agG_undef pureB_load results_one results_two results_nil resBs_cons resBs_nil resB_tmp resB_cell
attribute [local go_sem] kill_v kill_lp_ne kill_lp_same pro_v pro_lp_same pro_lp_ne av_v av_lp optB_some optX_some valX_eq ldX_lp ldX_v faX_lp faX_v ncX_lp ncX_ptr ncX_fn boxK_one boxK_agg stL_some stK_lp_one stK_lp_agg stK_v_one stK_v_agg proM_v proM_lp callG_mk callVG_mk callvK_fn fnG_mk ptrsA_nil ptrsA_cons callH_some whenA_true whenA_false guardH_tt guardH_ff guardH_tf guardH_ft guardH_undef agV_one agV_agg lenO_sl lenStrO_str notO_bool pickO_bool convO_int eqbO_bool eqnilO_sl extractO_tup capO_sl minO_int loadL_one loadL_all storeL_eq fillA_nil fillA_one fillA_agg nat_ge neg_ge nat_lt neg_lt buildO bin_add bin_sub bin_mul bin_eql bin_neq bin_lss bin_leq bin_gtr bin_geq str_eql str_neq str_lss str_leq str_gtr str_geq retK_some endK_mk gcK_same gcK_int gcK_bool tupO_one tupO_agg rdy_self ib ii Option.map_none Option.map_some Option.some.injEq exists_eq_left' exists_eq_left ne_eq not_false_eq_true if_true if_false List.map_cons List.map_nil List.getElem?_cons_zero List.getElem?_cons_succ List.length_cons List.length_nil List.take_succ_cons List.take_zero List.take_nil List.drop_succ_cons List.drop_zero List.drop_nil List.cons_append List.nil_append List.append_nil List.set_cons_zero List.set_cons_succ Nat.zero_add forall_const true_and and_true and_self Bool.false_eq_true false_implies true_implies implies_true Bool.not_true Bool.not_false Bool.not_eq_true' Bool.not_eq_false' beq_self_eq_true Bool.bne_true Bool.bne_false
attribute [local go_sem] lenI lenS lenP lenQ lenB lenL lenT encI_0 encS_0 encP_0 encP_1 encQ_0 encQ_1 encQ_2 encQ_3 encB_0 encB_1 encL_0 encL_1 encT_0 encT_1
attribute [local go_sem low] whenA_bool guardH_bool
def stepN (l : List ByteArray) (i : Nat) : Bool :=
  match l[i]? with
  | some s => okName s && (match i with | 0 => true | j + 1 => match l[j]? with | some a => sLess a s | none => true)
  | none => true
theorem stepN_zero {l : List ByteArray} (hi : 0 < l.length) : stepN l 0 = okName l[0] := by
  unfold stepN
  rw [List.getElem?_eq_getElem hi]
  simp
theorem stepN_succ {l : List ByteArray} {j : Nat} (hi : j + 1 < l.length) : stepN l (j + 1) = (okName l[j + 1] && sLess (l[j]'(by omega)) l[j + 1]) := by
  unfold stepN
  simp only [List.getElem?_eq_getElem hi, List.getElem?_eq_getElem (show j < l.length by omega)]
def okNames (l : List ByteArray) : Bool := (List.range l.length).all (stepN l)
theorem okNames_not {l : List ByteArray} {i : Nat} (hi : i < l.length) (h : stepN l i = false) : okNames l = false := List.all_eq_false.2 ⟨i, List.mem_range.2 hi, by simp [h]⟩
def okShape (x : Shape) : Bool := okNames x.names && ((decide (0 ≤ x.count) && decide (x.count ≤ 8)) && decide ((x.names.length : Int) ≤ 8))
theorem leq_not {s a : ByteArray} : (sLess s a || decide (s = a)) = !(sLess a s) := by
  cases h : sLess a s with
  | true =>
    have h1 := sLess_asymm h
    have h2 : decide (s = a) = false := decide_eq_false fun e => by
      subst e
      rw [sLess_irrefl] at h
      exact absurd h (by decide)
    rw [h1, h2]; rfl
  | false =>
    cases h1 : sLess s a with
    | true => rfl
    | false => rw [decide_eq_true (sLess_tri h1 h)]; rfl
def zeroP (s : ByteArray) : Pair := ⟨s, 0⟩
def flatS (x : Shape) : Flat := ⟨List.replicate x.count.toNat 0, x.names.map zeroP⟩
theorem okNames_at {l : List ByteArray} (h : okNames l = true) {i : Nat} (hi : i < l.length) : stepN l i = true := List.all_eq_true.1 h i (List.mem_range.2 hi)
theorem okNames_name {l : List ByteArray} (h : okNames l = true) {i : Nat} (hi : i < l.length) : okName l[i] = true := by
  have := okNames_at h hi
  cases i with
  | zero => rwa [stepN_zero hi] at this
  | succ j => rw [stepN_succ hi, Bool.and_eq_true] at this; exact this.1
theorem okNames_up {l : List ByteArray} (h : okNames l = true) : ∀ {i j : Nat} (hj : j < l.length) (hij : i < j), sLess (l[i]'(by omega)) l[j] = true := by
  intro i j hj hij
  induction j with
  | zero => omega
  | succ j ih =>
    have h1 := okNames_at h hj
    rw [stepN_succ hj, Bool.and_eq_true] at h1
    by_cases e : i = j
    · subst e; exact h1.2
    · exact sLess_trans (ih (by omega) (by omega)) h1.2
theorem okShape_flat {x : Shape} (h : okShape x = true) : okFlat (flatS x) = true := by
  unfold okShape at h
  simp only [Bool.and_eq_true, decide_eq_true_iff] at h
  obtain ⟨h1, ⟨h2, h3⟩, h4⟩ := h
  unfold okFlat flatS
  simp only [Bool.and_eq_true, decide_eq_true_iff, List.length_map, List.length_replicate]
  refine ⟨?_, ?_, ?_, by omega, h4⟩
  · unfold apart
    rw [List.all_eq_true]
    intro i hi
    have hi := List.mem_range.1 hi
    have hi2 : i < x.names.length := by simpa using hi
    unfold newAt
    rw [List.getElem?_eq_getElem hi]
    simp only [List.all_eq_true, Bool.not_eq_true', decide_eq_false_iff_not]
    intro y hy e
    rw [List.mem_take_iff_getElem] at hy
    obtain ⟨j, hj, rfl⟩ := hy
    simp only [List.getElem_map, zeroP] at e
    have := okNames_up h1 hi2 (show j < i by omega)
    rw [e, sLess_irrefl] at this
    exact absurd this (by decide)
  · rw [List.all_eq_true]
    intro y hy
    rw [List.eq_of_mem_replicate hy]
    rfl
  · rw [List.all_eq_true]
    intro y hy
    obtain ⟨s, hs, rfl⟩ := List.mem_map.1 hy
    obtain ⟨i, hi, rfl⟩ := List.getElem_of_mem hs
    unfold okPair zeroP
    rw [okNames_name h1 hi]
    rfl
/-! ### the kind of shapes -/
structure NwX (h0 h : H) (c p : CV) (x : Shape) : Prop where
  c : c = .int .i64 x.count
  out : NwS h0 h (.one p) x.names
structure SlX (h : H) (c p : CV) (x : Shape) : Prop where
  c : c = .int .i64 x.count
  out : SlS h (.one p) x.names
theorem NwX.sl {h0 h : H} {c p : CV} {x : Shape} (a : NwX h0 h c p x) : SlX h c p x := ⟨a.c, a.out.sl lenS⟩
theorem NwX.grow {h0 h h1 : H} {c p : CV} {x : Shape} (a : NwX h0 h c p x) (g : Grow h h1) : NwX h0 h1 c p x := ⟨a.c, a.out.grow g⟩
theorem SlX.grow {h h1 : H} {c p : CV} {x : Shape} (a : SlX h c p x) (g : Grow h h1) : SlX h1 c p x := ⟨a.c, a.out.grow g⟩
structure miniX (x : Shape) : Prop where
  len : x.names.length ≤ 1048576
  nm : ∀ s ∈ x.names, s.size ≤ 1048576
def wtX (x : Shape) : Nat := wtL wtS x.names
theorem wtX_sm {x : Shape} (h : wtX x ≤ 1048576) : miniX x := by
  unfold wtX wtL at h
  exact ⟨by omega, fun s hs => by have := wsum_mem (f := wtS) hs; unfold wtS at this h; omega⟩
structure DomX (h : H) (c p : CV) (x : Shape) : Prop where
  c : c = .int .i64 x.count
  rd : ∃ ty, Sl encS 1 ty h (.one p) x.names
  k0 : x.names.length ≤ far
  nm : ∀ s ∈ x.names, s.size ≤ far
theorem DomX.grow {h h1 : H} {c p : CV} {x : Shape} (d : DomX h c p x) (g : Grow h h1) : DomX h1 c p x := ⟨d.c, d.rd.imp fun _ y => y.grow g, d.k0, d.nm⟩
/-! spec.validShape -/
def L88_0 : List AStep := [⟨.box 67 (.t 0), (some 1), none, []⟩, ⟨.mov (.c (.bool false)), (some 2), none, []⟩]
theorem v88_0 : VS L88_0.eq_1 := rfl
def L88_1 : List AStep := [⟨.mov (.c (.int .i64 0)), (some 3), none, []⟩]
theorem v88_1 : VS L88_1.eq_1 := rfl
def L88_2 : List AStep := [⟨.bin .lss (.t 4) (.t 7), (some 8), none, []⟩]
theorem v88_2 : VS L88_2.eq_1 := rfl
def L88_3 : List AStep := ⟨.load 1 false (.t 5), (some 6), none, []⟩ :: ⟨.len (.t 6), (some 7), none, []⟩ :: L88_2
theorem v88_3 : VS L88_3.eq_1 := rfl
def L88_4 : List AStep := ⟨.mov (.t 3), (some 4), none, []⟩ :: ⟨.faddr 1 (.t 1), (some 5), none, []⟩ :: L88_3
theorem v88_4 : VS L88_4.eq_1 := rfl
def L88_5 : List AStep := [⟨.pick (.t 18) (.c (.bool true)) (.t 34), (some 35), none, []⟩]
theorem v88_5 : VS L88_5.eq_1 := rfl
def L88_6 : List AStep := ⟨.bin .leq (.t 26) (.t 32), (some 33), (some (21, true)), []⟩ :: ⟨.pick (.t 21) (.t 33) (.c (.bool false)), (some 34), (some (18, false)), []⟩ :: L88_5
theorem v88_6 : VS L88_6.eq_1 := rfl
def L88_7 : List AStep := ⟨.iaddr 1 (.t 28) (.t 30), (some 31), (some (21, true)), []⟩ :: ⟨.load 1 false (.t 31), (some 32), (some (21, true)), []⟩ :: L88_6
theorem v88_7 : VS L88_7.eq_1 := rfl
def L88_8 : List AStep := ⟨.mov (.t 3), (some 29), (some (21, true)), []⟩ :: ⟨.bin .sub (.t 29) (.c (.int .i64 1)), (some 30), (some (21, true)), []⟩ :: L88_7
theorem v88_8 : VS L88_8.eq_1 := rfl
def L88_9 : List AStep := ⟨.faddr 1 (.t 1), (some 27), (some (21, true)), []⟩ :: ⟨.load 1 false (.t 27), (some 28), (some (21, true)), []⟩ :: L88_8
theorem v88_9 : VS L88_9.eq_1 := rfl
def L88_10 : List AStep := ⟨.iaddr 1 (.t 23) (.t 24), (some 25), (some (21, true)), []⟩ :: ⟨.load 1 false (.t 25), (some 26), (some (21, true)), []⟩ :: L88_9
theorem v88_10 : VS L88_10.eq_1 := rfl
def L88_11 : List AStep := ⟨.load 1 false (.t 22), (some 23), (some (21, true)), []⟩ :: ⟨.mov (.t 3), (some 24), (some (21, true)), []⟩ :: L88_10
theorem v88_11 : VS L88_11.eq_1 := rfl
def L88_12 : List AStep := ⟨.mov (.t 20), (some 21), (some (18, false)), []⟩ :: ⟨.faddr 1 (.t 1), (some 22), (some (21, true)), []⟩ :: L88_11
theorem v88_12 : VS L88_12.eq_1 := rfl
def L88_13 : List AStep := ⟨.mov (.t 3), (some 19), (some (18, false)), []⟩ :: ⟨.bin .gtr (.t 19) (.c (.int .i64 0)), (some 20), (some (18, false)), []⟩ :: L88_12
theorem v88_13 : VS L88_13.eq_1 := rfl
def L88_14 : List AStep := ⟨.not (.t 16), (some 17), none, []⟩ :: ⟨.mov (.t 17), (some 18), none, []⟩ :: L88_13
theorem v88_14 : VS L88_14.eq_1 := rfl
def L88_15 : List AStep := ⟨.load 1 false (.t 14), (some 15), none, []⟩ :: ⟨.call 112 [(.t 15)], (some 16), none, []⟩ :: L88_14
theorem v88_15 : VS L88_15.eq_1 := rfl
def L88_16 : List AStep := ⟨.mov (.t 3), (some 13), none, []⟩ :: ⟨.iaddr 1 (.t 12) (.t 13), (some 14), none, []⟩ :: L88_15
theorem v88_16 : VS L88_16.eq_1 := rfl
def L88_17 : List AStep := ⟨.faddr 1 (.t 1), (some 11), none, []⟩ :: ⟨.load 1 false (.t 11), (some 12), none, []⟩ :: L88_16
theorem v88_17 : VS L88_17.eq_1 := rfl
def L88_18 : List AStep := [⟨.mov (.c (.bool false)), (some 2), none, []⟩]
theorem v88_18 : VS L88_18.eq_1 := rfl
def L88_19 : List AStep := [⟨.mov (.t 10), (some 3), none, []⟩]
theorem v88_19 : VS L88_19.eq_1 := rfl
def L88_20 : List AStep := ⟨.mov (.t 3), (some 9), none, []⟩ :: ⟨.bin .add (.t 9) (.c (.int .i64 1)), (some 10), none, []⟩ :: L88_19
theorem v88_20 : VS L88_20.eq_1 := rfl
def L88_21 : List AStep := [⟨.pick (.t 39) (.t 43) (.c (.bool false)), (some 44), none, []⟩, ⟨.mov (.t 44), (some 2), none, []⟩]
theorem v88_21 : VS L88_21.eq_1 := rfl
def L88_22 : List AStep := ⟨.len (.t 41), (some 42), (some (39, true)), []⟩ :: ⟨.bin .leq (.t 42) (.c (.int .i64 8)), (some 43), (some (39, true)), []⟩ :: L88_21
theorem v88_22 : VS L88_22.eq_1 := rfl
def L88_23 : List AStep := ⟨.faddr 1 (.t 1), (some 40), (some (39, true)), []⟩ :: ⟨.load 1 false (.t 40), (some 41), (some (39, true)), []⟩ :: L88_22
theorem v88_23 : VS L88_23.eq_1 := rfl
def L88_24 : List AStep := ⟨.call 134 [(.t 37), (.c (.int .i64 0)), (.c (.int .i64 8))], (some 38), none, []⟩ :: ⟨.mov (.t 38), (some 39), none, []⟩ :: L88_23
theorem v88_24 : VS L88_24.eq_1 := rfl
def L88_25 : List AStep := ⟨.faddr 0 (.t 1), (some 36), none, []⟩ :: ⟨.load 1 false (.t 36), (some 37), none, []⟩ :: L88_24
theorem v88_25 : VS L88_25.eq_1 := rfl
def C88_0 : ACode := .cond (.t 8) .skip (.exit 0)
theorem u88_0 : VC C88_0.eq_1 := rfl
def C88_1 : ACode := .seq (.reg L88_4) C88_0
theorem u88_1 : VC C88_1.eq_1 := rfl
def C88_2 : ACode := .seq (.reg L88_18) .ret
theorem u88_2 : VC C88_2.eq_1 := rfl
def C88_3 : ACode := .cond (.t 35) C88_2 .skip
theorem u88_3 : VC C88_3.eq_1 := rfl
def C88_4 : ACode := .seq (.reg L88_17) C88_3
theorem u88_4 : VC C88_4.eq_1 := rfl
def C88_5 : ACode := .block 1 C88_4
theorem u88_5 : VC C88_5.eq_1 := rfl
def C88_6 : ACode := .seq C88_5 (.reg L88_20)
theorem u88_6 : VC C88_6.eq_1 := rfl
def C88_7 : ACode := .seq C88_1 C88_6
theorem u88_7 : VC C88_7.eq_1 := rfl
def C88_8 : ACode := .block 0 (.loop C88_7)
theorem u88_8 : VC C88_8.eq_1 := rfl
def C88_9 : ACode := .seq (.reg L88_1) C88_8
theorem u88_9 : VC C88_9.eq_1 := rfl
def C88_10 : ACode := .seq (.reg L88_25) .ret
theorem u88_10 : VC C88_10.eq_1 := rfl
def C88_11 : ACode := .seq C88_9 C88_10
theorem u88_11 : VC C88_11.eq_1 := rfl
def C88_12 : ACode := .seq (.reg L88_0) C88_11
theorem u88_12 : VC C88_12.eq_1 := rfl
def F88 : AFunc := ⟨45, [.tmp 2], C88_12⟩
theorem cF88 : compB Try.prog 88 = some F88 := by kernel_rfl
attribute [local go_sem ↓] u88_0 u88_1 u88_2 u88_3 u88_4 u88_5 u88_6 u88_7 u88_8 u88_9 u88_10 u88_11 u88_12 v88_0 v88_1 v88_2 v88_3 v88_4 v88_5 v88_6 v88_7 v88_8 v88_9 v88_10 v88_11 v88_12 v88_13 v88_14 v88_15 v88_16 v88_17 v88_18 v88_19 v88_20 v88_21 v88_22 v88_23 v88_24 v88_25
theorem c_validShape (x : Shape) (c p : CV) (h : H) (a : SlX h c p x) (m : miniX x) : bm Try.prog 88 [.agg [c, p]] h = some (ib (okShape x), h) := by
  refine bm_eq cF88 ?_
  obtain rfl := a.c
  have hl := a.out
  have hn := m.len
  unfold okShape
  simp +contextual (maxSteps := 2000000) only [go_sem, Nat.reduceEqDiff, reduceCtorEq, Nat.reduceAdd, Nat.reduceLeDiff, F88]
  refine wpC_loop (fun i T L h' => h' = h ∧ T 1 = .lp 1 0 ∧ (L 1).2 = [.int .i64 x.count, p] ∧ T 3 = .v (.one (.int .i64 i)) ∧ Upto (stepN x.names) i) x.names.length ?_ ?_ (Nat.zero_le _) ?_
  · rintro i T L h' hi ⟨rfl, t1, l1, t3, hu⟩
    have e1 := c_validName x.names[i] h' (Nat.lt_of_le_of_lt (m.nm _ (List.getElem_mem hi)) (by decide))
    cases b1 : okName x.names[i] with
    | false =>
      have b2 : stepN x.names i = false := by
        cases i with
        | zero => rw [stepN_zero hi, b1]
        | succ j => rw [stepN_succ hi, b1]; rfl
      simp +contextual (maxSteps := 2000000) only [go_sem, Nat.reduceEqDiff, reduceCtorEq, Nat.reduceAdd, Nat.reduceLeDiff, t1, l1, t3, hl.len, hl.iaddr hi, hl.oneO hi, lt_true hi, e1, b1, okNames_not hi b2, Bool.false_and]
    | true =>
    cases i with
    | zero =>
      have hz : decide (((0 : Nat) : Int) > 0) = false := rfl
      simp +contextual (maxSteps := 2000000) only [go_sem, Nat.reduceEqDiff, reduceCtorEq, Nat.reduceAdd, Nat.reduceLeDiff, t1, l1, t3, hl.len, hl.iaddr hi, hl.oneO hi, lt_true hi, e1, b1, hz]
      exact ⟨by rw [wrap_next hi (by omega)], hu.next (by rw [stepN_zero hi, b1])⟩
    | succ j =>
      have hj : j < x.names.length := by omega
      have hz : decide (((j + 1 : Nat) : Int) > 0) = true := decide_eq_true (by omega)
      have e2 := stepN_succ hi
      rw [b1, Bool.true_and] at e2
      cases b3 : sLess x.names[j] x.names[j + 1] with
      | true =>
        simp +contextual (maxSteps := 2000000) only [go_sem, Nat.reduceEqDiff, reduceCtorEq, Nat.reduceAdd, Nat.reduceLeDiff, t1, l1, t3, hl.len, hl.iaddr hi, hl.oneO hi, hl.iaddr hj, hl.oneO hj, lt_true hi, e1, b1, hz, wrap_pred (show j < 2 ^ 62 by omega), leq_not, b3]
        exact ⟨by rw [wrap_next hi (by omega)], hu.next (by rw [e2, b3])⟩
      | false =>
        simp +contextual (maxSteps := 2000000) only [go_sem, Nat.reduceEqDiff, reduceCtorEq, Nat.reduceAdd, Nat.reduceLeDiff, t1, l1, t3, hl.len, hl.iaddr hi, hl.oneO hi, hl.iaddr hj, hl.oneO hj, lt_true hi, e1, b1, hz, wrap_pred (show j < 2 ^ 62 by omega), leq_not, b3, okNames_not hi (e2.trans b3), Bool.false_and]
  · rintro T L h' ⟨rfl, t1, l1, t3, hu⟩
    have e4 : okNames x.names = true := hu.all
    cases b5 : decide (0 ≤ x.count) && decide (x.count ≤ 8) with
    | false => simp +contextual (maxSteps := 2000000) only [go_sem, Nat.reduceEqDiff, reduceCtorEq, Nat.reduceAdd, Nat.reduceLeDiff, t1, l1, t3, hl.len, lt_false, c_inRange, b5, e4, Bool.true_and, Bool.false_and]
    | true =>
      rw [Bool.and_eq_true] at b5
      simp +contextual (maxSteps := 2000000) only [go_sem, Nat.reduceEqDiff, reduceCtorEq, Nat.reduceAdd, Nat.reduceLeDiff, t1, l1, t3, hl.len, lt_false, c_inRange, b5.1, b5.2, e4, Bool.true_and]
  · simp +contextual (maxSteps := 2000000) only [go_sem, Nat.reduceEqDiff, reduceCtorEq, Nat.reduceAdd, Nat.reduceLeDiff]
    exact ⟨rfl, Upto.zero⟩
/-! impl.ValidShape -/
def L36_0 : List AStep := [⟨.box 67 (.t 0), (some 1), none, []⟩, ⟨.mov (.c (.bool false)), (some 2), none, []⟩]
theorem v36_0 : VS L36_0.eq_1 := rfl
def L36_1 : List AStep := [⟨.len (.t 6), (some 7), none, []⟩, ⟨.mov (.c (.int .i64 0)), (some 8), none, []⟩]
theorem v36_1 : VS L36_1.eq_1 := rfl
def L36_2 : List AStep := ⟨.faddr 1 (.t 1), (some 5), none, []⟩ :: ⟨.load 1 false (.t 5), (some 6), none, []⟩ :: L36_1
theorem v36_2 : VS L36_2.eq_1 := rfl
def L36_3 : List AStep := [⟨.bin .lss (.t 8) (.t 7), (some 9), none, []⟩]
theorem v36_3 : VS L36_3.eq_1 := rfl
def L36_4 : List AStep := [⟨.mov (.t 12), (some 4), none, []⟩]
theorem v36_4 : VS L36_4.eq_1 := rfl
def L36_5 : List AStep := ⟨.load 1 false (.t 11), (some 12), none, []⟩ :: ⟨.mov (.t 10), (some 3), none, []⟩ :: L36_4
theorem v36_5 : VS L36_5.eq_1 := rfl
def L36_6 : List AStep := ⟨.mov (.t 8), (some 10), none, []⟩ :: ⟨.iaddr 1 (.t 6) (.t 8), (some 11), none, []⟩ :: L36_5
theorem v36_6 : VS L36_6.eq_1 := rfl
def L36_7 : List AStep := [⟨.pick (.t 16) (.c (.bool true)) (.t 28), (some 29), none, []⟩]
theorem v36_7 : VS L36_7.eq_1 := rfl
def L36_8 : List AStep := ⟨.bin .geq (.t 25) (.t 26), (some 27), (some (19, true)), []⟩ :: ⟨.pick (.t 19) (.t 27) (.c (.bool false)), (some 28), (some (16, false)), []⟩ :: L36_7
theorem v36_8 : VS L36_8.eq_1 := rfl
def L36_9 : List AStep := ⟨.load 1 false (.t 24), (some 25), (some (19, true)), []⟩ :: ⟨.mov (.t 4), (some 26), (some (19, true)), []⟩ :: L36_8
theorem v36_9 : VS L36_9.eq_1 := rfl
def L36_10 : List AStep := ⟨.bin .sub (.t 22) (.c (.int .i64 1)), (some 23), (some (19, true)), []⟩ :: ⟨.iaddr 1 (.t 21) (.t 23), (some 24), (some (19, true)), []⟩ :: L36_9
theorem v36_10 : VS L36_10.eq_1 := rfl
def L36_11 : List AStep := ⟨.load 1 false (.t 20), (some 21), (some (19, true)), []⟩ :: ⟨.mov (.t 3), (some 22), (some (19, true)), []⟩ :: L36_10
theorem v36_11 : VS L36_11.eq_1 := rfl
def L36_12 : List AStep := ⟨.mov (.t 18), (some 19), (some (16, false)), []⟩ :: ⟨.faddr 1 (.t 1), (some 20), (some (19, true)), []⟩ :: L36_11
theorem v36_12 : VS L36_12.eq_1 := rfl
def L36_13 : List AStep := ⟨.mov (.t 3), (some 17), (some (16, false)), []⟩ :: ⟨.bin .gtr (.t 17) (.c (.int .i64 0)), (some 18), (some (16, false)), []⟩ :: L36_12
theorem v36_13 : VS L36_13.eq_1 := rfl
def L36_14 : List AStep := ⟨.not (.t 14), (some 15), none, []⟩ :: ⟨.mov (.t 15), (some 16), none, []⟩ :: L36_13
theorem v36_14 : VS L36_14.eq_1 := rfl
def L36_15 : List AStep := ⟨.mov (.t 4), (some 13), none, []⟩ :: ⟨.call 61 [(.t 13)], (some 14), none, []⟩ :: L36_14
theorem v36_15 : VS L36_15.eq_1 := rfl
def L36_16 : List AStep := [⟨.mov (.c (.bool false)), (some 2), none, []⟩]
theorem v36_16 : VS L36_16.eq_1 := rfl
def L36_17 : List AStep := [⟨.bin .add (.t 8) (.c (.int .i64 1)), (some 30), none, []⟩, ⟨.mov (.t 30), (some 8), none, []⟩]
theorem v36_17 : VS L36_17.eq_1 := rfl
def L36_18 : List AStep := [⟨.pick (.t 34) (.t 38) (.c (.bool false)), (some 39), none, []⟩, ⟨.mov (.t 39), (some 2), none, []⟩]
theorem v36_18 : VS L36_18.eq_1 := rfl
def L36_19 : List AStep := ⟨.len (.t 36), (some 37), (some (34, true)), []⟩ :: ⟨.bin .leq (.t 37) (.c (.int .i64 8)), (some 38), (some (34, true)), []⟩ :: L36_18
theorem v36_19 : VS L36_19.eq_1 := rfl
def L36_20 : List AStep := ⟨.faddr 1 (.t 1), (some 35), (some (34, true)), []⟩ :: ⟨.load 1 false (.t 35), (some 36), (some (34, true)), []⟩ :: L36_19
theorem v36_20 : VS L36_20.eq_1 := rfl
def L36_21 : List AStep := ⟨.call 86 [(.t 32), (.c (.int .i64 0)), (.c (.int .i64 8))], (some 33), none, []⟩ :: ⟨.mov (.t 33), (some 34), none, []⟩ :: L36_20
theorem v36_21 : VS L36_21.eq_1 := rfl
def L36_22 : List AStep := ⟨.faddr 0 (.t 1), (some 31), none, []⟩ :: ⟨.load 1 false (.t 31), (some 32), none, []⟩ :: L36_21
theorem v36_22 : VS L36_22.eq_1 := rfl
def C36_0 : ACode := .cond (.t 9) .skip (.exit 0)
theorem u36_0 : VC C36_0.eq_1 := rfl
def C36_1 : ACode := .seq (.reg L36_16) .ret
theorem u36_1 : VC C36_1.eq_1 := rfl
def C36_2 : ACode := .cond (.t 29) C36_1 .skip
theorem u36_2 : VC C36_2.eq_1 := rfl
def C36_3 : ACode := .seq (.reg L36_15) C36_2
theorem u36_3 : VC C36_3.eq_1 := rfl
def C36_4 : ACode := .seq (.reg L36_6) C36_3
theorem u36_4 : VC C36_4.eq_1 := rfl
def C36_5 : ACode := .block 1 C36_4
theorem u36_5 : VC C36_5.eq_1 := rfl
def C36_6 : ACode := .seq C36_5 (.reg L36_17)
theorem u36_6 : VC C36_6.eq_1 := rfl
def C36_7 : ACode := .seq C36_0 C36_6
theorem u36_7 : VC C36_7.eq_1 := rfl
def C36_8 : ACode := .seq (.reg L36_3) C36_7
theorem u36_8 : VC C36_8.eq_1 := rfl
def C36_9 : ACode := .block 0 (.loop C36_8)
theorem u36_9 : VC C36_9.eq_1 := rfl
def C36_10 : ACode := .seq (.reg L36_2) C36_9
theorem u36_10 : VC C36_10.eq_1 := rfl
def C36_11 : ACode := .seq (.reg L36_22) .ret
theorem u36_11 : VC C36_11.eq_1 := rfl
def C36_12 : ACode := .seq C36_10 C36_11
theorem u36_12 : VC C36_12.eq_1 := rfl
def C36_13 : ACode := .seq (.reg L36_0) C36_12
theorem u36_13 : VC C36_13.eq_1 := rfl
def F36 : AFunc := ⟨40, [.tmp 2], C36_13⟩
theorem cF36 : compB Try.prog 36 = some F36 := by kernel_rfl
attribute [local go_sem ↓] u36_0 u36_1 u36_2 u36_3 u36_4 u36_5 u36_6 u36_7 u36_8 u36_9 u36_10 u36_11 u36_12 u36_13 v36_0 v36_1 v36_2 v36_3 v36_4 v36_5 v36_6 v36_7 v36_8 v36_9 v36_10 v36_11 v36_12 v36_13 v36_14 v36_15 v36_16 v36_17 v36_18 v36_19 v36_20 v36_21 v36_22
theorem c_ValidShape (x : Shape) (c p : CV) (h : H) (a : SlX h c p x) (m : miniX x) : bm Try.prog 36 [.agg [c, p]] h = some (ib (okShape x), h) := by
  refine bm_eq cF36 ?_
  obtain rfl := a.c
  have hl := a.out
  have hn := m.len
  unfold okShape
  simp +contextual (maxSteps := 2000000) only [go_sem, Nat.reduceEqDiff, reduceCtorEq, Nat.reduceAdd, Nat.reduceLeDiff, F36, hl.len]
  refine wpC_loop (fun i T L h' => h' = h ∧ T 1 = .lp 1 0 ∧ (L 1).2 = [.int .i64 x.count, p] ∧ T 6 = .v (.one p) ∧ T 7 = .v (.one (.int .i64 x.names.length)) ∧ T 8 = .v (.one (.int .i64 i)) ∧ Upto (stepN x.names) i) x.names.length ?_ ?_ (Nat.zero_le _) ?_
  · rintro i T L h' hi ⟨rfl, t1, l1, t6, t7, t8, hu⟩
    have e1 := c_isName x.names[i] h' (Nat.lt_of_le_of_lt (m.nm _ (List.getElem_mem hi)) (by decide))
    cases b1 : okName x.names[i] with
    | false =>
      have b2 : stepN x.names i = false := by
        cases i with
        | zero => rw [stepN_zero hi, b1]
        | succ j => rw [stepN_succ hi, b1]; rfl
      simp +contextual (maxSteps := 2000000) only [go_sem, Nat.reduceEqDiff, reduceCtorEq, Nat.reduceAdd, Nat.reduceLeDiff, t1, l1, t6, t7, t8, hl.iaddr hi, hl.oneO hi, lt_true hi, e1, b1, okNames_not hi b2, Bool.false_and]
    | true =>
    cases i with
    | zero =>
      have hz : decide (((0 : Nat) : Int) > 0) = false := rfl
      simp +contextual (maxSteps := 2000000) only [go_sem, Nat.reduceEqDiff, reduceCtorEq, Nat.reduceAdd, Nat.reduceLeDiff, t1, l1, t6, t7, t8, hl.iaddr hi, hl.oneO hi, lt_true hi, e1, b1, hz]
      exact ⟨by rw [wrap_next hi (by omega)], hu.next (by rw [stepN_zero hi, b1])⟩
    | succ j =>
      have hj : j < x.names.length := by omega
      have hz : decide (((j + 1 : Nat) : Int) > 0) = true := decide_eq_true (by omega)
      have e2 := stepN_succ hi
      rw [b1, Bool.true_and] at e2
      cases b3 : sLess x.names[j] x.names[j + 1] with
      | true =>
        simp +contextual (maxSteps := 2000000) only [go_sem, Nat.reduceEqDiff, reduceCtorEq, Nat.reduceAdd, Nat.reduceLeDiff, t1, l1, t6, t7, t8, hl.iaddr hi, hl.oneO hi, hl.iaddr hj, hl.oneO hj, lt_true hi, e1, b1, hz, wrap_pred (show j < 2 ^ 62 by omega), b3]
        exact ⟨by rw [wrap_next hi (by omega)], hu.next (by rw [e2, b3])⟩
      | false =>
        simp +contextual (maxSteps := 2000000) only [go_sem, Nat.reduceEqDiff, reduceCtorEq, Nat.reduceAdd, Nat.reduceLeDiff, t1, l1, t6, t7, t8, hl.iaddr hi, hl.oneO hi, hl.iaddr hj, hl.oneO hj, lt_true hi, e1, b1, hz, wrap_pred (show j < 2 ^ 62 by omega), b3, okNames_not hi (e2.trans b3), Bool.false_and]
  · rintro T L h' ⟨rfl, t1, l1, t6, t7, t8, hu⟩
    have e4 : okNames x.names = true := hu.all
    cases b5 : decide (0 ≤ x.count) && decide (x.count ≤ 8) with
    | false => simp +contextual (maxSteps := 2000000) only [go_sem, Nat.reduceEqDiff, reduceCtorEq, Nat.reduceAdd, Nat.reduceLeDiff, t1, l1, t6, t7, t8, hl.len, lt_false, c_in, b5, e4, Bool.true_and, Bool.false_and]
    | true =>
      rw [Bool.and_eq_true] at b5
      simp +contextual (maxSteps := 2000000) only [go_sem, Nat.reduceEqDiff, reduceCtorEq, Nat.reduceAdd, Nat.reduceLeDiff, t1, l1, t6, t7, t8, hl.len, lt_false, c_in, b5.1, b5.2, e4, Bool.true_and]
  · simp +contextual (maxSteps := 2000000) only [go_sem, Nat.reduceEqDiff, reduceCtorEq, Nat.reduceAdd, Nat.reduceLeDiff]
    exact ⟨rfl, Upto.zero⟩
theorem takeS {l : List ByteArray} {i : Nat} (hi : i < l.length) : (l.take (i + 1)).map zeroP = (l.take i).map zeroP ++ [zeroP l[i]] := by
  rw [List.take_succ_eq_append_getElem hi, List.map_append]
  rfl
/-! spec.flatOf -/
def L89_0 : List AStep := [⟨.box 67 (.t 0), (some 1), none, []⟩, ⟨.alloc 27 [(.sl none 0 (some 0)), (.sl none 0 (some 0))], (some 2), none, []⟩]
theorem v89_0 : VS L89_0.eq_1 := rfl
def L89_1 : List AStep := [⟨.store 2 (.t 3) (.t 9), none, none, []⟩]
theorem v89_1 : VS L89_1.eq_1 := rfl
def L89_2 : List AStep := ⟨.build [(.sl none 0 (some 0)), (.sl none 0 (some 0))] [(0, 1, (.t 7)), (1, 1, (.t 8))], (some 9), none, []⟩ :: ⟨.alloc 27 [(.sl none 0 (some 0)), (.sl none 0 (some 0))], (some 3), none, []⟩ :: L89_1
theorem v89_2 : VS L89_2.eq_1 := rfl
def L89_3 : List AStep := ⟨.mkslice 3 8 [(.int .i64 0)] (.t 6) (.t 6), (some 7), none, []⟩ :: ⟨.buildSlice 53 0 [(.str (strOfNums [])), (.int .i64 0)] [], (some 8), none, []⟩ :: L89_2
theorem v89_3 : VS L89_3.eq_1 := rfl
def L89_4 : List AStep := ⟨.faddr 0 (.t 1), (some 5), none, []⟩ :: ⟨.load 1 false (.t 5), (some 6), none, []⟩ :: L89_3
theorem v89_4 : VS L89_4.eq_1 := rfl
def L89_5 : List AStep := [⟨.mov (.c (.int .i64 0)), (some 4), none, []⟩]
theorem v89_5 : VS L89_5.eq_1 := rfl
def L89_6 : List AStep := [⟨.bin .lss (.t 10) (.t 13), (some 14), none, []⟩]
theorem v89_6 : VS L89_6.eq_1 := rfl
def L89_7 : List AStep := ⟨.load 1 false (.t 11), (some 12), none, []⟩ :: ⟨.len (.t 12), (some 13), none, []⟩ :: L89_6
theorem v89_7 : VS L89_7.eq_1 := rfl
def L89_8 : List AStep := ⟨.mov (.t 4), (some 10), none, []⟩ :: ⟨.faddr 1 (.t 1), (some 11), none, []⟩ :: L89_7
theorem v89_8 : VS L89_8.eq_1 := rfl
def L89_9 : List AStep := [⟨.faddr 1 (.t 3), (some 27), none, []⟩, ⟨.store 1 (.t 27) (.t 26), none, none, []⟩]
theorem v89_9 : VS L89_9.eq_1 := rfl
def L89_10 : List AStep := ⟨.buildSlice 53 1 [(.str (strOfNums [])), (.int .i64 0)] [(0, 2, (.t 24))], (some 25), none, []⟩ :: ⟨.append 53 2 24 (.t 18) (.t 25), (some 26), none, []⟩ :: L89_9
theorem v89_10 : VS L89_10.eq_1 := rfl
def L89_11 : List AStep := ⟨.load 1 false (.t 22), (some 23), none, []⟩ :: ⟨.build [(.str (strOfNums [])), (.int .i64 0)] [(0, 1, (.t 23))], (some 24), none, []⟩ :: L89_10
theorem v89_11 : VS L89_11.eq_1 := rfl
def L89_12 : List AStep := ⟨.mov (.t 4), (some 21), none, []⟩ :: ⟨.iaddr 1 (.t 20) (.t 21), (some 22), none, []⟩ :: L89_11
theorem v89_12 : VS L89_12.eq_1 := rfl
def L89_13 : List AStep := ⟨.faddr 1 (.t 1), (some 19), none, []⟩ :: ⟨.load 1 false (.t 19), (some 20), none, []⟩ :: L89_12
theorem v89_13 : VS L89_13.eq_1 := rfl
def L89_14 : List AStep := ⟨.faddr 1 (.t 3), (some 17), none, []⟩ :: ⟨.load 1 false (.t 17), (some 18), none, []⟩ :: L89_13
theorem v89_14 : VS L89_14.eq_1 := rfl
def L89_15 : List AStep := [⟨.mov (.t 16), (some 4), none, []⟩]
theorem v89_15 : VS L89_15.eq_1 := rfl
def L89_16 : List AStep := ⟨.mov (.t 4), (some 15), none, []⟩ :: ⟨.bin .add (.t 15) (.c (.int .i64 1)), (some 16), none, []⟩ :: L89_15
theorem v89_16 : VS L89_16.eq_1 := rfl
def L89_17 : List AStep := [⟨.load 2 true (.t 3), (some 28), none, []⟩, ⟨.store 2 (.t 2) (.t 28), none, none, []⟩]
theorem v89_17 : VS L89_17.eq_1 := rfl
def C89_0 : ACode := .cond (.t 14) .skip (.exit 0)
theorem u89_0 : VC C89_0.eq_1 := rfl
def C89_1 : ACode := .seq (.reg L89_8) C89_0
theorem u89_1 : VC C89_1.eq_1 := rfl
def C89_2 : ACode := .block 1 (.reg L89_14)
theorem u89_2 : VC C89_2.eq_1 := rfl
def C89_3 : ACode := .seq C89_2 (.reg L89_16)
theorem u89_3 : VC C89_3.eq_1 := rfl
def C89_4 : ACode := .seq C89_1 C89_3
theorem u89_4 : VC C89_4.eq_1 := rfl
def C89_5 : ACode := .block 0 (.loop C89_4)
theorem u89_5 : VC C89_5.eq_1 := rfl
def C89_6 : ACode := .seq (.reg L89_5) C89_5
theorem u89_6 : VC C89_6.eq_1 := rfl
def C89_7 : ACode := .seq (.reg L89_17) .ret
theorem u89_7 : VC C89_7.eq_1 := rfl
def C89_8 : ACode := .seq C89_6 C89_7
theorem u89_8 : VC C89_8.eq_1 := rfl
def C89_9 : ACode := .seq (.reg L89_4) C89_8
theorem u89_9 : VC C89_9.eq_1 := rfl
def C89_10 : ACode := .seq (.reg L89_0) C89_9
theorem u89_10 : VC C89_10.eq_1 := rfl
def F89 : AFunc := ⟨29, [.cell 2 2 true], C89_10⟩
theorem cF89 : compB Try.prog 89 = some F89 := by kernel_rfl
attribute [local go_sem ↓] u89_0 u89_1 u89_2 u89_3 u89_4 u89_5 u89_6 u89_7 u89_8 u89_9 u89_10 v89_0 v89_1 v89_2 v89_3 v89_4 v89_5 v89_6 v89_7 v89_8 v89_9 v89_10 v89_11 v89_12 v89_13 v89_14 v89_15 v89_16 v89_17
theorem c_flatOf (x : Shape) (c p : CV) (h : H) (a : SlX h c p x) (ok : okShape x = true) : callK (bm Try.prog 89 [.agg [c, p]] h) fun r h' => Grow h h' ∧ ∃ p' n', r = .agg [p', n'] ∧ NwF h h' p' n' (flatS x) := by
  refine bm_of cF89 ?_
  obtain rfl := a.c
  unfold okShape at ok
  simp only [Bool.and_eq_true, decide_eq_true_iff] at ok
  obtain ⟨k, hk⟩ := Int.eq_ofNat_of_zero_le ok.2.1.1
  have hk8 : k ≤ 8 := by omega
  have ek : x.count.toNat = k := by omega
  simp +contextual (maxSteps := 2000000) only [go_sem, Nat.reduceEqDiff, reduceCtorEq, Nat.reduceAdd, Nat.reduceLeDiff, F89, hk]
  refine wp_make (enc := encI) (k := 1) 0 rfl (by omega) (by omega) ?_
  intro h1 w g1 n1 b1
  obtain ⟨d, rfl⟩ := n1.one
  simp +contextual (maxSteps := 2000000) only [go_sem, Nat.reduceEqDiff, reduceCtorEq, Nat.reduceAdd, Nat.reduceLeDiff]
  refine wp_lit (enc := encP) (k := 2) (l := []) rfl rfl ?_
  intro h2 w2 g2 n2 b2
  obtain ⟨e, rfl⟩ := n2.one
  simp +contextual (maxSteps := 2000000) only [go_sem, Nat.reduceEqDiff, reduceCtorEq, Nat.reduceAdd, Nat.reduceLeDiff]
  have y0 : NwF h h2 d e ⟨List.replicate k 0, []⟩ := ⟨n1.grow g2, n2.from g1.n, n1.apart n2⟩
  refine wpC_loop (fun i T L h' => Grow h h' ∧ T 1 = .lp 1 0 ∧ (L 1).2 = [.int .i64 k, p] ∧ T 2 = .lp 2 0 ∧ (L 2).2 = [.sl none 0 (some 0), .sl none 0 (some 0)] ∧ T 3 = .lp 3 0 ∧ (∃ b, (L 3).2 = [d, b] ∧ NwF h h' d b ⟨List.replicate k 0, (x.names.take i).map zeroP⟩) ∧ T 4 = .v (.one (.int .i64 i))) x.names.length ?_ ?_ (Nat.zero_le _) ?_
  · rintro i T L h' hi ⟨g, t1, l1, t2, l2, t3, ⟨b, l3, y⟩, t4⟩
    have hl := a.out.grow g
    simp +contextual (maxSteps := 2000000) only [go_sem, Nat.reduceEqDiff, reduceCtorEq, Nat.reduceAdd, Nat.reduceLeDiff, t1, l1, t2, l2, t3, l3, t4, hl.len, hl.iaddr hi, hl.oneO hi, lt_true hi]
    refine wp_lit (enc := encP) (k := 2) (l := [zeroP x.names[i]]) rfl rfl ?_
    intro h3 w3 g3 n3 b3
    simp +contextual (maxSteps := 2000000) only [go_sem, Nat.reduceEqDiff, reduceCtorEq, Nat.reduceAdd, Nat.reduceLeDiff, t1, l1, t2, l2, t3, l3, t4]
    refine wp_append lenP (y.nl.grow g3) (n3.sl lenP) (g.trans g3) (by simp; omega) ?_
    intro h4 s4 g4 n4 st4 hb4
    obtain ⟨c4, rfl⟩ := n4.one
    have y4 := (y.grow g3).appNl n4 st4 hb4
    simp +contextual (maxSteps := 2000000) only [go_sem, Nat.reduceEqDiff, reduceCtorEq, Nat.reduceAdd, Nat.reduceLeDiff, t1, l1, t2, l2, t3, l3, t4]
    exact ⟨g4, ⟨c4, rfl, by rw [takeS hi]; exact y4⟩, by rw [wrap_next hi (by omega)]⟩
  · rintro T L h' ⟨g, t1, l1, t2, l2, t3, ⟨b, l3, y⟩, t4⟩
    rw [List.take_length] at y
    have y2 : NwF h h' d b (flatS x) := by unfold flatS; rw [ek]; exact y
    simp +contextual (maxSteps := 2000000) only [go_sem, Nat.reduceEqDiff, reduceCtorEq, Nat.reduceAdd, Nat.reduceLeDiff, t1, l1, t2, l2, t3, l3, t4, (a.out.grow g).len, lt_false]
    exact gcK_of ⟨g, _, _, rfl, y2⟩ (fun hs _ => ⟨Grow.refl h, _, _, rfl, y2.scalar hs h⟩)
  · simp +contextual (maxSteps := 2000000) only [go_sem, Nat.reduceEqDiff, reduceCtorEq, Nat.reduceAdd, Nat.reduceLeDiff]
    exact ⟨g1.trans g2, ⟨e, rfl, y0⟩, rfl⟩
/-! impl.FlatOf -/
def L38_0 : List AStep := [⟨.box 67 (.t 0), (some 1), none, []⟩, ⟨.alloc 27 [(.sl none 0 (some 0)), (.sl none 0 (some 0))], (some 2), none, []⟩]
theorem v38_0 : VS L38_0.eq_1 := rfl
def L38_1 : List AStep := [⟨.not (.t 7), (some 8), none, []⟩]
theorem v38_1 : VS L38_1.eq_1 := rfl
def L38_2 : List AStep := ⟨.load 2 true (.t 1), (some 6), none, []⟩ :: ⟨.call 36 [(.t 6)], (some 7), none, []⟩ :: L38_1
theorem v38_2 : VS L38_2.eq_1 := rfl
def L38_3 : List AStep := [⟨.build [(.sl none 0 (some 0)), (.sl none 0 (some 0))] [], (some 9), none, []⟩, ⟨.store 2 (.t 2) (.t 9), none, none, []⟩]
theorem v38_3 : VS L38_3.eq_1 := rfl
def L38_4 : List AStep := [⟨.alloc 27 [(.sl none 0 (some 0)), (.sl none 0 (some 0))], (some 3), none, []⟩, ⟨.store 2 (.t 3) (.t 13), none, none, []⟩]
theorem v38_4 : VS L38_4.eq_1 := rfl
def L38_5 : List AStep := ⟨.mkslice 3 8 [(.int .i64 0)] (.t 11) (.t 11), (some 12), none, []⟩ :: ⟨.build [(.sl none 0 (some 0)), (.sl none 0 (some 0))] [(0, 1, (.t 12))], (some 13), none, []⟩ :: L38_4
theorem v38_5 : VS L38_5.eq_1 := rfl
def L38_6 : List AStep := ⟨.faddr 0 (.t 1), (some 10), none, []⟩ :: ⟨.load 1 false (.t 10), (some 11), none, []⟩ :: L38_5
theorem v38_6 : VS L38_6.eq_1 := rfl
def L38_7 : List AStep := [⟨.len (.t 15), (some 16), none, []⟩, ⟨.mov (.c (.int .i64 0)), (some 17), none, []⟩]
theorem v38_7 : VS L38_7.eq_1 := rfl
def L38_8 : List AStep := ⟨.faddr 1 (.t 1), (some 14), none, []⟩ :: ⟨.load 1 false (.t 14), (some 15), none, []⟩ :: L38_7
theorem v38_8 : VS L38_8.eq_1 := rfl
def L38_9 : List AStep := [⟨.bin .lss (.t 17) (.t 16), (some 18), none, []⟩]
theorem v38_9 : VS L38_9.eq_1 := rfl
def L38_10 : List AStep := [⟨.mov (.t 20), (some 5), none, []⟩]
theorem v38_10 : VS L38_10.eq_1 := rfl
def L38_11 : List AStep := ⟨.iaddr 1 (.t 15) (.t 17), (some 19), none, []⟩ :: ⟨.load 1 false (.t 19), (some 20), none, []⟩ :: L38_10
theorem v38_11 : VS L38_11.eq_1 := rfl
def L38_12 : List AStep := [⟨.faddr 1 (.t 3), (some 27), none, []⟩, ⟨.store 1 (.t 27) (.t 26), none, none, []⟩]
theorem v38_12 : VS L38_12.eq_1 := rfl
def L38_13 : List AStep := ⟨.buildSlice 53 1 [(.str (strOfNums [])), (.int .i64 0)] [(0, 2, (.t 24))], (some 25), none, []⟩ :: ⟨.append 53 2 24 (.t 22) (.t 25), (some 26), none, []⟩ :: L38_12
theorem v38_13 : VS L38_13.eq_1 := rfl
def L38_14 : List AStep := ⟨.mov (.t 5), (some 23), none, []⟩ :: ⟨.build [(.str (strOfNums [])), (.int .i64 0)] [(0, 1, (.t 23)), (1, 1, (.c (.int .i64 0)))], (some 24), none, []⟩ :: L38_13
theorem v38_14 : VS L38_14.eq_1 := rfl
def L38_15 : List AStep := ⟨.faddr 1 (.t 3), (some 21), none, []⟩ :: ⟨.load 1 false (.t 21), (some 22), none, []⟩ :: L38_14
theorem v38_15 : VS L38_15.eq_1 := rfl
def L38_16 : List AStep := [⟨.bin .add (.t 17) (.c (.int .i64 1)), (some 28), none, []⟩, ⟨.mov (.t 28), (some 17), none, []⟩]
theorem v38_16 : VS L38_16.eq_1 := rfl
def L38_17 : List AStep := [⟨.store 2 (.t 2) (.t 30), none, none, []⟩]
theorem v38_17 : VS L38_17.eq_1 := rfl
def L38_18 : List AStep := ⟨.load 2 true (.t 3), (some 29), none, []⟩ :: ⟨.call 54 [(.t 29)], (some 30), none, []⟩ :: L38_17
theorem v38_18 : VS L38_18.eq_1 := rfl
def C38_0 : ACode := .seq (.reg L38_3) .ret
theorem u38_0 : VC C38_0.eq_1 := rfl
def C38_1 : ACode := .cond (.t 8) C38_0 .skip
theorem u38_1 : VC C38_1.eq_1 := rfl
def C38_2 : ACode := .seq (.reg L38_2) C38_1
theorem u38_2 : VC C38_2.eq_1 := rfl
def C38_3 : ACode := .cond (.t 18) .skip (.exit 0)
theorem u38_3 : VC C38_3.eq_1 := rfl
def C38_4 : ACode := .seq (.reg L38_11) (.reg L38_15)
theorem u38_4 : VC C38_4.eq_1 := rfl
def C38_5 : ACode := .block 1 C38_4
theorem u38_5 : VC C38_5.eq_1 := rfl
def C38_6 : ACode := .seq C38_5 (.reg L38_16)
theorem u38_6 : VC C38_6.eq_1 := rfl
def C38_7 : ACode := .seq C38_3 C38_6
theorem u38_7 : VC C38_7.eq_1 := rfl
def C38_8 : ACode := .seq (.reg L38_9) C38_7
theorem u38_8 : VC C38_8.eq_1 := rfl
def C38_9 : ACode := .block 0 (.loop C38_8)
theorem u38_9 : VC C38_9.eq_1 := rfl
def C38_10 : ACode := .seq (.reg L38_8) C38_9
theorem u38_10 : VC C38_10.eq_1 := rfl
def C38_11 : ACode := .seq (.reg L38_18) .ret
theorem u38_11 : VC C38_11.eq_1 := rfl
def C38_12 : ACode := .seq C38_10 C38_11
theorem u38_12 : VC C38_12.eq_1 := rfl
def C38_13 : ACode := .seq (.reg L38_6) C38_12
theorem u38_13 : VC C38_13.eq_1 := rfl
def C38_14 : ACode := .seq C38_2 C38_13
theorem u38_14 : VC C38_14.eq_1 := rfl
def C38_15 : ACode := .seq (.reg L38_0) C38_14
theorem u38_15 : VC C38_15.eq_1 := rfl
def F38 : AFunc := ⟨31, [.cell 2 2 true], C38_15⟩
theorem cF38 : compB Try.prog 38 = some F38 := by kernel_rfl
attribute [local go_sem ↓] u38_0 u38_1 u38_2 u38_3 u38_4 u38_5 u38_6 u38_7 u38_8 u38_9 u38_10 u38_11 u38_12 u38_13 u38_14 u38_15 v38_0 v38_1 v38_2 v38_3 v38_4 v38_5 v38_6 v38_7 v38_8 v38_9 v38_10 v38_11 v38_12 v38_13 v38_14 v38_15 v38_16 v38_17 v38_18
theorem c_FlatOf (x : Shape) (c p : CV) (h : H) (a : SlX h c p x) (mx : miniX x) (ok : okShape x = true) : callK (bm Try.prog 38 [.agg [c, p]] h) fun r h' => Grow h h' ∧ ∃ p' n', r = .agg [p', n'] ∧ NwF h h' p' n' (flatS x) := by
  refine bm_of cF38 ?_
  have ev := c_ValidShape x c p h a mx
  rw [ok] at ev
  obtain rfl := a.c
  have okf := okShape_flat ok
  unfold okShape at ok
  simp only [Bool.and_eq_true, decide_eq_true_iff] at ok
  obtain ⟨k, hk⟩ := Int.eq_ofNat_of_zero_le ok.2.1.1
  have hk8 : k ≤ 8 := by omega
  have ek : x.count.toNat = k := by omega
  rw [hk] at ev
  simp +contextual (maxSteps := 2000000) only [go_sem, Nat.reduceEqDiff, reduceCtorEq, Nat.reduceAdd, Nat.reduceLeDiff, F38, ev, hk]
  refine wp_make (enc := encI) (k := 1) 0 rfl (by omega) (by omega) ?_
  intro h1 w g1 n1 b1
  obtain ⟨d, rfl⟩ := n1.one
  simp +contextual (maxSteps := 2000000) only [go_sem, Nat.reduceEqDiff, reduceCtorEq, Nat.reduceAdd, Nat.reduceLeDiff, (a.out.grow g1).len]
  have y0 : NwF h h1 d (.sl none 0 (some 0)) ⟨List.replicate k 0, []⟩ := ⟨n1, .nil, Sep.nil.symm⟩
  refine wpC_loop (fun i T L h' => Grow h h' ∧ T 2 = .lp 2 0 ∧ (L 2).2 = [.sl none 0 (some 0), .sl none 0 (some 0)] ∧ T 3 = .lp 3 0 ∧ (∃ b, (L 3).2 = [d, b] ∧ NwF h h' d b ⟨List.replicate k 0, (x.names.take i).map zeroP⟩) ∧ T 15 = .v (.one p) ∧ T 16 = .v (.one (.int .i64 x.names.length)) ∧ T 17 = .v (.one (.int .i64 i))) x.names.length ?_ ?_ (Nat.zero_le _) ?_
  · rintro i T L h' hi ⟨g, t2, l2, t3, ⟨b, l3, y⟩, t15, t16, t17⟩
    have hl := a.out.grow g
    simp +contextual (maxSteps := 2000000) only [go_sem, Nat.reduceEqDiff, reduceCtorEq, Nat.reduceAdd, Nat.reduceLeDiff, t2, l2, t3, l3, t15, t16, t17, hl.iaddr hi, hl.oneO hi, lt_true hi]
    refine wp_lit (enc := encP) (k := 2) (l := [zeroP x.names[i]]) rfl rfl ?_
    intro h3 w3 g3 n3 b3
    simp +contextual (maxSteps := 2000000) only [go_sem, Nat.reduceEqDiff, reduceCtorEq, Nat.reduceAdd, Nat.reduceLeDiff, t2, l2, t3, l3, t15, t16, t17]
    refine wp_append lenP (y.nl.grow g3) (n3.sl lenP) (g.trans g3) (by simp; omega) ?_
    intro h4 s4 g4 n4 st4 hb4
    obtain ⟨c4, rfl⟩ := n4.one
    have y4 := (y.grow g3).appNl n4 st4 hb4
    simp +contextual (maxSteps := 2000000) only [go_sem, Nat.reduceEqDiff, reduceCtorEq, Nat.reduceAdd, Nat.reduceLeDiff, t2, l2, t3, l3, t15, t16, t17]
    exact ⟨g4, ⟨c4, rfl, by rw [takeS hi]; exact y4⟩, by rw [wrap_next hi (by omega)]⟩
  · rintro T L h' ⟨g, t2, l2, t3, ⟨b, l3, y⟩, t15, t16, t17⟩
    rw [List.take_length] at y
    have y2 : NwF h h' d b (flatS x) := by unfold flatS; rw [ek]; exact y
    simp +contextual (maxSteps := 2000000) only [go_sem, Nat.reduceEqDiff, reduceCtorEq, Nat.reduceAdd, Nat.reduceLeDiff, t2, l2, t3, l3, t15, t16, t17, lt_false]
    refine wp_call (c_copyOfF (flatS x) d b h' y2.sl (miniF.of okf).sm) ?_
    rintro r h2 ⟨g2, c2, d2, rfl, y3⟩
    have y4 := y3.from g.n
    simp +contextual (maxSteps := 2000000) only [go_sem, Nat.reduceEqDiff, reduceCtorEq, Nat.reduceAdd, Nat.reduceLeDiff, t2, l2]
    exact gcK_of ⟨g.trans g2, _, _, rfl, y4⟩ (fun hs _ => ⟨Grow.refl h, _, _, rfl, y4.scalar hs h⟩)
  · simp +contextual (maxSteps := 2000000) only [go_sem, Nat.reduceEqDiff, reduceCtorEq, Nat.reduceAdd, Nat.reduceLeDiff]
    exact ⟨g1, ⟨_, rfl, y0⟩, rfl⟩
theorem c_FlatOfNo (x : Shape) (c p : CV) (h : H) (a : SlX h c p x) (mx : miniX x) (ok : okShape x = false) : callK (bm Try.prog 38 [.agg [c, p]] h) fun r h' => Grow h h' ∧ ∃ p' n', r = .agg [p', n'] ∧ NwF h h' p' n' ⟨[], []⟩ := by
  refine bm_of cF38 ?_
  have ev := c_ValidShape x c p h a mx
  rw [ok] at ev
  simp +contextual (maxSteps := 2000000) only [go_sem, Nat.reduceEqDiff, reduceCtorEq, Nat.reduceAdd, Nat.reduceLeDiff, F38, ev]
  exact ⟨Grow.refl h, _, _, rfl, NwF.nil⟩
def accS (l : List Param) (x : Shape) : Bool := okShape x && acceptsF l (flatS x)
theorem accS_eq {l : List Param} {x : Shape} : accS l x = (okSig l && (okShape x && (wrong l (flatS x)).isEmpty)) := by
  unfold accS acceptsF fits
  cases h : okShape x with
  | false => simp
  | true => rw [okShape_flat h, Bool.and_true, Bool.true_and, Bool.true_and]
end Go.Proofs.Ytekkimfdcbgcoaa.Am
