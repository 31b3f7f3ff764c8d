/- Contracts: shapes, of both sides. -/
import Derived.Test.YtdalgphpacikkacK2
import Derived.Test.YtdalgphpacikkacL2
import Derived.Test.YtdalgphpacikkacBK
import Derived.Test.YtdalgphpacikkacB1
import Derived.Test.YtdalgphpacikkacSD
namespace Go.Proofs.Ytdalgphpacikkac.Am
open Go
set_option maxRecDepth 100000
set_option maxHeartbeats 4000000
set_option linter.unusedSimpArgs false
set_option linter.unusedVariables false
attribute [local go_sem ↓] bv_t bv_c ev_t ev_c put_same put_ne put_none kill_at pro_at lb_same lb_ne start_zero start_succ wpC_seq wpC_reg wpC_cond wpC_block wpC_skip wpC_exit wpC_ret thenQ_normal thenQ_exit thenQ_ret inBlk_normal inBlk_exit inBlk_ret wpS_nil wpS_step wpS_again wpS_guard wpO_mov wpO_load wpO_faddr wpO_nilCheck wpO_pick wpO_build wpO_bin wpO_eqb wpO_eqst wpO_eqnil wpO_not wpO_conv wpO_bytesStr wpO_iaddr wpO_idxStr wpO_field wpO_extract wpO_len wpO_lenStr wpO_cap wpO_min wpO_slice wpO_sliceStr wpO_alloc wpO_box wpO_store wpO_call wpO_callv wpO_mkfn wpO_buildSlice wpO_mkslice wpO_append wpO_appz proA_nil proA_cons tmpX_nil tmpX_tmp tmpX_cell doneB_normal doneB_ret agK_cons agK_nil agK_guard agG_tt agG_ff agG_tf agG_ft agG_undef pureB_load results_one results_two results_nil resBs_cons resBs_nil resB_tmp resB_cell
attribute [local go_sem] kill_v kill_lp_ne kill_lp_same pro_v pro_lp_same pro_lp_ne av_v av_lp optB_some optX_some valX_eq ldX_lp ldX_v faX_lp faX_v ncX_lp ncX_ptr ncX_fn boxK_one boxK_agg stL_some stK_lp_one stK_lp_agg stK_v_one stK_v_agg proM_v proM_lp callG_mk callVG_mk callvK_fn fnG_mk ptrsA_nil ptrsA_cons callH_some whenA_true whenA_false guardH_tt guardH_ff guardH_tf guardH_ft guardH_undef agV_one agV_agg lenO_sl lenStrO_str notO_bool pickO_bool convO_int eqbO_bool eqnilO_sl extractO_tup capO_sl minO_int loadL_one loadL_all storeL_eq fillA_nil fillA_one fillA_agg nat_ge neg_ge nat_lt neg_lt buildO bin_add bin_sub bin_mul bin_eql bin_neq bin_lss bin_leq bin_gtr bin_geq str_eql str_neq str_lss str_leq str_gtr str_geq retK_some endK_mk gcK_same gcK_int gcK_bool tupO_one tupO_agg rdy_self ib ii Option.map_none Option.map_some Option.some.injEq exists_eq_left' exists_eq_left ne_eq not_false_eq_true if_true if_false List.map_cons List.map_nil List.getElem?_cons_zero List.getElem?_cons_succ List.length_cons List.length_nil List.take_succ_cons List.take_zero List.take_nil List.drop_succ_cons List.drop_zero List.drop_nil List.cons_append List.nil_append List.append_nil List.set_cons_zero List.set_cons_succ Nat.zero_add forall_const true_and and_true and_self Bool.false_eq_true false_implies true_implies implies_true Bool.not_true Bool.not_false Bool.not_eq_true' Bool.not_eq_false' beq_self_eq_true Bool.bne_true Bool.bne_false
attribute [local go_sem] lenI lenS lenP lenQ lenB lenL lenT encI_0 encS_0 encP_0 encP_1 encQ_0 encQ_1 encQ_2 encQ_3 encB_0 encB_1 encL_0 encL_1 encT_0 encT_1
attribute [local go_sem low] whenA_bool guardH_bool
def stepN (l : List ByteArray) (i : Nat) : Bool :=
  match l[i]? with
  | some s => okName s && (match i with | 0 => true | j + 1 => match l[j]? with | some a => sLess a s | none => true)
  | none => true
theorem stepN_zero {l : List ByteArray} (hi : 0 < l.length) : stepN l 0 = okName l[0] := by
  unfold stepN
  rw [List.getElem?_eq_getElem hi]
  simp
theorem stepN_succ {l : List ByteArray} {j : Nat} (hi : j + 1 < l.length) : stepN l (j + 1) = (okName l[j + 1] && sLess (l[j]'(by omega)) l[j + 1]) := by
  unfold stepN
  simp only [List.getElem?_eq_getElem hi, List.getElem?_eq_getElem (show j < l.length by omega)]
def okNames (l : List ByteArray) : Bool := (List.range l.length).all (stepN l)
theorem okNames_not {l : List ByteArray} {i : Nat} (hi : i < l.length) (h : stepN l i = false) : okNames l = false := List.all_eq_false.2 ⟨i, List.mem_range.2 hi, by simp [h]⟩
def okShape (x : Shape) : Bool := okNames x.names && ((decide (0 ≤ x.count) && decide (x.count ≤ 8)) && decide ((x.names.length : Int) ≤ 8))
theorem leq_not {s a : ByteArray} : (sLess s a || decide (s = a)) = !(sLess a s) := by
  cases h : sLess a s with
  | true =>
    have h1 := sLess_asymm h
    have h2 : decide (s = a) = false := decide_eq_false fun e => by
      subst e
      rw [sLess_irrefl] at h
      exact absurd h (by decide)
    rw [h1, h2]; rfl
  | false =>
    cases h1 : sLess s a with
    | true => rfl
    | false => rw [decide_eq_true (sLess_tri h1 h)]; rfl
def zeroP (s : ByteArray) : Pair := ⟨s, 0⟩
def flatS (x : Shape) : Flat := ⟨List.replicate x.count.toNat 0, x.names.map zeroP⟩
theorem okNames_at {l : List ByteArray} (h : okNames l = true) {i : Nat} (hi : i < l.length) : stepN l i = true := List.all_eq_true.1 h i (List.mem_range.2 hi)
theorem okNames_name {l : List ByteArray} (h : okNames l = true) {i : Nat} (hi : i < l.length) : okName l[i] = true := by
  have := okNames_at h hi
  cases i with
  | zero => rwa [stepN_zero hi] at this
  | succ j => rw [stepN_succ hi, Bool.and_eq_true] at this; exact this.1
theorem okNames_up {l : List ByteArray} (h : okNames l = true) : ∀ {i j : Nat} (hj : j < l.length) (hij : i < j), sLess (l[i]'(by omega)) l[j] = true := by
  intro i j hj hij
  induction j with
  | zero => omega
  | succ j ih =>
    have h1 := okNames_at h hj
    rw [stepN_succ hj, Bool.and_eq_true] at h1
    by_cases e : i = j
    · subst e; exact h1.2
    · exact sLess_trans (ih (by omega) (by omega)) h1.2
theorem okShape_flat {x : Shape} (h : okShape x = true) : okFlat (flatS x) = true := by
  unfold okShape at h
  simp only [Bool.and_eq_true, decide_eq_true_iff] at h
  obtain ⟨h1, ⟨h2, h3⟩, h4⟩ := h
  unfold okFlat flatS
  simp only [Bool.and_eq_true, decide_eq_true_iff, List.length_map, List.length_replicate]
  refine ⟨?_, ?_, ?_, by omega, h4⟩
  · unfold apart
    rw [List.all_eq_true]
    intro i hi
    have hi := List.mem_range.1 hi
    have hi2 : i < x.names.length := by simpa using hi
    unfold newAt
    rw [List.getElem?_eq_getElem hi]
    simp only [List.all_eq_true, Bool.not_eq_true', decide_eq_false_iff_not]
    intro y hy e
    rw [List.mem_take_iff_getElem] at hy
    obtain ⟨j, hj, rfl⟩ := hy
    simp only [List.getElem_map, zeroP] at e
    have := okNames_up h1 hi2 (show j < i by omega)
    rw [e, sLess_irrefl] at this
    exact absurd this (by decide)
  · rw [List.all_eq_true]
    intro y hy
    rw [List.eq_of_mem_replicate hy]
    rfl
  · rw [List.all_eq_true]
    intro y hy
    obtain ⟨s, hs, rfl⟩ := List.mem_map.1 hy
    obtain ⟨i, hi, rfl⟩ := List.getElem_of_mem hs
    unfold okPair zeroP
    rw [okNames_name h1 hi]
    rfl
/-! ### the kind of shapes -/
structure NwX (h0 h : H) (c p : CV) (x : Shape) : Prop where
  c : c = .int .i64 x.count
  out : NwS h0 h (.one p) x.names
structure SlX (h : H) (c p : CV) (x : Shape) : Prop where
  c : c = .int .i64 x.count
  out : SlS h (.one p) x.names
theorem NwX.sl {h0 h : H} {c p : CV} {x : Shape} (a : NwX h0 h c p x) : SlX h c p x := ⟨a.c, a.out.sl lenS⟩
theorem NwX.grow {h0 h h1 : H} {c p : CV} {x : Shape} (a : NwX h0 h c p x) (g : Grow h h1) : NwX h0 h1 c p x := ⟨a.c, a.out.grow g⟩
theorem SlX.grow {h h1 : H} {c p : CV} {x : Shape} (a : SlX h c p x) (g : Grow h h1) : SlX h1 c p x := ⟨a.c, a.out.grow g⟩
structure miniX (x : Shape) : Prop where
  len : x.names.length ≤ 1048576
  nm : ∀ s ∈ x.names, s.size ≤ 1048576
def wtX (x : Shape) : Nat := wtL wtS x.names
theorem wtX_sm {x : Shape} (h : wtX x ≤ 1048576) : miniX x := by
  unfold wtX wtL at h
  exact ⟨by omega, fun s hs => by have := wsum_mem (f := wtS) hs; unfold wtS at this h; omega⟩
structure DomX (h : H) (c p : CV) (x : Shape) : Prop where
  c : c = .int .i64 x.count
  rd : ∃ ty, Sl encS 1 ty h (.one p) x.names
  k0 : x.names.length ≤ far
  nm : ∀ s ∈ x.names, s.size ≤ far
theorem DomX.grow {h h1 : H} {c p : CV} {x : Shape} (d : DomX h c p x) (g : Grow h h1) : DomX h1 c p x := ⟨d.c, d.rd.imp fun _ y => y.grow g, d.k0, d.nm⟩
/-! laws.szStringS -/
def L68_0 : List AStep := [⟨.mov (.c (.int .i64 0)), (some 4), none, []⟩]
theorem v68_0 : VS L68_0.eq_1 := rfl
def L68_1 : List AStep := [⟨.mov (.t 9), (some 1), none, []⟩]
theorem v68_1 : VS L68_1.eq_1 := rfl
def L68_2 : List AStep := ⟨.len (.t 7), (some 8), none, []⟩ :: ⟨.bin .sub (.t 6) (.t 8), (some 9), none, []⟩ :: L68_1
theorem v68_2 : VS L68_2.eq_1 := rfl
def L68_3 : List AStep := ⟨.mov (.t 1), (some 6), none, []⟩ :: ⟨.mov (.t 0), (some 7), none, []⟩ :: L68_2
theorem v68_3 : VS L68_3.eq_1 := rfl
def L68_4 : List AStep := [⟨.mov (.t 1), (some 10), none, []⟩, ⟨.bin .lss (.t 10) (.c (.int .i64 0)), (some 11), none, []⟩]
theorem v68_4 : VS L68_4.eq_1 := rfl
def L68_5 : List AStep := [⟨.mov (.c (.int .i64 (-1))), (some 4), none, []⟩]
theorem v68_5 : VS L68_5.eq_1 := rfl
def L68_6 : List AStep := [⟨.mov (.c (.int .i64 0)), (some 5), none, []⟩]
theorem v68_6 : VS L68_6.eq_1 := rfl
def L68_7 : List AStep := [⟨.len (.t 13), (some 14), none, []⟩, ⟨.bin .lss (.t 12) (.t 14), (some 15), none, []⟩]
theorem v68_7 : VS L68_7.eq_1 := rfl
def L68_8 : List AStep := ⟨.mov (.t 5), (some 12), none, []⟩ :: ⟨.mov (.t 0), (some 13), none, []⟩ :: L68_7
theorem v68_8 : VS L68_8.eq_1 := rfl
def L68_9 : List AStep := [⟨.bin .sub (.t 18) (.t 23), (some 24), none, []⟩, ⟨.mov (.t 24), (some 1), none, []⟩]
theorem v68_9 : VS L68_9.eq_1 := rfl
def L68_10 : List AStep := ⟨.load 1 false (.t 21), (some 22), none, []⟩ :: ⟨.lenStr (.t 22), (some 23), none, []⟩ :: L68_9
theorem v68_10 : VS L68_10.eq_1 := rfl
def L68_11 : List AStep := ⟨.mov (.t 5), (some 20), none, []⟩ :: ⟨.iaddr 1 (.t 19) (.t 20), (some 21), none, []⟩ :: L68_10
theorem v68_11 : VS L68_11.eq_1 := rfl
def L68_12 : List AStep := ⟨.mov (.t 1), (some 18), none, []⟩ :: ⟨.mov (.t 0), (some 19), none, []⟩ :: L68_11
theorem v68_12 : VS L68_12.eq_1 := rfl
def L68_13 : List AStep := [⟨.mov (.t 1), (some 25), none, []⟩, ⟨.bin .lss (.t 25) (.c (.int .i64 0)), (some 26), none, []⟩]
theorem v68_13 : VS L68_13.eq_1 := rfl
def L68_14 : List AStep := [⟨.mov (.c (.int .i64 (-1))), (some 4), none, []⟩]
theorem v68_14 : VS L68_14.eq_1 := rfl
def L68_15 : List AStep := [⟨.mov (.t 17), (some 5), none, []⟩]
theorem v68_15 : VS L68_15.eq_1 := rfl
def L68_16 : List AStep := ⟨.mov (.t 5), (some 16), none, []⟩ :: ⟨.bin .add (.t 16) (.c (.int .i64 1)), (some 17), none, []⟩ :: L68_15
theorem v68_16 : VS L68_16.eq_1 := rfl
def L68_17 : List AStep := [⟨.mov (.t 1), (some 27), none, []⟩, ⟨.mov (.t 27), (some 4), none, []⟩]
theorem v68_17 : VS L68_17.eq_1 := rfl
def C68_0 : ACode := .seq (.reg L68_5) .ret
theorem u68_0 : VC C68_0.eq_1 := rfl
def C68_1 : ACode := .cond (.t 11) C68_0 .skip
theorem u68_1 : VC C68_1.eq_1 := rfl
def C68_2 : ACode := .seq (.reg L68_4) C68_1
theorem u68_2 : VC C68_2.eq_1 := rfl
def C68_3 : ACode := .cond (.t 15) .skip (.exit 0)
theorem u68_3 : VC C68_3.eq_1 := rfl
def C68_4 : ACode := .seq (.reg L68_8) C68_3
theorem u68_4 : VC C68_4.eq_1 := rfl
def C68_5 : ACode := .seq (.reg L68_14) .ret
theorem u68_5 : VC C68_5.eq_1 := rfl
def C68_6 : ACode := .cond (.t 26) C68_5 .skip
theorem u68_6 : VC C68_6.eq_1 := rfl
def C68_7 : ACode := .seq (.reg L68_13) C68_6
theorem u68_7 : VC C68_7.eq_1 := rfl
def C68_8 : ACode := .seq (.reg L68_12) C68_7
theorem u68_8 : VC C68_8.eq_1 := rfl
def C68_9 : ACode := .block 1 C68_8
theorem u68_9 : VC C68_9.eq_1 := rfl
def C68_10 : ACode := .seq C68_9 (.reg L68_16)
theorem u68_10 : VC C68_10.eq_1 := rfl
def C68_11 : ACode := .seq C68_4 C68_10
theorem u68_11 : VC C68_11.eq_1 := rfl
def C68_12 : ACode := .block 0 (.loop C68_11)
theorem u68_12 : VC C68_12.eq_1 := rfl
def C68_13 : ACode := .seq (.reg L68_6) C68_12
theorem u68_13 : VC C68_13.eq_1 := rfl
def C68_14 : ACode := .seq (.reg L68_17) .ret
theorem u68_14 : VC C68_14.eq_1 := rfl
def C68_15 : ACode := .seq C68_13 C68_14
theorem u68_15 : VC C68_15.eq_1 := rfl
def C68_16 : ACode := .seq C68_2 C68_15
theorem u68_16 : VC C68_16.eq_1 := rfl
def C68_17 : ACode := .seq (.reg L68_3) C68_16
theorem u68_17 : VC C68_17.eq_1 := rfl
def C68_18 : ACode := .seq (.reg L68_0) C68_17
theorem u68_18 : VC C68_18.eq_1 := rfl
def F68 : AFunc := ⟨28, [.tmp 4], C68_18⟩
theorem cF68 : compB Try.prog 68 = some F68 := by kernel_rfl
attribute [local go_sem ↓] u68_0 u68_1 u68_2 u68_3 u68_4 u68_5 u68_6 u68_7 u68_8 u68_9 u68_10 u68_11 u68_12 u68_13 u68_14 u68_15 u68_16 u68_17 u68_18 v68_0 v68_1 v68_2 v68_3 v68_4 v68_5 v68_6 v68_7 v68_8 v68_9 v68_10 v68_11 v68_12 v68_13 v68_14 v68_15 v68_16 v68_17
theorem c_szStringS {ty : Nat} (l : List ByteArray) (v : AV) (left : Int) (h : H) (h1 : 0 ≤ left) (h2 : left ≤ 1048576) (hl : Sl encS 1 ty h v l) (k0 : l.length ≤ far) (k1 : ∀ x ∈ l, x.size ≤ far) : bm Try.prog 68 [v, .one (.int .i64 left)] h = some (ii (szr left (wtL wtS l)), h) := by
  refine bm_eq cF68 ?_
  by_cases e : left - (l.length : Int) < 0
  · simp +contextual (maxSteps := 2000000) only [go_sem, Nat.reduceEqDiff, reduceCtorEq, Nat.reduceAdd, Nat.reduceLeDiff, F68, hl.len, i64_sub h1 h2 k0, decide_eq_true e]
    unfold szr wtL
    rw [if_pos (by omega)]
  simp +contextual (maxSteps := 2000000) only [go_sem, Nat.reduceEqDiff, reduceCtorEq, Nat.reduceAdd, Nat.reduceLeDiff, F68, hl.len, i64_sub h1 h2 k0, decide_eq_false e]
  refine wpC_loop (fun i T L h' => h' = h ∧ T 0 = .v v ∧ T 5 = .v (.one (.int .i64 i)) ∧ T 1 = .v (.one (.int .i64 (left - (l.length : Int) - (wsum wtS l i : Int)))) ∧ 0 ≤ left - (l.length : Int) - (wsum wtS l i : Int)) l.length ?_ ?_ (Nat.zero_le _) ?_
  · rintro i T L h' hi ⟨rfl, t0, t5, t1, hw⟩
    have hm := List.getElem_mem hi
    have e2 := wsum_next (f := wtS) hi
    have e3 := wsum_le (f := wtS) (l := l) (show i + 1 ≤ l.length by omega)
    have e1 := i64_sub hw (by omega) (k1 _ hm)
    by_cases e4 : left - (l.length : Int) - (wsum wtS l i : Int) - (l[i].size : Int) < 0
    · simp +contextual (maxSteps := 2000000) only [go_sem, Nat.reduceEqDiff, reduceCtorEq, Nat.reduceAdd, Nat.reduceLeDiff, t0, t1, t5, hl.len, hl.iaddr hi, hl.oneO hi, e1, lt_true hi, decide_eq_true e4]
      rw [show wtS l[i] = l[i].size from rfl] at e2
      unfold szr wtL
      rw [if_pos (by omega)]
    · simp +contextual (maxSteps := 2000000) only [go_sem, Nat.reduceEqDiff, reduceCtorEq, Nat.reduceAdd, Nat.reduceLeDiff, t0, t1, t5, hl.len, hl.iaddr hi, hl.oneO hi, e1, lt_true hi, decide_eq_false e4]
      have e5 : left - (l.length : Int) - (wsum wtS l i : Int) - (l[i].size : Int) = left - (l.length : Int) - (wsum wtS l (i + 1) : Int) := by
        rw [e2]
        unfold wtS
        omega
      rw [wrap_next hi (by omega), e5]
      exact ⟨rfl, rfl, by omega⟩
  · rintro T L h' ⟨rfl, t0, t5, t1, hw⟩
    simp +contextual (maxSteps := 2000000) only [go_sem, Nat.reduceEqDiff, reduceCtorEq, Nat.reduceAdd, Nat.reduceLeDiff, t0, t1, t5, hl.len, lt_false]
    unfold szr wtL
    rw [if_neg (by omega)]
    rw [show left - (l.length : Int) - (wsum wtS l l.length : Int) = left - ((l.length + wsum wtS l l.length : Nat) : Int) by omega]
  · simp +contextual (maxSteps := 2000000) only [go_sem, Nat.reduceEqDiff, reduceCtorEq, Nat.reduceAdd, Nat.reduceLeDiff, wsum_zero]
    (repeat' (first | refine And.intro ?_ ?_ | intro _)) <;> first | rfl | (simp; done) | (simp; omega)
/-! laws.szShape -/
def L26_0 : List AStep := [⟨.box 63 (.t 0), (some 2), none, []⟩, ⟨.mov (.c (.int .i64 0)), (some 4), none, []⟩]
theorem v26_0 : VS L26_0.eq_1 := rfl
def L26_1 : List AStep := [⟨.mov (.t 8), (some 1), none, []⟩]
theorem v26_1 : VS L26_1.eq_1 := rfl
def L26_2 : List AStep := ⟨.mov (.t 1), (some 7), none, []⟩ :: ⟨.call 68 [(.t 6), (.t 7)], (some 8), none, []⟩ :: L26_1
theorem v26_2 : VS L26_2.eq_1 := rfl
def L26_3 : List AStep := ⟨.faddr 1 (.t 2), (some 5), none, []⟩ :: ⟨.load 1 false (.t 5), (some 6), none, []⟩ :: L26_2
theorem v26_3 : VS L26_3.eq_1 := rfl
def L26_4 : List AStep := [⟨.mov (.t 1), (some 9), none, []⟩, ⟨.bin .lss (.t 9) (.c (.int .i64 0)), (some 10), none, []⟩]
theorem v26_4 : VS L26_4.eq_1 := rfl
def L26_5 : List AStep := [⟨.mov (.c (.int .i64 (-1))), (some 4), none, []⟩]
theorem v26_5 : VS L26_5.eq_1 := rfl
def L26_6 : List AStep := [⟨.mov (.t 1), (some 11), none, []⟩, ⟨.mov (.t 11), (some 4), none, []⟩]
theorem v26_6 : VS L26_6.eq_1 := rfl
def C26_0 : ACode := .seq (.reg L26_5) .ret
theorem u26_0 : VC C26_0.eq_1 := rfl
def C26_1 : ACode := .cond (.t 10) C26_0 .skip
theorem u26_1 : VC C26_1.eq_1 := rfl
def C26_2 : ACode := .seq (.reg L26_4) C26_1
theorem u26_2 : VC C26_2.eq_1 := rfl
def C26_3 : ACode := .seq (.reg L26_6) .ret
theorem u26_3 : VC C26_3.eq_1 := rfl
def C26_4 : ACode := .seq C26_2 C26_3
theorem u26_4 : VC C26_4.eq_1 := rfl
def C26_5 : ACode := .seq (.reg L26_3) C26_4
theorem u26_5 : VC C26_5.eq_1 := rfl
def C26_6 : ACode := .seq (.reg L26_0) C26_5
theorem u26_6 : VC C26_6.eq_1 := rfl
def F26 : AFunc := ⟨12, [.tmp 4], C26_6⟩
theorem cF26 : compB Try.prog 26 = some F26 := by kernel_rfl
attribute [local go_sem ↓] u26_0 u26_1 u26_2 u26_3 u26_4 u26_5 u26_6 v26_0 v26_1 v26_2 v26_3 v26_4 v26_5 v26_6
theorem k_szX (x : Shape) (c p : CV) (left : Int) (h : H) (h1 : 0 ≤ left) (h2 : left ≤ 1048576) (d : DomX h c p x) : bm Try.prog 26 [.agg [c, p], .one (.int .i64 left)] h = some (ii (szr left (wtX x)), h) := by
  refine bm_eq cF26 ?_
  obtain ⟨ty, hl⟩ := d.rd
  have e1 := c_szStringS x.names (.one p) left h h1 h2 hl d.k0 d.nm
  unfold wtX
  by_cases b1 : szr left (wtL wtS x.names) < 0
  · simp +contextual (maxSteps := 2000000) only [go_sem, Nat.reduceEqDiff, reduceCtorEq, Nat.reduceAdd, Nat.reduceLeDiff, F26, e1, decide_eq_true b1]
    unfold szr at b1 ⊢
    rw [if_pos (by split at b1 <;> omega)]
  · simp +contextual (maxSteps := 2000000) only [go_sem, Nat.reduceEqDiff, reduceCtorEq, Nat.reduceAdd, Nat.reduceLeDiff, F26, e1, decide_eq_false b1]
/-! laws.toShape -/
def L29_0 : List AStep := [⟨.box 63 (.t 0), (some 1), none, []⟩, ⟨.alloc 71 [(.int .i64 0), (.sl none 0 (some 0))], (some 2), none, []⟩]
theorem v29_0 : VS L29_0.eq_1 := rfl
def L29_1 : List AStep := [⟨.alloc 71 [(.int .i64 0), (.sl none 0 (some 0))], (some 3), none, []⟩]
theorem v29_1 : VS L29_1.eq_1 := rfl
def L29_2 : List AStep := [⟨.faddr 0 (.t 3), (some 6), none, []⟩, ⟨.store 1 (.t 6) (.t 5), none, none, []⟩]
theorem v29_2 : VS L29_2.eq_1 := rfl
def L29_3 : List AStep := ⟨.faddr 0 (.t 1), (some 4), none, []⟩ :: ⟨.load 1 false (.t 4), (some 5), none, []⟩ :: L29_2
theorem v29_3 : VS L29_3.eq_1 := rfl
def L29_4 : List AStep := [⟨.store 1 (.t 10) (.t 9), none, none, []⟩]
theorem v29_4 : VS L29_4.eq_1 := rfl
def L29_5 : List AStep := ⟨.call 74 [(.t 8)], (some 9), none, []⟩ :: ⟨.faddr 1 (.t 3), (some 10), none, []⟩ :: L29_4
theorem v29_5 : VS L29_5.eq_1 := rfl
def L29_6 : List AStep := ⟨.faddr 1 (.t 1), (some 7), none, []⟩ :: ⟨.load 1 false (.t 7), (some 8), none, []⟩ :: L29_5
theorem v29_6 : VS L29_6.eq_1 := rfl
def L29_7 : List AStep := [⟨.load 2 true (.t 3), (some 11), none, []⟩, ⟨.store 2 (.t 2) (.t 11), none, none, []⟩]
theorem v29_7 : VS L29_7.eq_1 := rfl
def C29_0 : ACode := .seq (.reg L29_7) .ret
theorem u29_0 : VC C29_0.eq_1 := rfl
def C29_1 : ACode := .seq (.reg L29_6) C29_0
theorem u29_1 : VC C29_1.eq_1 := rfl
def C29_2 : ACode := .seq (.reg L29_3) C29_1
theorem u29_2 : VC C29_2.eq_1 := rfl
def C29_3 : ACode := .seq (.reg L29_1) C29_2
theorem u29_3 : VC C29_3.eq_1 := rfl
def C29_4 : ACode := .seq (.reg L29_0) C29_3
theorem u29_4 : VC C29_4.eq_1 := rfl
def F29 : AFunc := ⟨12, [.cell 2 2 true], C29_4⟩
theorem cF29 : compB Try.prog 29 = some F29 := by kernel_rfl
attribute [local go_sem ↓] u29_0 u29_1 u29_2 u29_3 u29_4 v29_0 v29_1 v29_2 v29_3 v29_4 v29_5 v29_6 v29_7
theorem k_toX (x : Shape) (c p : CV) (h : H) (d : DomX h c p x) (m : miniX x) : callK (bm Try.prog 29 [.agg [c, p]] h) fun r h' => Grow h h' ∧ ∃ c' p', r = .agg [c', p'] ∧ NwX h h' c' p' x := by
  refine bm_of cF29 ?_
  obtain ⟨ty, hl⟩ := d.rd
  obtain rfl := d.c
  simp +contextual (maxSteps := 2000000) only [go_sem, Nat.reduceEqDiff, reduceCtorEq, Nat.reduceAdd, Nat.reduceLeDiff, F29]
  refine wp_call (c_toStringS x.names (.one p) h hl m.len) ?_
  rintro r h1 ⟨g1, n1⟩
  obtain ⟨c1, rfl⟩ := n1.one
  simp +contextual (maxSteps := 2000000) only [go_sem, Nat.reduceEqDiff, reduceCtorEq, Nat.reduceAdd, Nat.reduceLeDiff]
  exact gcK_of ⟨g1, _, _, rfl, ⟨rfl, n1⟩⟩ (fun hs _ => ⟨Grow.refl h, _, _, rfl, ⟨rfl, n1.scalar (by simp [AV.scalar, AV.scalars, CV.scalar] at hs ⊢; exact hs) h⟩⟩)
theorem k_eqX (x y : Shape) (c p d q : CV) (h : H) (a : SlX h c p x) (b : SlX h d q y) (m : miniX x) : bm Try.prog 32 [.agg [c, p], .agg [d, q]] h = some (ib (decide (x = y)), h) := by
  obtain rfl := a.c
  obtain rfl := b.c
  exact c_eqShape x y p q h a.out b.out (Nat.le_trans m.len (by decide))
theorem dX {h : H} {m : Nat} {v : AV} (hk : okV Try.prog h (m + 5) 63 v) : ∃ c p x, v = .agg [c, p] ∧ DomX h c p x := by
  obtain ⟨cs, rfl, hj⟩ := okV_agg (by kernel_rfl) hk
  have hk := okA_struct Try.underlying63 hj
  obtain ⟨a, r, rfl, h1, hk⟩ := okF_cons hk
  obtain ⟨b, r, rfl, h2, hk⟩ := okF_cons hk
  obtain rfl := okF_nil hk
  obtain ⟨n, rfl, _⟩ := dInt _ h1
  obtain ⟨p, l, rfl, s1, k1, k2⟩ := okA_list lenS Try.underlying61 (by kernel_rfl) dText h2
  exact ⟨_, p, ⟨n, l⟩, rfl, ⟨rfl, ⟨_, s1⟩, k1, k2⟩⟩
/-! spec.validShape -/
def L70_0 : List AStep := [⟨.box 71 (.t 0), (some 1), none, []⟩, ⟨.mov (.c (.bool false)), (some 2), none, []⟩]
theorem v70_0 : VS L70_0.eq_1 := rfl
def L70_1 : List AStep := [⟨.mov (.c (.int .i64 0)), (some 3), none, []⟩]
theorem v70_1 : VS L70_1.eq_1 := rfl
def L70_2 : List AStep := [⟨.bin .lss (.t 4) (.t 7), (some 8), none, []⟩]
theorem v70_2 : VS L70_2.eq_1 := rfl
def L70_3 : List AStep := ⟨.load 1 false (.t 5), (some 6), none, []⟩ :: ⟨.len (.t 6), (some 7), none, []⟩ :: L70_2
theorem v70_3 : VS L70_3.eq_1 := rfl
def L70_4 : List AStep := ⟨.mov (.t 3), (some 4), none, []⟩ :: ⟨.faddr 1 (.t 1), (some 5), none, []⟩ :: L70_3
theorem v70_4 : VS L70_4.eq_1 := rfl
def L70_5 : List AStep := [⟨.pick (.t 18) (.c (.bool true)) (.t 34), (some 35), none, []⟩]
theorem v70_5 : VS L70_5.eq_1 := rfl
def L70_6 : List AStep := ⟨.bin .leq (.t 26) (.t 32), (some 33), (some (21, true)), []⟩ :: ⟨.pick (.t 21) (.t 33) (.c (.bool false)), (some 34), (some (18, false)), []⟩ :: L70_5
theorem v70_6 : VS L70_6.eq_1 := rfl
def L70_7 : List AStep := ⟨.iaddr 1 (.t 28) (.t 30), (some 31), (some (21, true)), []⟩ :: ⟨.load 1 false (.t 31), (some 32), (some (21, true)), []⟩ :: L70_6
theorem v70_7 : VS L70_7.eq_1 := rfl
def L70_8 : List AStep := ⟨.mov (.t 3), (some 29), (some (21, true)), []⟩ :: ⟨.bin .sub (.t 29) (.c (.int .i64 1)), (some 30), (some (21, true)), []⟩ :: L70_7
theorem v70_8 : VS L70_8.eq_1 := rfl
def L70_9 : List AStep := ⟨.faddr 1 (.t 1), (some 27), (some (21, true)), []⟩ :: ⟨.load 1 false (.t 27), (some 28), (some (21, true)), []⟩ :: L70_8
theorem v70_9 : VS L70_9.eq_1 := rfl
def L70_10 : List AStep := ⟨.iaddr 1 (.t 23) (.t 24), (some 25), (some (21, true)), []⟩ :: ⟨.load 1 false (.t 25), (some 26), (some (21, true)), []⟩ :: L70_9
theorem v70_10 : VS L70_10.eq_1 := rfl
def L70_11 : List AStep := ⟨.load 1 false (.t 22), (some 23), (some (21, true)), []⟩ :: ⟨.mov (.t 3), (some 24), (some (21, true)), []⟩ :: L70_10
theorem v70_11 : VS L70_11.eq_1 := rfl
def L70_12 : List AStep := ⟨.mov (.t 20), (some 21), (some (18, false)), []⟩ :: ⟨.faddr 1 (.t 1), (some 22), (some (21, true)), []⟩ :: L70_11
theorem v70_12 : VS L70_12.eq_1 := rfl
def L70_13 : List AStep := ⟨.mov (.t 3), (some 19), (some (18, false)), []⟩ :: ⟨.bin .gtr (.t 19) (.c (.int .i64 0)), (some 20), (some (18, false)), []⟩ :: L70_12
theorem v70_13 : VS L70_13.eq_1 := rfl
def L70_14 : List AStep := ⟨.not (.t 16), (some 17), none, []⟩ :: ⟨.mov (.t 17), (some 18), none, []⟩ :: L70_13
theorem v70_14 : VS L70_14.eq_1 := rfl
def L70_15 : List AStep := ⟨.load 1 false (.t 14), (some 15), none, []⟩ :: ⟨.call 114 [(.t 15)], (some 16), none, []⟩ :: L70_14
theorem v70_15 : VS L70_15.eq_1 := rfl
def L70_16 : List AStep := ⟨.mov (.t 3), (some 13), none, []⟩ :: ⟨.iaddr 1 (.t 12) (.t 13), (some 14), none, []⟩ :: L70_15
theorem v70_16 : VS L70_16.eq_1 := rfl
def L70_17 : List AStep := ⟨.faddr 1 (.t 1), (some 11), none, []⟩ :: ⟨.load 1 false (.t 11), (some 12), none, []⟩ :: L70_16
theorem v70_17 : VS L70_17.eq_1 := rfl
def L70_18 : List AStep := [⟨.mov (.c (.bool false)), (some 2), none, []⟩]
theorem v70_18 : VS L70_18.eq_1 := rfl
def L70_19 : List AStep := [⟨.mov (.t 10), (some 3), none, []⟩]
theorem v70_19 : VS L70_19.eq_1 := rfl
def L70_20 : List AStep := ⟨.mov (.t 3), (some 9), none, []⟩ :: ⟨.bin .add (.t 9) (.c (.int .i64 1)), (some 10), none, []⟩ :: L70_19
theorem v70_20 : VS L70_20.eq_1 := rfl
def L70_21 : List AStep := [⟨.pick (.t 39) (.t 43) (.c (.bool false)), (some 44), none, []⟩, ⟨.mov (.t 44), (some 2), none, []⟩]
theorem v70_21 : VS L70_21.eq_1 := rfl
def L70_22 : List AStep := ⟨.len (.t 41), (some 42), (some (39, true)), []⟩ :: ⟨.bin .leq (.t 42) (.c (.int .i64 8)), (some 43), (some (39, true)), []⟩ :: L70_21
theorem v70_22 : VS L70_22.eq_1 := rfl
def L70_23 : List AStep := ⟨.faddr 1 (.t 1), (some 40), (some (39, true)), []⟩ :: ⟨.load 1 false (.t 40), (some 41), (some (39, true)), []⟩ :: L70_22
theorem v70_23 : VS L70_23.eq_1 := rfl
def L70_24 : List AStep := ⟨.call 115 [(.t 37), (.c (.int .i64 0)), (.c (.int .i64 8))], (some 38), none, []⟩ :: ⟨.mov (.t 38), (some 39), none, []⟩ :: L70_23
theorem v70_24 : VS L70_24.eq_1 := rfl
def L70_25 : List AStep := ⟨.faddr 0 (.t 1), (some 36), none, []⟩ :: ⟨.load 1 false (.t 36), (some 37), none, []⟩ :: L70_24
theorem v70_25 : VS L70_25.eq_1 := rfl
def C70_0 : ACode := .cond (.t 8) .skip (.exit 0)
theorem u70_0 : VC C70_0.eq_1 := rfl
def C70_1 : ACode := .seq (.reg L70_4) C70_0
theorem u70_1 : VC C70_1.eq_1 := rfl
def C70_2 : ACode := .seq (.reg L70_18) .ret
theorem u70_2 : VC C70_2.eq_1 := rfl
def C70_3 : ACode := .cond (.t 35) C70_2 .skip
theorem u70_3 : VC C70_3.eq_1 := rfl
def C70_4 : ACode := .seq (.reg L70_17) C70_3
theorem u70_4 : VC C70_4.eq_1 := rfl
def C70_5 : ACode := .block 1 C70_4
theorem u70_5 : VC C70_5.eq_1 := rfl
def C70_6 : ACode := .seq C70_5 (.reg L70_20)
theorem u70_6 : VC C70_6.eq_1 := rfl
def C70_7 : ACode := .seq C70_1 C70_6
theorem u70_7 : VC C70_7.eq_1 := rfl
def C70_8 : ACode := .block 0 (.loop C70_7)
theorem u70_8 : VC C70_8.eq_1 := rfl
def C70_9 : ACode := .seq (.reg L70_1) C70_8
theorem u70_9 : VC C70_9.eq_1 := rfl
def C70_10 : ACode := .seq (.reg L70_25) .ret
theorem u70_10 : VC C70_10.eq_1 := rfl
def C70_11 : ACode := .seq C70_9 C70_10
theorem u70_11 : VC C70_11.eq_1 := rfl
def C70_12 : ACode := .seq (.reg L70_0) C70_11
theorem u70_12 : VC C70_12.eq_1 := rfl
def F70 : AFunc := ⟨45, [.tmp 2], C70_12⟩
theorem cF70 : compB Try.prog 70 = some F70 := by kernel_rfl
attribute [local go_sem ↓] u70_0 u70_1 u70_2 u70_3 u70_4 u70_5 u70_6 u70_7 u70_8 u70_9 u70_10 u70_11 u70_12 v70_0 v70_1 v70_2 v70_3 v70_4 v70_5 v70_6 v70_7 v70_8 v70_9 v70_10 v70_11 v70_12 v70_13 v70_14 v70_15 v70_16 v70_17 v70_18 v70_19 v70_20 v70_21 v70_22 v70_23 v70_24 v70_25
theorem c_validShape (x : Shape) (c p : CV) (h : H) (a : SlX h c p x) (m : miniX x) : bm Try.prog 70 [.agg [c, p]] h = some (ib (okShape x), h) := by
  refine bm_eq cF70 ?_
  obtain rfl := a.c
  have hl := a.out
  have hn := m.len
  unfold okShape
  simp +contextual (maxSteps := 2000000) only [go_sem, Nat.reduceEqDiff, reduceCtorEq, Nat.reduceAdd, Nat.reduceLeDiff, F70]
  refine wpC_loop (fun i T L h' => h' = h ∧ T 1 = .lp 1 0 ∧ (L 1).2 = [.int .i64 x.count, p] ∧ T 3 = .v (.one (.int .i64 i)) ∧ Upto (stepN x.names) i) x.names.length ?_ ?_ (Nat.zero_le _) ?_
  · rintro i T L h' hi ⟨rfl, t1, l1, t3, hu⟩
    have e1 := c_validName x.names[i] h' (Nat.lt_of_le_of_lt (m.nm _ (List.getElem_mem hi)) (by decide))
    cases b1 : okName x.names[i] with
    | false =>
      have b2 : stepN x.names i = false := by
        cases i with
        | zero => rw [stepN_zero hi, b1]
        | succ j => rw [stepN_succ hi, b1]; rfl
      simp +contextual (maxSteps := 2000000) only [go_sem, Nat.reduceEqDiff, reduceCtorEq, Nat.reduceAdd, Nat.reduceLeDiff, t1, l1, t3, hl.len, hl.iaddr hi, hl.oneO hi, lt_true hi, e1, b1, okNames_not hi b2, Bool.false_and]
    | true =>
    cases i with
    | zero =>
      have hz : decide (((0 : Nat) : Int) > 0) = false := rfl
      simp +contextual (maxSteps := 2000000) only [go_sem, Nat.reduceEqDiff, reduceCtorEq, Nat.reduceAdd, Nat.reduceLeDiff, t1, l1, t3, hl.len, hl.iaddr hi, hl.oneO hi, lt_true hi, e1, b1, hz]
      exact ⟨by rw [wrap_next hi (by omega)], hu.next (by rw [stepN_zero hi, b1])⟩
    | succ j =>
      have hj : j < x.names.length := by omega
      have hz : decide (((j + 1 : Nat) : Int) > 0) = true := decide_eq_true (by omega)
      have e2 := stepN_succ hi
      rw [b1, Bool.true_and] at e2
      cases b3 : sLess x.names[j] x.names[j + 1] with
      | true =>
        simp +contextual (maxSteps := 2000000) only [go_sem, Nat.reduceEqDiff, reduceCtorEq, Nat.reduceAdd, Nat.reduceLeDiff, t1, l1, t3, hl.len, hl.iaddr hi, hl.oneO hi, hl.iaddr hj, hl.oneO hj, lt_true hi, e1, b1, hz, wrap_pred (show j < 2 ^ 62 by omega), leq_not, b3]
        exact ⟨by rw [wrap_next hi (by omega)], hu.next (by rw [e2, b3])⟩
      | false =>
        simp +contextual (maxSteps := 2000000) only [go_sem, Nat.reduceEqDiff, reduceCtorEq, Nat.reduceAdd, Nat.reduceLeDiff, t1, l1, t3, hl.len, hl.iaddr hi, hl.oneO hi, hl.iaddr hj, hl.oneO hj, lt_true hi, e1, b1, hz, wrap_pred (show j < 2 ^ 62 by omega), leq_not, b3, okNames_not hi (e2.trans b3), Bool.false_and]
  · rintro T L h' ⟨rfl, t1, l1, t3, hu⟩
    have e4 : okNames x.names = true := hu.all
    cases b5 : decide (0 ≤ x.count) && decide (x.count ≤ 8) with
    | false => simp +contextual (maxSteps := 2000000) only [go_sem, Nat.reduceEqDiff, reduceCtorEq, Nat.reduceAdd, Nat.reduceLeDiff, t1, l1, t3, hl.len, lt_false, c_inRange, b5, e4, Bool.true_and, Bool.false_and]
    | true =>
      rw [Bool.and_eq_true] at b5
      simp +contextual (maxSteps := 2000000) only [go_sem, Nat.reduceEqDiff, reduceCtorEq, Nat.reduceAdd, Nat.reduceLeDiff, t1, l1, t3, hl.len, lt_false, c_inRange, b5.1, b5.2, e4, Bool.true_and]
  · simp +contextual (maxSteps := 2000000) only [go_sem, Nat.reduceEqDiff, reduceCtorEq, Nat.reduceAdd, Nat.reduceLeDiff]
    exact ⟨rfl, Upto.zero⟩
/-! impl.ValidShape -/
def L75_0 : List AStep := [⟨.box 71 (.t 0), (some 1), none, []⟩, ⟨.mov (.c (.bool false)), (some 2), none, []⟩]
theorem v75_0 : VS L75_0.eq_1 := rfl
def L75_1 : List AStep := [⟨.len (.t 6), (some 7), none, []⟩, ⟨.mov (.c (.int .i64 0)), (some 8), none, []⟩]
theorem v75_1 : VS L75_1.eq_1 := rfl
def L75_2 : List AStep := ⟨.faddr 1 (.t 1), (some 5), none, []⟩ :: ⟨.load 1 false (.t 5), (some 6), none, []⟩ :: L75_1
theorem v75_2 : VS L75_2.eq_1 := rfl
def L75_3 : List AStep := [⟨.bin .lss (.t 8) (.t 7), (some 9), none, []⟩]
theorem v75_3 : VS L75_3.eq_1 := rfl
def L75_4 : List AStep := [⟨.mov (.t 12), (some 4), none, []⟩]
theorem v75_4 : VS L75_4.eq_1 := rfl
def L75_5 : List AStep := ⟨.load 1 false (.t 11), (some 12), none, []⟩ :: ⟨.mov (.t 10), (some 3), none, []⟩ :: L75_4
theorem v75_5 : VS L75_5.eq_1 := rfl
def L75_6 : List AStep := ⟨.mov (.t 8), (some 10), none, []⟩ :: ⟨.iaddr 1 (.t 6) (.t 8), (some 11), none, []⟩ :: L75_5
theorem v75_6 : VS L75_6.eq_1 := rfl
def L75_7 : List AStep := [⟨.pick (.t 16) (.c (.bool true)) (.t 28), (some 29), none, []⟩]
theorem v75_7 : VS L75_7.eq_1 := rfl
def L75_8 : List AStep := ⟨.bin .geq (.t 25) (.t 26), (some 27), (some (19, true)), []⟩ :: ⟨.pick (.t 19) (.t 27) (.c (.bool false)), (some 28), (some (16, false)), []⟩ :: L75_7
theorem v75_8 : VS L75_8.eq_1 := rfl
def L75_9 : List AStep := ⟨.load 1 false (.t 24), (some 25), (some (19, true)), []⟩ :: ⟨.mov (.t 4), (some 26), (some (19, true)), []⟩ :: L75_8
theorem v75_9 : VS L75_9.eq_1 := rfl
def L75_10 : List AStep := ⟨.bin .sub (.t 22) (.c (.int .i64 1)), (some 23), (some (19, true)), []⟩ :: ⟨.iaddr 1 (.t 21) (.t 23), (some 24), (some (19, true)), []⟩ :: L75_9
theorem v75_10 : VS L75_10.eq_1 := rfl
def L75_11 : List AStep := ⟨.load 1 false (.t 20), (some 21), (some (19, true)), []⟩ :: ⟨.mov (.t 3), (some 22), (some (19, true)), []⟩ :: L75_10
theorem v75_11 : VS L75_11.eq_1 := rfl
def L75_12 : List AStep := ⟨.mov (.t 18), (some 19), (some (16, false)), []⟩ :: ⟨.faddr 1 (.t 1), (some 20), (some (19, true)), []⟩ :: L75_11
theorem v75_12 : VS L75_12.eq_1 := rfl
def L75_13 : List AStep := ⟨.mov (.t 3), (some 17), (some (16, false)), []⟩ :: ⟨.bin .gtr (.t 17) (.c (.int .i64 0)), (some 18), (some (16, false)), []⟩ :: L75_12
theorem v75_13 : VS L75_13.eq_1 := rfl
def L75_14 : List AStep := ⟨.not (.t 14), (some 15), none, []⟩ :: ⟨.mov (.t 15), (some 16), none, []⟩ :: L75_13
theorem v75_14 : VS L75_14.eq_1 := rfl
def L75_15 : List AStep := ⟨.mov (.t 4), (some 13), none, []⟩ :: ⟨.call 118 [(.t 13)], (some 14), none, []⟩ :: L75_14
theorem v75_15 : VS L75_15.eq_1 := rfl
def L75_16 : List AStep := [⟨.mov (.c (.bool false)), (some 2), none, []⟩]
theorem v75_16 : VS L75_16.eq_1 := rfl
def L75_17 : List AStep := [⟨.bin .add (.t 8) (.c (.int .i64 1)), (some 30), none, []⟩, ⟨.mov (.t 30), (some 8), none, []⟩]
theorem v75_17 : VS L75_17.eq_1 := rfl
def L75_18 : List AStep := [⟨.pick (.t 34) (.t 38) (.c (.bool false)), (some 39), none, []⟩, ⟨.mov (.t 39), (some 2), none, []⟩]
theorem v75_18 : VS L75_18.eq_1 := rfl
def L75_19 : List AStep := ⟨.len (.t 36), (some 37), (some (34, true)), []⟩ :: ⟨.bin .leq (.t 37) (.c (.int .i64 8)), (some 38), (some (34, true)), []⟩ :: L75_18
theorem v75_19 : VS L75_19.eq_1 := rfl
def L75_20 : List AStep := ⟨.faddr 1 (.t 1), (some 35), (some (34, true)), []⟩ :: ⟨.load 1 false (.t 35), (some 36), (some (34, true)), []⟩ :: L75_19
theorem v75_20 : VS L75_20.eq_1 := rfl
def L75_21 : List AStep := ⟨.call 119 [(.t 32), (.c (.int .i64 0)), (.c (.int .i64 8))], (some 33), none, []⟩ :: ⟨.mov (.t 33), (some 34), none, []⟩ :: L75_20
theorem v75_21 : VS L75_21.eq_1 := rfl
def L75_22 : List AStep := ⟨.faddr 0 (.t 1), (some 31), none, []⟩ :: ⟨.load 1 false (.t 31), (some 32), none, []⟩ :: L75_21
theorem v75_22 : VS L75_22.eq_1 := rfl
def C75_0 : ACode := .cond (.t 9) .skip (.exit 0)
theorem u75_0 : VC C75_0.eq_1 := rfl
def C75_1 : ACode := .seq (.reg L75_16) .ret
theorem u75_1 : VC C75_1.eq_1 := rfl
def C75_2 : ACode := .cond (.t 29) C75_1 .skip
theorem u75_2 : VC C75_2.eq_1 := rfl
def C75_3 : ACode := .seq (.reg L75_15) C75_2
theorem u75_3 : VC C75_3.eq_1 := rfl
def C75_4 : ACode := .seq (.reg L75_6) C75_3
theorem u75_4 : VC C75_4.eq_1 := rfl
def C75_5 : ACode := .block 1 C75_4
theorem u75_5 : VC C75_5.eq_1 := rfl
def C75_6 : ACode := .seq C75_5 (.reg L75_17)
theorem u75_6 : VC C75_6.eq_1 := rfl
def C75_7 : ACode := .seq C75_0 C75_6
theorem u75_7 : VC C75_7.eq_1 := rfl
def C75_8 : ACode := .seq (.reg L75_3) C75_7
theorem u75_8 : VC C75_8.eq_1 := rfl
def C75_9 : ACode := .block 0 (.loop C75_8)
theorem u75_9 : VC C75_9.eq_1 := rfl
def C75_10 : ACode := .seq (.reg L75_2) C75_9
theorem u75_10 : VC C75_10.eq_1 := rfl
def C75_11 : ACode := .seq (.reg L75_22) .ret
theorem u75_11 : VC C75_11.eq_1 := rfl
def C75_12 : ACode := .seq C75_10 C75_11
theorem u75_12 : VC C75_12.eq_1 := rfl
def C75_13 : ACode := .seq (.reg L75_0) C75_12
theorem u75_13 : VC C75_13.eq_1 := rfl
def F75 : AFunc := ⟨40, [.tmp 2], C75_13⟩
theorem cF75 : compB Try.prog 75 = some F75 := by kernel_rfl
attribute [local go_sem ↓] u75_0 u75_1 u75_2 u75_3 u75_4 u75_5 u75_6 u75_7 u75_8 u75_9 u75_10 u75_11 u75_12 u75_13 v75_0 v75_1 v75_2 v75_3 v75_4 v75_5 v75_6 v75_7 v75_8 v75_9 v75_10 v75_11 v75_12 v75_13 v75_14 v75_15 v75_16 v75_17 v75_18 v75_19 v75_20 v75_21 v75_22
theorem c_ValidShape (x : Shape) (c p : CV) (h : H) (a : SlX h c p x) (m : miniX x) : bm Try.prog 75 [.agg [c, p]] h = some (ib (okShape x), h) := by
  refine bm_eq cF75 ?_
  obtain rfl := a.c
  have hl := a.out
  have hn := m.len
  unfold okShape
  simp +contextual (maxSteps := 2000000) only [go_sem, Nat.reduceEqDiff, reduceCtorEq, Nat.reduceAdd, Nat.reduceLeDiff, F75, hl.len]
  refine wpC_loop (fun i T L h' => h' = h ∧ T 1 = .lp 1 0 ∧ (L 1).2 = [.int .i64 x.count, p] ∧ T 6 = .v (.one p) ∧ T 7 = .v (.one (.int .i64 x.names.length)) ∧ T 8 = .v (.one (.int .i64 i)) ∧ Upto (stepN x.names) i) x.names.length ?_ ?_ (Nat.zero_le _) ?_
  · rintro i T L h' hi ⟨rfl, t1, l1, t6, t7, t8, hu⟩
    have e1 := c_isName x.names[i] h' (Nat.lt_of_le_of_lt (m.nm _ (List.getElem_mem hi)) (by decide))
    cases b1 : okName x.names[i] with
    | false =>
      have b2 : stepN x.names i = false := by
        cases i with
        | zero => rw [stepN_zero hi, b1]
        | succ j => rw [stepN_succ hi, b1]; rfl
      simp +contextual (maxSteps := 2000000) only [go_sem, Nat.reduceEqDiff, reduceCtorEq, Nat.reduceAdd, Nat.reduceLeDiff, t1, l1, t6, t7, t8, hl.iaddr hi, hl.oneO hi, lt_true hi, e1, b1, okNames_not hi b2, Bool.false_and]
    | true =>
    cases i with
    | zero =>
      have hz : decide (((0 : Nat) : Int) > 0) = false := rfl
      simp +contextual (maxSteps := 2000000) only [go_sem, Nat.reduceEqDiff, reduceCtorEq, Nat.reduceAdd, Nat.reduceLeDiff, t1, l1, t6, t7, t8, hl.iaddr hi, hl.oneO hi, lt_true hi, e1, b1, hz]
      exact ⟨by rw [wrap_next hi (by omega)], hu.next (by rw [stepN_zero hi, b1])⟩
    | succ j =>
      have hj : j < x.names.length := by omega
      have hz : decide (((j + 1 : Nat) : Int) > 0) = true := decide_eq_true (by omega)
      have e2 := stepN_succ hi
      rw [b1, Bool.true_and] at e2
      cases b3 : sLess x.names[j] x.names[j + 1] with
      | true =>
        simp +contextual (maxSteps := 2000000) only [go_sem, Nat.reduceEqDiff, reduceCtorEq, Nat.reduceAdd, Nat.reduceLeDiff, t1, l1, t6, t7, t8, hl.iaddr hi, hl.oneO hi, hl.iaddr hj, hl.oneO hj, lt_true hi, e1, b1, hz, wrap_pred (show j < 2 ^ 62 by omega), b3]
        exact ⟨by rw [wrap_next hi (by omega)], hu.next (by rw [e2, b3])⟩
      | false =>
        simp +contextual (maxSteps := 2000000) only [go_sem, Nat.reduceEqDiff, reduceCtorEq, Nat.reduceAdd, Nat.reduceLeDiff, t1, l1, t6, t7, t8, hl.iaddr hi, hl.oneO hi, hl.iaddr hj, hl.oneO hj, lt_true hi, e1, b1, hz, wrap_pred (show j < 2 ^ 62 by omega), b3, okNames_not hi (e2.trans b3), Bool.false_and]
  · rintro T L h' ⟨rfl, t1, l1, t6, t7, t8, hu⟩
    have e4 : okNames x.names = true := hu.all
    cases b5 : decide (0 ≤ x.count) && decide (x.count ≤ 8) with
    | false => simp +contextual (maxSteps := 2000000) only [go_sem, Nat.reduceEqDiff, reduceCtorEq, Nat.reduceAdd, Nat.reduceLeDiff, t1, l1, t6, t7, t8, hl.len, lt_false, c_in, b5, e4, Bool.true_and, Bool.false_and]
    | true =>
      rw [Bool.and_eq_true] at b5
      simp +contextual (maxSteps := 2000000) only [go_sem, Nat.reduceEqDiff, reduceCtorEq, Nat.reduceAdd, Nat.reduceLeDiff, t1, l1, t6, t7, t8, hl.len, lt_false, c_in, b5.1, b5.2, e4, Bool.true_and]
  · simp +contextual (maxSteps := 2000000) only [go_sem, Nat.reduceEqDiff, reduceCtorEq, Nat.reduceAdd, Nat.reduceLeDiff]
    exact ⟨rfl, Upto.zero⟩
theorem takeS {l : List ByteArray} {i : Nat} (hi : i < l.length) : (l.take (i + 1)).map zeroP = (l.take i).map zeroP ++ [zeroP l[i]] := by
  rw [List.take_succ_eq_append_getElem hi, List.map_append]
  rfl
/-! spec.flatOf -/
def L72_0 : List AStep := [⟨.box 71 (.t 0), (some 1), none, []⟩, ⟨.alloc 33 [(.sl none 0 (some 0)), (.sl none 0 (some 0))], (some 2), none, []⟩]
theorem v72_0 : VS L72_0.eq_1 := rfl
def L72_1 : List AStep := [⟨.store 2 (.t 3) (.t 9), none, none, []⟩]
theorem v72_1 : VS L72_1.eq_1 := rfl
def L72_2 : List AStep := ⟨.build [(.sl none 0 (some 0)), (.sl none 0 (some 0))] [(0, 1, (.t 7)), (1, 1, (.t 8))], (some 9), none, []⟩ :: ⟨.alloc 33 [(.sl none 0 (some 0)), (.sl none 0 (some 0))], (some 3), none, []⟩ :: L72_1
theorem v72_2 : VS L72_2.eq_1 := rfl
def L72_3 : List AStep := ⟨.mkslice 3 8 [(.int .i64 0)] (.t 6) (.t 6), (some 7), none, []⟩ :: ⟨.buildSlice 106 0 [(.str (strOfNums [])), (.int .i64 0)] [], (some 8), none, []⟩ :: L72_2
theorem v72_3 : VS L72_3.eq_1 := rfl
def L72_4 : List AStep := ⟨.faddr 0 (.t 1), (some 5), none, []⟩ :: ⟨.load 1 false (.t 5), (some 6), none, []⟩ :: L72_3
theorem v72_4 : VS L72_4.eq_1 := rfl
def L72_5 : List AStep := [⟨.mov (.c (.int .i64 0)), (some 4), none, []⟩]
theorem v72_5 : VS L72_5.eq_1 := rfl
def L72_6 : List AStep := [⟨.bin .lss (.t 10) (.t 13), (some 14), none, []⟩]
theorem v72_6 : VS L72_6.eq_1 := rfl
def L72_7 : List AStep := ⟨.load 1 false (.t 11), (some 12), none, []⟩ :: ⟨.len (.t 12), (some 13), none, []⟩ :: L72_6
theorem v72_7 : VS L72_7.eq_1 := rfl
def L72_8 : List AStep := ⟨.mov (.t 4), (some 10), none, []⟩ :: ⟨.faddr 1 (.t 1), (some 11), none, []⟩ :: L72_7
theorem v72_8 : VS L72_8.eq_1 := rfl
def L72_9 : List AStep := [⟨.faddr 1 (.t 3), (some 27), none, []⟩, ⟨.store 1 (.t 27) (.t 26), none, none, []⟩]
theorem v72_9 : VS L72_9.eq_1 := rfl
def L72_10 : List AStep := ⟨.buildSlice 106 1 [(.str (strOfNums [])), (.int .i64 0)] [(0, 2, (.t 24))], (some 25), none, []⟩ :: ⟨.append 106 2 24 (.t 18) (.t 25), (some 26), none, []⟩ :: L72_9
theorem v72_10 : VS L72_10.eq_1 := rfl
def L72_11 : List AStep := ⟨.load 1 false (.t 22), (some 23), none, []⟩ :: ⟨.build [(.str (strOfNums [])), (.int .i64 0)] [(0, 1, (.t 23))], (some 24), none, []⟩ :: L72_10
theorem v72_11 : VS L72_11.eq_1 := rfl
def L72_12 : List AStep := ⟨.mov (.t 4), (some 21), none, []⟩ :: ⟨.iaddr 1 (.t 20) (.t 21), (some 22), none, []⟩ :: L72_11
theorem v72_12 : VS L72_12.eq_1 := rfl
def L72_13 : List AStep := ⟨.faddr 1 (.t 1), (some 19), none, []⟩ :: ⟨.load 1 false (.t 19), (some 20), none, []⟩ :: L72_12
theorem v72_13 : VS L72_13.eq_1 := rfl
def L72_14 : List AStep := ⟨.faddr 1 (.t 3), (some 17), none, []⟩ :: ⟨.load 1 false (.t 17), (some 18), none, []⟩ :: L72_13
theorem v72_14 : VS L72_14.eq_1 := rfl
def L72_15 : List AStep := [⟨.mov (.t 16), (some 4), none, []⟩]
theorem v72_15 : VS L72_15.eq_1 := rfl
def L72_16 : List AStep := ⟨.mov (.t 4), (some 15), none, []⟩ :: ⟨.bin .add (.t 15) (.c (.int .i64 1)), (some 16), none, []⟩ :: L72_15
theorem v72_16 : VS L72_16.eq_1 := rfl
def L72_17 : List AStep := [⟨.load 2 true (.t 3), (some 28), none, []⟩, ⟨.store 2 (.t 2) (.t 28), none, none, []⟩]
theorem v72_17 : VS L72_17.eq_1 := rfl
def C72_0 : ACode := .cond (.t 14) .skip (.exit 0)
theorem u72_0 : VC C72_0.eq_1 := rfl
def C72_1 : ACode := .seq (.reg L72_8) C72_0
theorem u72_1 : VC C72_1.eq_1 := rfl
def C72_2 : ACode := .block 1 (.reg L72_14)
theorem u72_2 : VC C72_2.eq_1 := rfl
def C72_3 : ACode := .seq C72_2 (.reg L72_16)
theorem u72_3 : VC C72_3.eq_1 := rfl
def C72_4 : ACode := .seq C72_1 C72_3
theorem u72_4 : VC C72_4.eq_1 := rfl
def C72_5 : ACode := .block 0 (.loop C72_4)
theorem u72_5 : VC C72_5.eq_1 := rfl
def C72_6 : ACode := .seq (.reg L72_5) C72_5
theorem u72_6 : VC C72_6.eq_1 := rfl
def C72_7 : ACode := .seq (.reg L72_17) .ret
theorem u72_7 : VC C72_7.eq_1 := rfl
def C72_8 : ACode := .seq C72_6 C72_7
theorem u72_8 : VC C72_8.eq_1 := rfl
def C72_9 : ACode := .seq (.reg L72_4) C72_8
theorem u72_9 : VC C72_9.eq_1 := rfl
def C72_10 : ACode := .seq (.reg L72_0) C72_9
theorem u72_10 : VC C72_10.eq_1 := rfl
def F72 : AFunc := ⟨29, [.cell 2 2 true], C72_10⟩
theorem cF72 : compB Try.prog 72 = some F72 := by kernel_rfl
attribute [local go_sem ↓] u72_0 u72_1 u72_2 u72_3 u72_4 u72_5 u72_6 u72_7 u72_8 u72_9 u72_10 v72_0 v72_1 v72_2 v72_3 v72_4 v72_5 v72_6 v72_7 v72_8 v72_9 v72_10 v72_11 v72_12 v72_13 v72_14 v72_15 v72_16 v72_17
theorem c_flatOf (x : Shape) (c p : CV) (h : H) (a : SlX h c p x) (ok : okShape x = true) : callK (bm Try.prog 72 [.agg [c, p]] h) fun r h' => Grow h h' ∧ ∃ p' n', r = .agg [p', n'] ∧ NwF h h' p' n' (flatS x) := by
  refine bm_of cF72 ?_
  obtain rfl := a.c
  unfold okShape at ok
  simp only [Bool.and_eq_true, decide_eq_true_iff] at ok
  obtain ⟨k, hk⟩ := Int.eq_ofNat_of_zero_le ok.2.1.1
  have hk8 : k ≤ 8 := by omega
  have ek : x.count.toNat = k := by omega
  simp +contextual (maxSteps := 2000000) only [go_sem, Nat.reduceEqDiff, reduceCtorEq, Nat.reduceAdd, Nat.reduceLeDiff, F72, hk]
  refine wp_make (enc := encI) (k := 1) 0 rfl (by omega) (by omega) ?_
  intro h1 w g1 n1 b1
  obtain ⟨d, rfl⟩ := n1.one
  simp +contextual (maxSteps := 2000000) only [go_sem, Nat.reduceEqDiff, reduceCtorEq, Nat.reduceAdd, Nat.reduceLeDiff]
  refine wp_lit (enc := encP) (k := 2) (l := []) rfl rfl ?_
  intro h2 w2 g2 n2 b2
  obtain ⟨e, rfl⟩ := n2.one
  simp +contextual (maxSteps := 2000000) only [go_sem, Nat.reduceEqDiff, reduceCtorEq, Nat.reduceAdd, Nat.reduceLeDiff]
  have y0 : NwF h h2 d e ⟨List.replicate k 0, []⟩ := ⟨n1.grow g2, n2.from g1.n, n1.apart n2⟩
  refine wpC_loop (fun i T L h' => Grow h h' ∧ T 1 = .lp 1 0 ∧ (L 1).2 = [.int .i64 k, p] ∧ T 2 = .lp 2 0 ∧ (L 2).2 = [.sl none 0 (some 0), .sl none 0 (some 0)] ∧ T 3 = .lp 3 0 ∧ (∃ b, (L 3).2 = [d, b] ∧ NwF h h' d b ⟨List.replicate k 0, (x.names.take i).map zeroP⟩) ∧ T 4 = .v (.one (.int .i64 i))) x.names.length ?_ ?_ (Nat.zero_le _) ?_
  · rintro i T L h' hi ⟨g, t1, l1, t2, l2, t3, ⟨b, l3, y⟩, t4⟩
    have hl := a.out.grow g
    simp +contextual (maxSteps := 2000000) only [go_sem, Nat.reduceEqDiff, reduceCtorEq, Nat.reduceAdd, Nat.reduceLeDiff, t1, l1, t2, l2, t3, l3, t4, hl.len, hl.iaddr hi, hl.oneO hi, lt_true hi]
    refine wp_lit (enc := encP) (k := 2) (l := [zeroP x.names[i]]) rfl rfl ?_
    intro h3 w3 g3 n3 b3
    simp +contextual (maxSteps := 2000000) only [go_sem, Nat.reduceEqDiff, reduceCtorEq, Nat.reduceAdd, Nat.reduceLeDiff, t1, l1, t2, l2, t3, l3, t4]
    refine wp_append lenP (y.nl.grow g3) (n3.sl lenP) (g.trans g3) (by simp; omega) ?_
    intro h4 s4 g4 n4 st4 hb4
    obtain ⟨c4, rfl⟩ := n4.one
    have y4 := (y.grow g3).appNl n4 st4 hb4
    simp +contextual (maxSteps := 2000000) only [go_sem, Nat.reduceEqDiff, reduceCtorEq, Nat.reduceAdd, Nat.reduceLeDiff, t1, l1, t2, l2, t3, l3, t4]
    exact ⟨g4, ⟨c4, rfl, by rw [takeS hi]; exact y4⟩, by rw [wrap_next hi (by omega)]⟩
  · rintro T L h' ⟨g, t1, l1, t2, l2, t3, ⟨b, l3, y⟩, t4⟩
    rw [List.take_length] at y
    have y2 : NwF h h' d b (flatS x) := by unfold flatS; rw [ek]; exact y
    simp +contextual (maxSteps := 2000000) only [go_sem, Nat.reduceEqDiff, reduceCtorEq, Nat.reduceAdd, Nat.reduceLeDiff, t1, l1, t2, l2, t3, l3, t4, (a.out.grow g).len, lt_false]
    exact gcK_of ⟨g, _, _, rfl, y2⟩ (fun hs _ => ⟨Grow.refl h, _, _, rfl, y2.scalar hs h⟩)
  · simp +contextual (maxSteps := 2000000) only [go_sem, Nat.reduceEqDiff, reduceCtorEq, Nat.reduceAdd, Nat.reduceLeDiff]
    exact ⟨g1.trans g2, ⟨e, rfl, y0⟩, rfl⟩
/-! impl.FlatOf -/
def L77_0 : List AStep := [⟨.box 71 (.t 0), (some 1), none, []⟩, ⟨.alloc 33 [(.sl none 0 (some 0)), (.sl none 0 (some 0))], (some 2), none, []⟩]
theorem v77_0 : VS L77_0.eq_1 := rfl
def L77_1 : List AStep := [⟨.not (.t 7), (some 8), none, []⟩]
theorem v77_1 : VS L77_1.eq_1 := rfl
def L77_2 : List AStep := ⟨.load 2 true (.t 1), (some 6), none, []⟩ :: ⟨.call 75 [(.t 6)], (some 7), none, []⟩ :: L77_1
theorem v77_2 : VS L77_2.eq_1 := rfl
def L77_3 : List AStep := [⟨.build [(.sl none 0 (some 0)), (.sl none 0 (some 0))] [], (some 9), none, []⟩, ⟨.store 2 (.t 2) (.t 9), none, none, []⟩]
theorem v77_3 : VS L77_3.eq_1 := rfl
def L77_4 : List AStep := [⟨.alloc 33 [(.sl none 0 (some 0)), (.sl none 0 (some 0))], (some 3), none, []⟩, ⟨.store 2 (.t 3) (.t 13), none, none, []⟩]
theorem v77_4 : VS L77_4.eq_1 := rfl
def L77_5 : List AStep := ⟨.mkslice 3 8 [(.int .i64 0)] (.t 11) (.t 11), (some 12), none, []⟩ :: ⟨.build [(.sl none 0 (some 0)), (.sl none 0 (some 0))] [(0, 1, (.t 12))], (some 13), none, []⟩ :: L77_4
theorem v77_5 : VS L77_5.eq_1 := rfl
def L77_6 : List AStep := ⟨.faddr 0 (.t 1), (some 10), none, []⟩ :: ⟨.load 1 false (.t 10), (some 11), none, []⟩ :: L77_5
theorem v77_6 : VS L77_6.eq_1 := rfl
def L77_7 : List AStep := [⟨.len (.t 15), (some 16), none, []⟩, ⟨.mov (.c (.int .i64 0)), (some 17), none, []⟩]
theorem v77_7 : VS L77_7.eq_1 := rfl
def L77_8 : List AStep := ⟨.faddr 1 (.t 1), (some 14), none, []⟩ :: ⟨.load 1 false (.t 14), (some 15), none, []⟩ :: L77_7
theorem v77_8 : VS L77_8.eq_1 := rfl
def L77_9 : List AStep := [⟨.bin .lss (.t 17) (.t 16), (some 18), none, []⟩]
theorem v77_9 : VS L77_9.eq_1 := rfl
def L77_10 : List AStep := [⟨.mov (.t 20), (some 5), none, []⟩]
theorem v77_10 : VS L77_10.eq_1 := rfl
def L77_11 : List AStep := ⟨.iaddr 1 (.t 15) (.t 17), (some 19), none, []⟩ :: ⟨.load 1 false (.t 19), (some 20), none, []⟩ :: L77_10
theorem v77_11 : VS L77_11.eq_1 := rfl
def L77_12 : List AStep := [⟨.faddr 1 (.t 3), (some 27), none, []⟩, ⟨.store 1 (.t 27) (.t 26), none, none, []⟩]
theorem v77_12 : VS L77_12.eq_1 := rfl
def L77_13 : List AStep := ⟨.buildSlice 106 1 [(.str (strOfNums [])), (.int .i64 0)] [(0, 2, (.t 24))], (some 25), none, []⟩ :: ⟨.append 106 2 24 (.t 22) (.t 25), (some 26), none, []⟩ :: L77_12
theorem v77_13 : VS L77_13.eq_1 := rfl
def L77_14 : List AStep := ⟨.mov (.t 5), (some 23), none, []⟩ :: ⟨.build [(.str (strOfNums [])), (.int .i64 0)] [(0, 1, (.t 23)), (1, 1, (.c (.int .i64 0)))], (some 24), none, []⟩ :: L77_13
theorem v77_14 : VS L77_14.eq_1 := rfl
def L77_15 : List AStep := ⟨.faddr 1 (.t 3), (some 21), none, []⟩ :: ⟨.load 1 false (.t 21), (some 22), none, []⟩ :: L77_14
theorem v77_15 : VS L77_15.eq_1 := rfl
def L77_16 : List AStep := [⟨.bin .add (.t 17) (.c (.int .i64 1)), (some 28), none, []⟩, ⟨.mov (.t 28), (some 17), none, []⟩]
theorem v77_16 : VS L77_16.eq_1 := rfl
def L77_17 : List AStep := [⟨.store 2 (.t 2) (.t 30), none, none, []⟩]
theorem v77_17 : VS L77_17.eq_1 := rfl
def L77_18 : List AStep := ⟨.load 2 true (.t 3), (some 29), none, []⟩ :: ⟨.call 64 [(.t 29)], (some 30), none, []⟩ :: L77_17
theorem v77_18 : VS L77_18.eq_1 := rfl
def C77_0 : ACode := .seq (.reg L77_3) .ret
theorem u77_0 : VC C77_0.eq_1 := rfl
def C77_1 : ACode := .cond (.t 8) C77_0 .skip
theorem u77_1 : VC C77_1.eq_1 := rfl
def C77_2 : ACode := .seq (.reg L77_2) C77_1
theorem u77_2 : VC C77_2.eq_1 := rfl
def C77_3 : ACode := .cond (.t 18) .skip (.exit 0)
theorem u77_3 : VC C77_3.eq_1 := rfl
def C77_4 : ACode := .seq (.reg L77_11) (.reg L77_15)
theorem u77_4 : VC C77_4.eq_1 := rfl
def C77_5 : ACode := .block 1 C77_4
theorem u77_5 : VC C77_5.eq_1 := rfl
def C77_6 : ACode := .seq C77_5 (.reg L77_16)
theorem u77_6 : VC C77_6.eq_1 := rfl
def C77_7 : ACode := .seq C77_3 C77_6
theorem u77_7 : VC C77_7.eq_1 := rfl
def C77_8 : ACode := .seq (.reg L77_9) C77_7
theorem u77_8 : VC C77_8.eq_1 := rfl
def C77_9 : ACode := .block 0 (.loop C77_8)
theorem u77_9 : VC C77_9.eq_1 := rfl
def C77_10 : ACode := .seq (.reg L77_8) C77_9
theorem u77_10 : VC C77_10.eq_1 := rfl
def C77_11 : ACode := .seq (.reg L77_18) .ret
theorem u77_11 : VC C77_11.eq_1 := rfl
def C77_12 : ACode := .seq C77_10 C77_11
theorem u77_12 : VC C77_12.eq_1 := rfl
def C77_13 : ACode := .seq (.reg L77_6) C77_12
theorem u77_13 : VC C77_13.eq_1 := rfl
def C77_14 : ACode := .seq C77_2 C77_13
theorem u77_14 : VC C77_14.eq_1 := rfl
def C77_15 : ACode := .seq (.reg L77_0) C77_14
theorem u77_15 : VC C77_15.eq_1 := rfl
def F77 : AFunc := ⟨31, [.cell 2 2 true], C77_15⟩
theorem cF77 : compB Try.prog 77 = some F77 := by kernel_rfl
attribute [local go_sem ↓] u77_0 u77_1 u77_2 u77_3 u77_4 u77_5 u77_6 u77_7 u77_8 u77_9 u77_10 u77_11 u77_12 u77_13 u77_14 u77_15 v77_0 v77_1 v77_2 v77_3 v77_4 v77_5 v77_6 v77_7 v77_8 v77_9 v77_10 v77_11 v77_12 v77_13 v77_14 v77_15 v77_16 v77_17 v77_18
theorem c_FlatOf (x : Shape) (c p : CV) (h : H) (a : SlX h c p x) (mx : miniX x) (ok : okShape x = true) : callK (bm Try.prog 77 [.agg [c, p]] h) fun r h' => Grow h h' ∧ ∃ p' n', r = .agg [p', n'] ∧ NwF h h' p' n' (flatS x) := by
  refine bm_of cF77 ?_
  have ev := c_ValidShape x c p h a mx
  rw [ok] at ev
  obtain rfl := a.c
  have okf := okShape_flat ok
  unfold okShape at ok
  simp only [Bool.and_eq_true, decide_eq_true_iff] at ok
  obtain ⟨k, hk⟩ := Int.eq_ofNat_of_zero_le ok.2.1.1
  have hk8 : k ≤ 8 := by omega
  have ek : x.count.toNat = k := by omega
  rw [hk] at ev
  simp +contextual (maxSteps := 2000000) only [go_sem, Nat.reduceEqDiff, reduceCtorEq, Nat.reduceAdd, Nat.reduceLeDiff, F77, ev, hk]
  refine wp_make (enc := encI) (k := 1) 0 rfl (by omega) (by omega) ?_
  intro h1 w g1 n1 b1
  obtain ⟨d, rfl⟩ := n1.one
  simp +contextual (maxSteps := 2000000) only [go_sem, Nat.reduceEqDiff, reduceCtorEq, Nat.reduceAdd, Nat.reduceLeDiff, (a.out.grow g1).len]
  have y0 : NwF h h1 d (.sl none 0 (some 0)) ⟨List.replicate k 0, []⟩ := ⟨n1, .nil, Sep.nil.symm⟩
  refine wpC_loop (fun i T L h' => Grow h h' ∧ T 2 = .lp 2 0 ∧ (L 2).2 = [.sl none 0 (some 0), .sl none 0 (some 0)] ∧ T 3 = .lp 3 0 ∧ (∃ b, (L 3).2 = [d, b] ∧ NwF h h' d b ⟨List.replicate k 0, (x.names.take i).map zeroP⟩) ∧ T 15 = .v (.one p) ∧ T 16 = .v (.one (.int .i64 x.names.length)) ∧ T 17 = .v (.one (.int .i64 i))) x.names.length ?_ ?_ (Nat.zero_le _) ?_
  · rintro i T L h' hi ⟨g, t2, l2, t3, ⟨b, l3, y⟩, t15, t16, t17⟩
    have hl := a.out.grow g
    simp +contextual (maxSteps := 2000000) only [go_sem, Nat.reduceEqDiff, reduceCtorEq, Nat.reduceAdd, Nat.reduceLeDiff, t2, l2, t3, l3, t15, t16, t17, hl.iaddr hi, hl.oneO hi, lt_true hi]
    refine wp_lit (enc := encP) (k := 2) (l := [zeroP x.names[i]]) rfl rfl ?_
    intro h3 w3 g3 n3 b3
    simp +contextual (maxSteps := 2000000) only [go_sem, Nat.reduceEqDiff, reduceCtorEq, Nat.reduceAdd, Nat.reduceLeDiff, t2, l2, t3, l3, t15, t16, t17]
    refine wp_append lenP (y.nl.grow g3) (n3.sl lenP) (g.trans g3) (by simp; omega) ?_
    intro h4 s4 g4 n4 st4 hb4
    obtain ⟨c4, rfl⟩ := n4.one
    have y4 := (y.grow g3).appNl n4 st4 hb4
    simp +contextual (maxSteps := 2000000) only [go_sem, Nat.reduceEqDiff, reduceCtorEq, Nat.reduceAdd, Nat.reduceLeDiff, t2, l2, t3, l3, t15, t16, t17]
    exact ⟨g4, ⟨c4, rfl, by rw [takeS hi]; exact y4⟩, by rw [wrap_next hi (by omega)]⟩
  · rintro T L h' ⟨g, t2, l2, t3, ⟨b, l3, y⟩, t15, t16, t17⟩
    rw [List.take_length] at y
    have y2 : NwF h h' d b (flatS x) := by unfold flatS; rw [ek]; exact y
    simp +contextual (maxSteps := 2000000) only [go_sem, Nat.reduceEqDiff, reduceCtorEq, Nat.reduceAdd, Nat.reduceLeDiff, t2, l2, t3, l3, t15, t16, t17, lt_false]
    refine wp_call (c_copyOfF (flatS x) d b h' y2.sl (miniF.of okf).sm) ?_
    rintro r h2 ⟨g2, c2, d2, rfl, y3⟩
    have y4 := y3.from g.n
    simp +contextual (maxSteps := 2000000) only [go_sem, Nat.reduceEqDiff, reduceCtorEq, Nat.reduceAdd, Nat.reduceLeDiff, t2, l2]
    exact gcK_of ⟨g.trans g2, _, _, rfl, y4⟩ (fun hs _ => ⟨Grow.refl h, _, _, rfl, y4.scalar hs h⟩)
  · simp +contextual (maxSteps := 2000000) only [go_sem, Nat.reduceEqDiff, reduceCtorEq, Nat.reduceAdd, Nat.reduceLeDiff]
    exact ⟨g1, ⟨_, rfl, y0⟩, rfl⟩
def accS (l : List Param) (x : Shape) : Bool := okShape x && acceptsF l (flatS x)
theorem accS_eq {l : List Param} {x : Shape} : accS l x = (okSig l && (okShape x && (wrong l (flatS x)).isEmpty)) := by
  unfold accS acceptsF fits
  cases h : okShape x with
  | false => simp
  | true => rw [okShape_flat h, Bool.and_true, Bool.true_and, Bool.true_and]
/-! spec.AcceptsShape -/
def L27_0 : List AStep := [⟨.mov (.c (.bool false)), (some 4), none, []⟩]
theorem v27_0 : VS L27_0.eq_1 := rfl
def L27_1 : List AStep := ⟨.box 69 (.t 0), (some 2), none, []⟩ :: ⟨.box 71 (.t 1), (some 3), none, []⟩ :: L27_0
theorem v27_1 : VS L27_1.eq_1 := rfl
def L27_2 : List AStep := [⟨.mov (.t 16), (some 4), none, []⟩]
theorem v27_2 : VS L27_2.eq_1 := rfl
def L27_3 : List AStep := ⟨.call 71 [(.t 12), (.t 14)], (some 15), (some (11, true)), []⟩ :: ⟨.pick (.t 11) (.t 15) (.c (.bool false)), (some 16), none, []⟩ :: L27_2
theorem v27_3 : VS L27_3.eq_1 := rfl
def L27_4 : List AStep := ⟨.load 2 true (.t 3), (some 13), (some (11, true)), []⟩ :: ⟨.call 72 [(.t 13)], (some 14), (some (11, true)), [(.load 1 true (.t 2), (some 12), (some (11, true)))]⟩ :: L27_3
theorem v27_4 : VS L27_4.eq_1 := rfl
def L27_5 : List AStep := ⟨.mov (.t 10), (some 11), none, []⟩ :: ⟨.load 1 true (.t 2), (some 12), (some (11, true)), []⟩ :: L27_4
theorem v27_5 : VS L27_5.eq_1 := rfl
def L27_6 : List AStep := ⟨.call 70 [(.t 8)], (some 9), (some (7, true)), []⟩ :: ⟨.pick (.t 7) (.t 9) (.c (.bool false)), (some 10), none, []⟩ :: L27_5
theorem v27_6 : VS L27_6.eq_1 := rfl
def L27_7 : List AStep := ⟨.mov (.t 6), (some 7), none, []⟩ :: ⟨.load 2 true (.t 3), (some 8), (some (7, true)), []⟩ :: L27_6
theorem v27_7 : VS L27_7.eq_1 := rfl
def L27_8 : List AStep := ⟨.load 1 true (.t 2), (some 5), none, []⟩ :: ⟨.call 69 [(.t 5)], (some 6), none, []⟩ :: L27_7
theorem v27_8 : VS L27_8.eq_1 := rfl
def C27_0 : ACode := .seq (.reg L27_8) .ret
theorem u27_0 : VC C27_0.eq_1 := rfl
def C27_1 : ACode := .seq (.reg L27_1) C27_0
theorem u27_1 : VC C27_1.eq_1 := rfl
def F27 : AFunc := ⟨17, [.tmp 4], C27_1⟩
theorem cF27 : compB Try.prog 27 = some F27 := by kernel_rfl
attribute [local go_sem ↓] u27_0 u27_1 v27_0 v27_1 v27_2 v27_3 v27_4 v27_5 v27_6 v27_7 v27_8
theorem k_sAcceptsShape (l : List Param) (x : Shape) (q c p : CV) (h : H) (hl : SlG h q l) (a : SlX h c p x) (hn : miniG l) (mx : miniX x) : bm Try.prog 27 [.agg [q], .agg [c, p]] h = some (ib (accS l x), h) := by
  refine bm_eq cF27 ?_
  rw [accS_eq]
  cases b1 : okSig l with
  | false => simp +contextual (maxSteps := 2000000) only [go_sem, Nat.reduceEqDiff, reduceCtorEq, Nat.reduceAdd, Nat.reduceLeDiff, F27, c_validSignature _ _ _ hl.out hn.sm, b1, Bool.false_and]
  | true =>
  cases b2 : okShape x with
  | false => simp +contextual (maxSteps := 2000000) only [go_sem, Nat.reduceEqDiff, reduceCtorEq, Nat.reduceAdd, Nat.reduceLeDiff, F27, c_validSignature _ _ _ hl.out hn.sm, b1, c_validShape _ _ _ _ a mx, b2, Bool.false_and, Bool.true_and]
  | true =>
  simp +contextual (maxSteps := 2000000) only [go_sem, Nat.reduceEqDiff, reduceCtorEq, Nat.reduceAdd, Nat.reduceLeDiff, F27, c_validSignature _ _ _ hl.out hn.sm, b1, c_validShape _ _ _ _ a mx, b2, Bool.true_and]
  refine wp_call (c_flatOf x c p h a b2) ?_
  rintro r h1 ⟨g1, p', n', rfl, y⟩
  have e := c_accepts l (flatS x) q p' n' h1 (hl.out.grow g1) y.sl b1 (okShape_flat b2)
  simp +contextual (maxSteps := 2000000) only [go_sem, Nat.reduceEqDiff, reduceCtorEq, Nat.reduceAdd, Nat.reduceLeDiff, e]
  exact gcR_of g1 rfl ⟨rfl, rfl⟩
/-! impl.AcceptsShape -/
def L30_0 : List AStep := [⟨.mov (.c (.bool false)), (some 4), none, []⟩]
theorem v30_0 : VS L30_0.eq_1 := rfl
def L30_1 : List AStep := ⟨.box 69 (.t 0), (some 2), none, []⟩ :: ⟨.box 71 (.t 1), (some 3), none, []⟩ :: L30_0
theorem v30_1 : VS L30_1.eq_1 := rfl
def L30_2 : List AStep := [⟨.mov (.t 12), (some 4), none, []⟩]
theorem v30_2 : VS L30_2.eq_1 := rfl
def L30_3 : List AStep := ⟨.call 76 [(.t 8), (.t 10)], (some 11), (some (7, true)), []⟩ :: ⟨.pick (.t 7) (.t 11) (.c (.bool false)), (some 12), none, []⟩ :: L30_2
theorem v30_3 : VS L30_3.eq_1 := rfl
def L30_4 : List AStep := ⟨.load 2 true (.t 3), (some 9), (some (7, true)), []⟩ :: ⟨.call 77 [(.t 9)], (some 10), (some (7, true)), [(.load 1 true (.t 2), (some 8), (some (7, true)))]⟩ :: L30_3
theorem v30_4 : VS L30_4.eq_1 := rfl
def L30_5 : List AStep := ⟨.mov (.t 6), (some 7), none, []⟩ :: ⟨.load 1 true (.t 2), (some 8), (some (7, true)), []⟩ :: L30_4
theorem v30_5 : VS L30_5.eq_1 := rfl
def L30_6 : List AStep := ⟨.load 2 true (.t 3), (some 5), none, []⟩ :: ⟨.call 75 [(.t 5)], (some 6), none, []⟩ :: L30_5
theorem v30_6 : VS L30_6.eq_1 := rfl
def C30_0 : ACode := .seq (.reg L30_6) .ret
theorem u30_0 : VC C30_0.eq_1 := rfl
def C30_1 : ACode := .seq (.reg L30_1) C30_0
theorem u30_1 : VC C30_1.eq_1 := rfl
def F30 : AFunc := ⟨13, [.tmp 4], C30_1⟩
theorem cF30 : compB Try.prog 30 = some F30 := by kernel_rfl
attribute [local go_sem ↓] u30_0 u30_1 v30_0 v30_1 v30_2 v30_3 v30_4 v30_5 v30_6
theorem k_iAcceptsShape (l : List Param) (x : Shape) (q c p : CV) (h : H) (hl : SlG h q l) (a : SlX h c p x) (hn : miniG l) (mx : miniX x) : bm Try.prog 30 [.agg [q], .agg [c, p]] h = some (ib (accS l x), h) := by
  refine bm_eq cF30 ?_
  unfold accS
  cases b2 : okShape x with
  | false => simp +contextual (maxSteps := 2000000) only [go_sem, Nat.reduceEqDiff, reduceCtorEq, Nat.reduceAdd, Nat.reduceLeDiff, F30, c_ValidShape _ _ _ _ a mx, b2, Bool.false_and]
  | true =>
  simp +contextual (maxSteps := 2000000) only [go_sem, Nat.reduceEqDiff, reduceCtorEq, Nat.reduceAdd, Nat.reduceLeDiff, F30, c_ValidShape _ _ _ _ a mx, b2, Bool.true_and]
  refine wp_call (c_FlatOf x c p h a mx b2) ?_
  rintro r h1 ⟨g1, p', n', rfl, y⟩
  have e := k_iAccepts l (flatS x) q p' n' h1 (hl.grow g1) y.sl hn (miniF.of (okShape_flat b2))
  simp +contextual (maxSteps := 2000000) only [go_sem, Nat.reduceEqDiff, reduceCtorEq, Nat.reduceAdd, Nat.reduceLeDiff, e]
  exact gcR_of g1 rfl ⟨rfl, rfl⟩
end Go.Proofs.Ytdalgphpacikkac.Am
