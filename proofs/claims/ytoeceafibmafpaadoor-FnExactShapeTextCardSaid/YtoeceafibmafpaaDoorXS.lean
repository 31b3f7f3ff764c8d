/- Contracts: shapes, of both sides. -/
import Derived.Test.YtoeceafibmafpaaDoorK2
import Derived.Test.YtoeceafibmafpaaDoorL2
import Derived.Test.YtoeceafibmafpaaDoorA1
import Derived.Test.YtoeceafibmafpaaDoorA3
import Derived.Test.YtoeceafibmafpaaDoorDN
import Derived.Test.YtoeceafibmafpaaDoorB1
import Derived.Test.YtoeceafibmafpaaDoorSD
namespace Go.Proofs.YtoeceafibmafpaaDoor.Am
open Go
set_option maxRecDepth 100000
set_option maxHeartbeats 4000000
set_option linter.unusedSimpArgs false
set_option linter.unusedVariables false
attribute [local go_sem ↓] bv_t bv_c ev_t ev_c put_same put_ne put_none kill_at pro_at lb_same lb_ne start_zero start_succ wpC_seq wpC_reg wpC_cond wpC_block wpC_skip wpC_exit wpC_ret thenQ_normal thenQ_exit thenQ_ret inBlk_normal inBlk_exit inBlk_ret wpS_nil wpS_step wpS_again wpS_guard wpO_mov wpO_load wpO_faddr wpO_nilCheck wpO_pick wpO_build wpO_bin wpO_eqb wpO_eqst wpO_eqnil wpO_not wpO_conv wpO_bytesStr wpO_iaddr wpO_idxStr wpO_field wpO_extract wpO_len wpO_lenStr wpO_cap wpO_min wpO_slice wpO_sliceStr wpO_alloc wpO_box wpO_store wpO_call wpO_callv wpO_mkfn wpO_buildSlice wpO_mkslice wpO_append wpO_appz proA_nil proA_cons tmpX_nil tmpX_tmp tmpX_cell doneB_normal doneB_ret agK_cons agK_nil agK_guard agG_tt agG_ff agG_tf agG_ft agG_undef pureB_load results_one results_two results_nil resBs_cons resBs_nil resB_tmp resB_cell
attribute [local go_sem] kill_v kill_lp_ne kill_lp_same pro_v pro_lp_same pro_lp_ne av_v av_lp optB_some optX_some valX_eq ldX_lp ldX_v faX_lp faX_v ncX_lp ncX_ptr ncX_fn boxK_one boxK_agg stL_some stK_lp_one stK_lp_agg stK_v_one stK_v_agg proM_v proM_lp callG_mk callVG_mk callvK_fn fnG_mk ptrsA_nil ptrsA_cons callH_some whenA_true whenA_false guardH_tt guardH_ff guardH_tf guardH_ft guardH_undef agV_one agV_agg lenO_sl lenStrO_str notO_bool pickO_bool convO_int eqbO_bool eqnilO_sl extractO_tup capO_sl minO_int loadL_one loadL_all storeL_eq fillA_nil fillA_one fillA_agg nat_ge neg_ge nat_lt neg_lt buildO bin_add bin_sub bin_mul bin_eql bin_neq bin_lss bin_leq bin_gtr bin_geq str_eql str_neq str_lss str_leq str_gtr str_geq retK_some endK_mk gcK_same gcK_int gcK_bool tupO_one tupO_agg rdy_self ib ii Option.map_none Option.map_some Option.some.injEq exists_eq_left' exists_eq_left ne_eq not_false_eq_true if_true if_false List.map_cons List.map_nil List.getElem?_cons_zero List.getElem?_cons_succ List.length_cons List.length_nil List.take_succ_cons List.take_zero List.take_nil List.drop_succ_cons List.drop_zero List.drop_nil List.cons_append List.nil_append List.append_nil List.set_cons_zero List.set_cons_succ Nat.zero_add forall_const true_and and_true and_self Bool.false_eq_true false_implies true_implies implies_true Bool.not_true Bool.not_false Bool.not_eq_true' Bool.not_eq_false' beq_self_eq_true Bool.bne_true Bool.bne_false
attribute [local go_sem] lenI lenS lenP lenQ lenB lenL lenT encI_0 encS_0 encP_0 encP_1 encQ_0 encQ_1 encQ_2 encQ_3 encB_0 encB_1 encL_0 encL_1 encT_0 encT_1
attribute [local go_sem low] whenA_bool guardH_bool
def stepN (l : List ByteArray) (i : Nat) : Bool :=
  match l[i]? with
  | some s => okName s && (match i with | 0 => true | j + 1 => match l[j]? with | some a => sLess a s | none => true)
  | none => true
theorem stepN_zero {l : List ByteArray} (hi : 0 < l.length) : stepN l 0 = okName l[0] := by
  unfold stepN
  rw [List.getElem?_eq_getElem hi]
  simp
theorem stepN_succ {l : List ByteArray} {j : Nat} (hi : j + 1 < l.length) : stepN l (j + 1) = (okName l[j + 1] && sLess (l[j]'(by omega)) l[j + 1]) := by
  unfold stepN
  simp only [List.getElem?_eq_getElem hi, List.getElem?_eq_getElem (show j < l.length by omega)]
def okNames (l : List ByteArray) : Bool := (List.range l.length).all (stepN l)
theorem okNames_not {l : List ByteArray} {i : Nat} (hi : i < l.length) (h : stepN l i = false) : okNames l = false := List.all_eq_false.2 ⟨i, List.mem_range.2 hi, by simp [h]⟩
def okShape (x : Shape) : Bool := okNames x.names && ((decide (0 ≤ x.count) && decide (x.count ≤ 8)) && decide ((x.names.length : Int) ≤ 8))
theorem leq_not {s a : ByteArray} : (sLess s a || decide (s = a)) = !(sLess a s) := by
  cases h : sLess a s with
  | true =>
    have h1 := sLess_asymm h
    have h2 : decide (s = a) = false := decide_eq_false fun e => by
      subst e
      rw [sLess_irrefl] at h
      exact absurd h (by decide)
    rw [h1, h2]; rfl
  | false =>
    cases h1 : sLess s a with
    | true => rfl
    | false => rw [decide_eq_true (sLess_tri h1 h)]; rfl
def zeroP (s : ByteArray) : Pair := ⟨s, 0⟩
def flatS (x : Shape) : Flat := ⟨List.replicate x.count.toNat 0, x.names.map zeroP⟩
theorem okNames_at {l : List ByteArray} (h : okNames l = true) {i : Nat} (hi : i < l.length) : stepN l i = true := List.all_eq_true.1 h i (List.mem_range.2 hi)
theorem okNames_name {l : List ByteArray} (h : okNames l = true) {i : Nat} (hi : i < l.length) : okName l[i] = true := by
  have := okNames_at h hi
  cases i with
  | zero => rwa [stepN_zero hi] at this
  | succ j => rw [stepN_succ hi, Bool.and_eq_true] at this; exact this.1
theorem okNames_up {l : List ByteArray} (h : okNames l = true) : ∀ {i j : Nat} (hj : j < l.length) (hij : i < j), sLess (l[i]'(by omega)) l[j] = true := by
  intro i j hj hij
  induction j with
  | zero => omega
  | succ j ih =>
    have h1 := okNames_at h hj
    rw [stepN_succ hj, Bool.and_eq_true] at h1
    by_cases e : i = j
    · subst e; exact h1.2
    · exact sLess_trans (ih (by omega) (by omega)) h1.2
theorem okShape_flat {x : Shape} (h : okShape x = true) : okFlat (flatS x) = true := by
  unfold okShape at h
  simp only [Bool.and_eq_true, decide_eq_true_iff] at h
  obtain ⟨h1, ⟨h2, h3⟩, h4⟩ := h
  unfold okFlat flatS
  simp only [Bool.and_eq_true, decide_eq_true_iff, List.length_map, List.length_replicate]
  refine ⟨?_, ?_, ?_, by omega, h4⟩
  · unfold apart
    rw [List.all_eq_true]
    intro i hi
    have hi := List.mem_range.1 hi
    have hi2 : i < x.names.length := by simpa using hi
    unfold newAt
    rw [List.getElem?_eq_getElem hi]
    simp only [List.all_eq_true, Bool.not_eq_true', decide_eq_false_iff_not]
    intro y hy e
    rw [List.mem_take_iff_getElem] at hy
    obtain ⟨j, hj, rfl⟩ := hy
    simp only [List.getElem_map, zeroP] at e
    have := okNames_up h1 hi2 (show j < i by omega)
    rw [e, sLess_irrefl] at this
    exact absurd this (by decide)
  · rw [List.all_eq_true]
    intro y hy
    rw [List.eq_of_mem_replicate hy]
    rfl
  · rw [List.all_eq_true]
    intro y hy
    obtain ⟨s, hs, rfl⟩ := List.mem_map.1 hy
    obtain ⟨i, hi, rfl⟩ := List.getElem_of_mem hs
    unfold okPair zeroP
    rw [okNames_name h1 hi]
    rfl
/-! ### the kind of shapes -/
structure NwX (h0 h : H) (c p : CV) (x : Shape) : Prop where
  c : c = .int .i64 x.count
  out : NwS h0 h (.one p) x.names
structure SlX (h : H) (c p : CV) (x : Shape) : Prop where
  c : c = .int .i64 x.count
  out : SlS h (.one p) x.names
theorem NwX.sl {h0 h : H} {c p : CV} {x : Shape} (a : NwX h0 h c p x) : SlX h c p x := ⟨a.c, a.out.sl lenS⟩
theorem NwX.grow {h0 h h1 : H} {c p : CV} {x : Shape} (a : NwX h0 h c p x) (g : Grow h h1) : NwX h0 h1 c p x := ⟨a.c, a.out.grow g⟩
theorem SlX.grow {h h1 : H} {c p : CV} {x : Shape} (a : SlX h c p x) (g : Grow h h1) : SlX h1 c p x := ⟨a.c, a.out.grow g⟩
structure miniX (x : Shape) : Prop where
  len : x.names.length ≤ 1048576
  nm : ∀ s ∈ x.names, s.size ≤ 1048576
def wtX (x : Shape) : Nat := wtL wtS x.names
theorem wtX_sm {x : Shape} (h : wtX x ≤ 1048576) : miniX x := by
  unfold wtX wtL at h
  exact ⟨by omega, fun s hs => by have := wsum_mem (f := wtS) hs; unfold wtS at this h; omega⟩
structure DomX (h : H) (c p : CV) (x : Shape) : Prop where
  c : c = .int .i64 x.count
  rd : ∃ ty, Sl encS 1 ty h (.one p) x.names
  k0 : x.names.length ≤ far
  nm : ∀ s ∈ x.names, s.size ≤ far
theorem DomX.grow {h h1 : H} {c p : CV} {x : Shape} (d : DomX h c p x) (g : Grow h h1) : DomX h1 c p x := ⟨d.c, d.rd.imp fun _ y => y.grow g, d.k0, d.nm⟩
/-! laws.szStringS -/
def L35_0 : List AStep := [⟨.mov (.c (.int .i64 0)), (some 4), none, []⟩]
theorem v35_0 : VS L35_0.eq_1 := rfl
def L35_1 : List AStep := [⟨.mov (.t 9), (some 1), none, []⟩]
theorem v35_1 : VS L35_1.eq_1 := rfl
def L35_2 : List AStep := ⟨.len (.t 7), (some 8), none, []⟩ :: ⟨.bin .sub (.t 6) (.t 8), (some 9), none, []⟩ :: L35_1
theorem v35_2 : VS L35_2.eq_1 := rfl
def L35_3 : List AStep := ⟨.mov (.t 1), (some 6), none, []⟩ :: ⟨.mov (.t 0), (some 7), none, []⟩ :: L35_2
theorem v35_3 : VS L35_3.eq_1 := rfl
def L35_4 : List AStep := [⟨.mov (.t 1), (some 10), none, []⟩, ⟨.bin .lss (.t 10) (.c (.int .i64 0)), (some 11), none, []⟩]
theorem v35_4 : VS L35_4.eq_1 := rfl
def L35_5 : List AStep := [⟨.mov (.c (.int .i64 (-1))), (some 4), none, []⟩]
theorem v35_5 : VS L35_5.eq_1 := rfl
def L35_6 : List AStep := [⟨.mov (.c (.int .i64 0)), (some 5), none, []⟩]
theorem v35_6 : VS L35_6.eq_1 := rfl
def L35_7 : List AStep := [⟨.len (.t 13), (some 14), none, []⟩, ⟨.bin .lss (.t 12) (.t 14), (some 15), none, []⟩]
theorem v35_7 : VS L35_7.eq_1 := rfl
def L35_8 : List AStep := ⟨.mov (.t 5), (some 12), none, []⟩ :: ⟨.mov (.t 0), (some 13), none, []⟩ :: L35_7
theorem v35_8 : VS L35_8.eq_1 := rfl
def L35_9 : List AStep := [⟨.bin .sub (.t 18) (.t 23), (some 24), none, []⟩, ⟨.mov (.t 24), (some 1), none, []⟩]
theorem v35_9 : VS L35_9.eq_1 := rfl
def L35_10 : List AStep := ⟨.load 1 false (.t 21), (some 22), none, []⟩ :: ⟨.lenStr (.t 22), (some 23), none, []⟩ :: L35_9
theorem v35_10 : VS L35_10.eq_1 := rfl
def L35_11 : List AStep := ⟨.mov (.t 5), (some 20), none, []⟩ :: ⟨.iaddr 1 (.t 19) (.t 20), (some 21), none, []⟩ :: L35_10
theorem v35_11 : VS L35_11.eq_1 := rfl
def L35_12 : List AStep := ⟨.mov (.t 1), (some 18), none, []⟩ :: ⟨.mov (.t 0), (some 19), none, []⟩ :: L35_11
theorem v35_12 : VS L35_12.eq_1 := rfl
def L35_13 : List AStep := [⟨.mov (.t 1), (some 25), none, []⟩, ⟨.bin .lss (.t 25) (.c (.int .i64 0)), (some 26), none, []⟩]
theorem v35_13 : VS L35_13.eq_1 := rfl
def L35_14 : List AStep := [⟨.mov (.c (.int .i64 (-1))), (some 4), none, []⟩]
theorem v35_14 : VS L35_14.eq_1 := rfl
def L35_15 : List AStep := [⟨.mov (.t 17), (some 5), none, []⟩]
theorem v35_15 : VS L35_15.eq_1 := rfl
def L35_16 : List AStep := ⟨.mov (.t 5), (some 16), none, []⟩ :: ⟨.bin .add (.t 16) (.c (.int .i64 1)), (some 17), none, []⟩ :: L35_15
theorem v35_16 : VS L35_16.eq_1 := rfl
def L35_17 : List AStep := [⟨.mov (.t 1), (some 27), none, []⟩, ⟨.mov (.t 27), (some 4), none, []⟩]
theorem v35_17 : VS L35_17.eq_1 := rfl
def C35_0 : ACode := .seq (.reg L35_5) .ret
theorem u35_0 : VC C35_0.eq_1 := rfl
def C35_1 : ACode := .cond (.t 11) C35_0 .skip
theorem u35_1 : VC C35_1.eq_1 := rfl
def C35_2 : ACode := .seq (.reg L35_4) C35_1
theorem u35_2 : VC C35_2.eq_1 := rfl
def C35_3 : ACode := .cond (.t 15) .skip (.exit 0)
theorem u35_3 : VC C35_3.eq_1 := rfl
def C35_4 : ACode := .seq (.reg L35_8) C35_3
theorem u35_4 : VC C35_4.eq_1 := rfl
def C35_5 : ACode := .seq (.reg L35_14) .ret
theorem u35_5 : VC C35_5.eq_1 := rfl
def C35_6 : ACode := .cond (.t 26) C35_5 .skip
theorem u35_6 : VC C35_6.eq_1 := rfl
def C35_7 : ACode := .seq (.reg L35_13) C35_6
theorem u35_7 : VC C35_7.eq_1 := rfl
def C35_8 : ACode := .seq (.reg L35_12) C35_7
theorem u35_8 : VC C35_8.eq_1 := rfl
def C35_9 : ACode := .block 1 C35_8
theorem u35_9 : VC C35_9.eq_1 := rfl
def C35_10 : ACode := .seq C35_9 (.reg L35_16)
theorem u35_10 : VC C35_10.eq_1 := rfl
def C35_11 : ACode := .seq C35_4 C35_10
theorem u35_11 : VC C35_11.eq_1 := rfl
def C35_12 : ACode := .block 0 (.loop C35_11)
theorem u35_12 : VC C35_12.eq_1 := rfl
def C35_13 : ACode := .seq (.reg L35_6) C35_12
theorem u35_13 : VC C35_13.eq_1 := rfl
def C35_14 : ACode := .seq (.reg L35_17) .ret
theorem u35_14 : VC C35_14.eq_1 := rfl
def C35_15 : ACode := .seq C35_13 C35_14
theorem u35_15 : VC C35_15.eq_1 := rfl
def C35_16 : ACode := .seq C35_2 C35_15
theorem u35_16 : VC C35_16.eq_1 := rfl
def C35_17 : ACode := .seq (.reg L35_3) C35_16
theorem u35_17 : VC C35_17.eq_1 := rfl
def C35_18 : ACode := .seq (.reg L35_0) C35_17
theorem u35_18 : VC C35_18.eq_1 := rfl
def F35 : AFunc := ⟨28, [.tmp 4], C35_18⟩
theorem cF35 : compB Tryd.prog 35 = some F35 := by kernel_rfl
attribute [local go_sem ↓] u35_0 u35_1 u35_2 u35_3 u35_4 u35_5 u35_6 u35_7 u35_8 u35_9 u35_10 u35_11 u35_12 u35_13 u35_14 u35_15 u35_16 u35_17 u35_18 v35_0 v35_1 v35_2 v35_3 v35_4 v35_5 v35_6 v35_7 v35_8 v35_9 v35_10 v35_11 v35_12 v35_13 v35_14 v35_15 v35_16 v35_17
theorem c_szStringS {ty : Nat} (l : List ByteArray) (v : AV) (left : Int) (h : H) (h1 : 0 ≤ left) (h2 : left ≤ 1048576) (hl : Sl encS 1 ty h v l) (k0 : l.length ≤ far) (k1 : ∀ x ∈ l, x.size ≤ far) : bm Tryd.prog 35 [v, .one (.int .i64 left)] h = some (ii (szr left (wtL wtS l)), h) := by
  refine bm_eq cF35 ?_
  by_cases e : left - (l.length : Int) < 0
  · simp +contextual (maxSteps := 2000000) only [go_sem, Nat.reduceEqDiff, reduceCtorEq, Nat.reduceAdd, Nat.reduceLeDiff, F35, hl.len, i64_sub h1 h2 k0, decide_eq_true e]
    unfold szr wtL
    rw [if_pos (by omega)]
  simp +contextual (maxSteps := 2000000) only [go_sem, Nat.reduceEqDiff, reduceCtorEq, Nat.reduceAdd, Nat.reduceLeDiff, F35, hl.len, i64_sub h1 h2 k0, decide_eq_false e]
  refine wpC_loop (fun i T L h' => h' = h ∧ T 0 = .v v ∧ T 5 = .v (.one (.int .i64 i)) ∧ T 1 = .v (.one (.int .i64 (left - (l.length : Int) - (wsum wtS l i : Int)))) ∧ 0 ≤ left - (l.length : Int) - (wsum wtS l i : Int)) l.length ?_ ?_ (Nat.zero_le _) ?_
  · rintro i T L h' hi ⟨rfl, t0, t5, t1, hw⟩
    have hm := List.getElem_mem hi
    have e2 := wsum_next (f := wtS) hi
    have e3 := wsum_le (f := wtS) (l := l) (show i + 1 ≤ l.length by omega)
    have e1 := i64_sub hw (by omega) (k1 _ hm)
    by_cases e4 : left - (l.length : Int) - (wsum wtS l i : Int) - (l[i].size : Int) < 0
    · simp +contextual (maxSteps := 2000000) only [go_sem, Nat.reduceEqDiff, reduceCtorEq, Nat.reduceAdd, Nat.reduceLeDiff, t0, t1, t5, hl.len, hl.iaddr hi, hl.oneO hi, e1, lt_true hi, decide_eq_true e4]
      rw [show wtS l[i] = l[i].size from rfl] at e2
      unfold szr wtL
      rw [if_pos (by omega)]
    · simp +contextual (maxSteps := 2000000) only [go_sem, Nat.reduceEqDiff, reduceCtorEq, Nat.reduceAdd, Nat.reduceLeDiff, t0, t1, t5, hl.len, hl.iaddr hi, hl.oneO hi, e1, lt_true hi, decide_eq_false e4]
      have e5 : left - (l.length : Int) - (wsum wtS l i : Int) - (l[i].size : Int) = left - (l.length : Int) - (wsum wtS l (i + 1) : Int) := by
        rw [e2]
        unfold wtS
        omega
      rw [wrap_next hi (by omega), e5]
      exact ⟨rfl, rfl, by omega⟩
  · rintro T L h' ⟨rfl, t0, t5, t1, hw⟩
    simp +contextual (maxSteps := 2000000) only [go_sem, Nat.reduceEqDiff, reduceCtorEq, Nat.reduceAdd, Nat.reduceLeDiff, t0, t1, t5, hl.len, lt_false]
    unfold szr wtL
    rw [if_neg (by omega)]
    rw [show left - (l.length : Int) - (wsum wtS l l.length : Int) = left - ((l.length + wsum wtS l l.length : Nat) : Int) by omega]
  · simp +contextual (maxSteps := 2000000) only [go_sem, Nat.reduceEqDiff, reduceCtorEq, Nat.reduceAdd, Nat.reduceLeDiff, wsum_zero]
    (repeat' (first | refine And.intro ?_ ?_ | intro _)) <;> first | rfl | (simp; done) | (simp; omega)
/-! laws.szShape -/
def L9_0 : List AStep := [⟨.box 24 (.t 0), (some 2), none, []⟩, ⟨.mov (.c (.int .i64 0)), (some 4), none, []⟩]
theorem v9_0 : VS L9_0.eq_1 := rfl
def L9_1 : List AStep := [⟨.mov (.t 8), (some 1), none, []⟩]
theorem v9_1 : VS L9_1.eq_1 := rfl
def L9_2 : List AStep := ⟨.mov (.t 1), (some 7), none, []⟩ :: ⟨.call 35 [(.t 6), (.t 7)], (some 8), none, []⟩ :: L9_1
theorem v9_2 : VS L9_2.eq_1 := rfl
def L9_3 : List AStep := ⟨.faddr 1 (.t 2), (some 5), none, []⟩ :: ⟨.load 1 false (.t 5), (some 6), none, []⟩ :: L9_2
theorem v9_3 : VS L9_3.eq_1 := rfl
def L9_4 : List AStep := [⟨.mov (.t 1), (some 9), none, []⟩, ⟨.bin .lss (.t 9) (.c (.int .i64 0)), (some 10), none, []⟩]
theorem v9_4 : VS L9_4.eq_1 := rfl
def L9_5 : List AStep := [⟨.mov (.c (.int .i64 (-1))), (some 4), none, []⟩]
theorem v9_5 : VS L9_5.eq_1 := rfl
def L9_6 : List AStep := [⟨.mov (.t 1), (some 11), none, []⟩, ⟨.mov (.t 11), (some 4), none, []⟩]
theorem v9_6 : VS L9_6.eq_1 := rfl
def C9_0 : ACode := .seq (.reg L9_5) .ret
theorem u9_0 : VC C9_0.eq_1 := rfl
def C9_1 : ACode := .cond (.t 10) C9_0 .skip
theorem u9_1 : VC C9_1.eq_1 := rfl
def C9_2 : ACode := .seq (.reg L9_4) C9_1
theorem u9_2 : VC C9_2.eq_1 := rfl
def C9_3 : ACode := .seq (.reg L9_6) .ret
theorem u9_3 : VC C9_3.eq_1 := rfl
def C9_4 : ACode := .seq C9_2 C9_3
theorem u9_4 : VC C9_4.eq_1 := rfl
def C9_5 : ACode := .seq (.reg L9_3) C9_4
theorem u9_5 : VC C9_5.eq_1 := rfl
def C9_6 : ACode := .seq (.reg L9_0) C9_5
theorem u9_6 : VC C9_6.eq_1 := rfl
def F9 : AFunc := ⟨12, [.tmp 4], C9_6⟩
theorem cF9 : compB Tryd.prog 9 = some F9 := by kernel_rfl
attribute [local go_sem ↓] u9_0 u9_1 u9_2 u9_3 u9_4 u9_5 u9_6 v9_0 v9_1 v9_2 v9_3 v9_4 v9_5 v9_6
theorem k_szX (x : Shape) (c p : CV) (left : Int) (h : H) (h1 : 0 ≤ left) (h2 : left ≤ 1048576) (d : DomX h c p x) : bm Tryd.prog 9 [.agg [c, p], .one (.int .i64 left)] h = some (ii (szr left (wtX x)), h) := by
  refine bm_eq cF9 ?_
  obtain ⟨ty, hl⟩ := d.rd
  have e1 := c_szStringS x.names (.one p) left h h1 h2 hl d.k0 d.nm
  unfold wtX
  by_cases b1 : szr left (wtL wtS x.names) < 0
  · simp +contextual (maxSteps := 2000000) only [go_sem, Nat.reduceEqDiff, reduceCtorEq, Nat.reduceAdd, Nat.reduceLeDiff, F9, e1, decide_eq_true b1]
    unfold szr at b1 ⊢
    rw [if_pos (by split at b1 <;> omega)]
  · simp +contextual (maxSteps := 2000000) only [go_sem, Nat.reduceEqDiff, reduceCtorEq, Nat.reduceAdd, Nat.reduceLeDiff, F9, e1, decide_eq_false b1]
/-! laws.toShape -/
def L11_0 : List AStep := [⟨.box 24 (.t 0), (some 1), none, []⟩, ⟨.alloc 27 [(.int .i64 0), (.sl none 0 (some 0))], (some 2), none, []⟩]
theorem v11_0 : VS L11_0.eq_1 := rfl
def L11_1 : List AStep := [⟨.alloc 27 [(.int .i64 0), (.sl none 0 (some 0))], (some 3), none, []⟩]
theorem v11_1 : VS L11_1.eq_1 := rfl
def L11_2 : List AStep := [⟨.faddr 0 (.t 3), (some 6), none, []⟩, ⟨.store 1 (.t 6) (.t 5), none, none, []⟩]
theorem v11_2 : VS L11_2.eq_1 := rfl
def L11_3 : List AStep := ⟨.faddr 0 (.t 1), (some 4), none, []⟩ :: ⟨.load 1 false (.t 4), (some 5), none, []⟩ :: L11_2
theorem v11_3 : VS L11_3.eq_1 := rfl
def L11_4 : List AStep := [⟨.store 1 (.t 10) (.t 9), none, none, []⟩]
theorem v11_4 : VS L11_4.eq_1 := rfl
def L11_5 : List AStep := ⟨.call 38 [(.t 8)], (some 9), none, []⟩ :: ⟨.faddr 1 (.t 3), (some 10), none, []⟩ :: L11_4
theorem v11_5 : VS L11_5.eq_1 := rfl
def L11_6 : List AStep := ⟨.faddr 1 (.t 1), (some 7), none, []⟩ :: ⟨.load 1 false (.t 7), (some 8), none, []⟩ :: L11_5
theorem v11_6 : VS L11_6.eq_1 := rfl
def L11_7 : List AStep := [⟨.load 2 true (.t 3), (some 11), none, []⟩, ⟨.store 2 (.t 2) (.t 11), none, none, []⟩]
theorem v11_7 : VS L11_7.eq_1 := rfl
def C11_0 : ACode := .seq (.reg L11_7) .ret
theorem u11_0 : VC C11_0.eq_1 := rfl
def C11_1 : ACode := .seq (.reg L11_6) C11_0
theorem u11_1 : VC C11_1.eq_1 := rfl
def C11_2 : ACode := .seq (.reg L11_3) C11_1
theorem u11_2 : VC C11_2.eq_1 := rfl
def C11_3 : ACode := .seq (.reg L11_1) C11_2
theorem u11_3 : VC C11_3.eq_1 := rfl
def C11_4 : ACode := .seq (.reg L11_0) C11_3
theorem u11_4 : VC C11_4.eq_1 := rfl
def F11 : AFunc := ⟨12, [.cell 2 2 true], C11_4⟩
theorem cF11 : compB Tryd.prog 11 = some F11 := by kernel_rfl
attribute [local go_sem ↓] u11_0 u11_1 u11_2 u11_3 u11_4 v11_0 v11_1 v11_2 v11_3 v11_4 v11_5 v11_6 v11_7
theorem k_toX (x : Shape) (c p : CV) (h : H) (d : DomX h c p x) (m : miniX x) : callK (bm Tryd.prog 11 [.agg [c, p]] h) fun r h' => Grow h h' ∧ ∃ c' p', r = .agg [c', p'] ∧ NwX h h' c' p' x := by
  refine bm_of cF11 ?_
  obtain ⟨ty, hl⟩ := d.rd
  obtain rfl := d.c
  simp +contextual (maxSteps := 2000000) only [go_sem, Nat.reduceEqDiff, reduceCtorEq, Nat.reduceAdd, Nat.reduceLeDiff, F11]
  refine wp_call (c_toStringS x.names (.one p) h hl m.len) ?_
  rintro r h1 ⟨g1, n1⟩
  obtain ⟨c1, rfl⟩ := n1.one
  simp +contextual (maxSteps := 2000000) only [go_sem, Nat.reduceEqDiff, reduceCtorEq, Nat.reduceAdd, Nat.reduceLeDiff]
  exact gcK_of ⟨g1, _, _, rfl, ⟨rfl, n1⟩⟩ (fun hs _ => ⟨Grow.refl h, _, _, rfl, ⟨rfl, n1.scalar (by simp [AV.scalar, AV.scalars, CV.scalar] at hs ⊢; exact hs) h⟩⟩)
theorem k_eqX (x y : Shape) (c p d q : CV) (h : H) (a : SlX h c p x) (b : SlX h d q y) (m : miniX x) : bm Tryd.prog 13 [.agg [c, p], .agg [d, q]] h = some (ib (decide (x = y)), h) := by
  obtain rfl := a.c
  obtain rfl := b.c
  exact c_eqShape x y p q h a.out b.out (Nat.le_trans m.len (by decide))
theorem dX {h : H} {m : Nat} {v : AV} (hk : okV Tryd.prog h (m + 5) 24 v) : ∃ c p x, v = .agg [c, p] ∧ DomX h c p x := by
  obtain ⟨cs, rfl, hj⟩ := okV_agg (by kernel_rfl) hk
  have hk := okA_struct Tryd.underlying24 hj
  obtain ⟨a, r, rfl, h1, hk⟩ := okF_cons hk
  obtain ⟨b, r, rfl, h2, hk⟩ := okF_cons hk
  obtain rfl := okF_nil hk
  obtain ⟨n, rfl, _⟩ := dInt _ h1
  obtain ⟨p, l, rfl, s1, k1, k2⟩ := okA_list lenS Tryd.underlying22 (by kernel_rfl) dText h2
  exact ⟨_, p, ⟨n, l⟩, rfl, ⟨rfl, ⟨_, s1⟩, k1, k2⟩⟩
/-! spec.validShape -/
def L36_0 : List AStep := [⟨.box 27 (.t 0), (some 1), none, []⟩, ⟨.mov (.c (.bool false)), (some 2), none, []⟩]
theorem v36_0 : VS L36_0.eq_1 := rfl
def L36_1 : List AStep := [⟨.mov (.c (.int .i64 0)), (some 3), none, []⟩]
theorem v36_1 : VS L36_1.eq_1 := rfl
def L36_2 : List AStep := [⟨.bin .lss (.t 4) (.t 7), (some 8), none, []⟩]
theorem v36_2 : VS L36_2.eq_1 := rfl
def L36_3 : List AStep := ⟨.load 1 false (.t 5), (some 6), none, []⟩ :: ⟨.len (.t 6), (some 7), none, []⟩ :: L36_2
theorem v36_3 : VS L36_3.eq_1 := rfl
def L36_4 : List AStep := ⟨.mov (.t 3), (some 4), none, []⟩ :: ⟨.faddr 1 (.t 1), (some 5), none, []⟩ :: L36_3
theorem v36_4 : VS L36_4.eq_1 := rfl
def L36_5 : List AStep := [⟨.pick (.t 18) (.c (.bool true)) (.t 34), (some 35), none, []⟩]
theorem v36_5 : VS L36_5.eq_1 := rfl
def L36_6 : List AStep := ⟨.bin .leq (.t 26) (.t 32), (some 33), (some (21, true)), []⟩ :: ⟨.pick (.t 21) (.t 33) (.c (.bool false)), (some 34), (some (18, false)), []⟩ :: L36_5
theorem v36_6 : VS L36_6.eq_1 := rfl
def L36_7 : List AStep := ⟨.iaddr 1 (.t 28) (.t 30), (some 31), (some (21, true)), []⟩ :: ⟨.load 1 false (.t 31), (some 32), (some (21, true)), []⟩ :: L36_6
theorem v36_7 : VS L36_7.eq_1 := rfl
def L36_8 : List AStep := ⟨.mov (.t 3), (some 29), (some (21, true)), []⟩ :: ⟨.bin .sub (.t 29) (.c (.int .i64 1)), (some 30), (some (21, true)), []⟩ :: L36_7
theorem v36_8 : VS L36_8.eq_1 := rfl
def L36_9 : List AStep := ⟨.faddr 1 (.t 1), (some 27), (some (21, true)), []⟩ :: ⟨.load 1 false (.t 27), (some 28), (some (21, true)), []⟩ :: L36_8
theorem v36_9 : VS L36_9.eq_1 := rfl
def L36_10 : List AStep := ⟨.iaddr 1 (.t 23) (.t 24), (some 25), (some (21, true)), []⟩ :: ⟨.load 1 false (.t 25), (some 26), (some (21, true)), []⟩ :: L36_9
theorem v36_10 : VS L36_10.eq_1 := rfl
def L36_11 : List AStep := ⟨.load 1 false (.t 22), (some 23), (some (21, true)), []⟩ :: ⟨.mov (.t 3), (some 24), (some (21, true)), []⟩ :: L36_10
theorem v36_11 : VS L36_11.eq_1 := rfl
def L36_12 : List AStep := ⟨.mov (.t 20), (some 21), (some (18, false)), []⟩ :: ⟨.faddr 1 (.t 1), (some 22), (some (21, true)), []⟩ :: L36_11
theorem v36_12 : VS L36_12.eq_1 := rfl
def L36_13 : List AStep := ⟨.mov (.t 3), (some 19), (some (18, false)), []⟩ :: ⟨.bin .gtr (.t 19) (.c (.int .i64 0)), (some 20), (some (18, false)), []⟩ :: L36_12
theorem v36_13 : VS L36_13.eq_1 := rfl
def L36_14 : List AStep := ⟨.not (.t 16), (some 17), none, []⟩ :: ⟨.mov (.t 17), (some 18), none, []⟩ :: L36_13
theorem v36_14 : VS L36_14.eq_1 := rfl
def L36_15 : List AStep := ⟨.load 1 false (.t 14), (some 15), none, []⟩ :: ⟨.call 66 [(.t 15)], (some 16), none, []⟩ :: L36_14
theorem v36_15 : VS L36_15.eq_1 := rfl
def L36_16 : List AStep := ⟨.mov (.t 3), (some 13), none, []⟩ :: ⟨.iaddr 1 (.t 12) (.t 13), (some 14), none, []⟩ :: L36_15
theorem v36_16 : VS L36_16.eq_1 := rfl
def L36_17 : List AStep := ⟨.faddr 1 (.t 1), (some 11), none, []⟩ :: ⟨.load 1 false (.t 11), (some 12), none, []⟩ :: L36_16
theorem v36_17 : VS L36_17.eq_1 := rfl
def L36_18 : List AStep := [⟨.mov (.c (.bool false)), (some 2), none, []⟩]
theorem v36_18 : VS L36_18.eq_1 := rfl
def L36_19 : List AStep := [⟨.mov (.t 10), (some 3), none, []⟩]
theorem v36_19 : VS L36_19.eq_1 := rfl
def L36_20 : List AStep := ⟨.mov (.t 3), (some 9), none, []⟩ :: ⟨.bin .add (.t 9) (.c (.int .i64 1)), (some 10), none, []⟩ :: L36_19
theorem v36_20 : VS L36_20.eq_1 := rfl
def L36_21 : List AStep := [⟨.pick (.t 39) (.t 43) (.c (.bool false)), (some 44), none, []⟩, ⟨.mov (.t 44), (some 2), none, []⟩]
theorem v36_21 : VS L36_21.eq_1 := rfl
def L36_22 : List AStep := ⟨.len (.t 41), (some 42), (some (39, true)), []⟩ :: ⟨.bin .leq (.t 42) (.c (.int .i64 8)), (some 43), (some (39, true)), []⟩ :: L36_21
theorem v36_22 : VS L36_22.eq_1 := rfl
def L36_23 : List AStep := ⟨.faddr 1 (.t 1), (some 40), (some (39, true)), []⟩ :: ⟨.load 1 false (.t 40), (some 41), (some (39, true)), []⟩ :: L36_22
theorem v36_23 : VS L36_23.eq_1 := rfl
def L36_24 : List AStep := ⟨.call 67 [(.t 37), (.c (.int .i64 0)), (.c (.int .i64 8))], (some 38), none, []⟩ :: ⟨.mov (.t 38), (some 39), none, []⟩ :: L36_23
theorem v36_24 : VS L36_24.eq_1 := rfl
def L36_25 : List AStep := ⟨.faddr 0 (.t 1), (some 36), none, []⟩ :: ⟨.load 1 false (.t 36), (some 37), none, []⟩ :: L36_24
theorem v36_25 : VS L36_25.eq_1 := rfl
def C36_0 : ACode := .cond (.t 8) .skip (.exit 0)
theorem u36_0 : VC C36_0.eq_1 := rfl
def C36_1 : ACode := .seq (.reg L36_4) C36_0
theorem u36_1 : VC C36_1.eq_1 := rfl
def C36_2 : ACode := .seq (.reg L36_18) .ret
theorem u36_2 : VC C36_2.eq_1 := rfl
def C36_3 : ACode := .cond (.t 35) C36_2 .skip
theorem u36_3 : VC C36_3.eq_1 := rfl
def C36_4 : ACode := .seq (.reg L36_17) C36_3
theorem u36_4 : VC C36_4.eq_1 := rfl
def C36_5 : ACode := .block 1 C36_4
theorem u36_5 : VC C36_5.eq_1 := rfl
def C36_6 : ACode := .seq C36_5 (.reg L36_20)
theorem u36_6 : VC C36_6.eq_1 := rfl
def C36_7 : ACode := .seq C36_1 C36_6
theorem u36_7 : VC C36_7.eq_1 := rfl
def C36_8 : ACode := .block 0 (.loop C36_7)
theorem u36_8 : VC C36_8.eq_1 := rfl
def C36_9 : ACode := .seq (.reg L36_1) C36_8
theorem u36_9 : VC C36_9.eq_1 := rfl
def C36_10 : ACode := .seq (.reg L36_25) .ret
theorem u36_10 : VC C36_10.eq_1 := rfl
def C36_11 : ACode := .seq C36_9 C36_10
theorem u36_11 : VC C36_11.eq_1 := rfl
def C36_12 : ACode := .seq (.reg L36_0) C36_11
theorem u36_12 : VC C36_12.eq_1 := rfl
def F36 : AFunc := ⟨45, [.tmp 2], C36_12⟩
theorem cF36 : compB Tryd.prog 36 = some F36 := by kernel_rfl
attribute [local go_sem ↓] u36_0 u36_1 u36_2 u36_3 u36_4 u36_5 u36_6 u36_7 u36_8 u36_9 u36_10 u36_11 u36_12 v36_0 v36_1 v36_2 v36_3 v36_4 v36_5 v36_6 v36_7 v36_8 v36_9 v36_10 v36_11 v36_12 v36_13 v36_14 v36_15 v36_16 v36_17 v36_18 v36_19 v36_20 v36_21 v36_22 v36_23 v36_24 v36_25
theorem c_validShape (x : Shape) (c p : CV) (h : H) (a : SlX h c p x) (m : miniX x) : bm Tryd.prog 36 [.agg [c, p]] h = some (ib (okShape x), h) := by
  refine bm_eq cF36 ?_
  obtain rfl := a.c
  have hl := a.out
  have hn := m.len
  unfold okShape
  simp +contextual (maxSteps := 2000000) only [go_sem, Nat.reduceEqDiff, reduceCtorEq, Nat.reduceAdd, Nat.reduceLeDiff, F36]
  refine wpC_loop (fun i T L h' => h' = h ∧ T 1 = .lp 1 0 ∧ (L 1).2 = [.int .i64 x.count, p] ∧ T 3 = .v (.one (.int .i64 i)) ∧ Upto (stepN x.names) i) x.names.length ?_ ?_ (Nat.zero_le _) ?_
  · rintro i T L h' hi ⟨rfl, t1, l1, t3, hu⟩
    have e1 := c_validName x.names[i] h' (Nat.lt_of_le_of_lt (m.nm _ (List.getElem_mem hi)) (by decide))
    cases b1 : okName x.names[i] with
    | false =>
      have b2 : stepN x.names i = false := by
        cases i with
        | zero => rw [stepN_zero hi, b1]
        | succ j => rw [stepN_succ hi, b1]; rfl
      simp +contextual (maxSteps := 2000000) only [go_sem, Nat.reduceEqDiff, reduceCtorEq, Nat.reduceAdd, Nat.reduceLeDiff, t1, l1, t3, hl.len, hl.iaddr hi, hl.oneO hi, lt_true hi, e1, b1, okNames_not hi b2, Bool.false_and]
    | true =>
    cases i with
    | zero =>
      have hz : decide (((0 : Nat) : Int) > 0) = false := rfl
      simp +contextual (maxSteps := 2000000) only [go_sem, Nat.reduceEqDiff, reduceCtorEq, Nat.reduceAdd, Nat.reduceLeDiff, t1, l1, t3, hl.len, hl.iaddr hi, hl.oneO hi, lt_true hi, e1, b1, hz]
      exact ⟨by rw [wrap_next hi (by omega)], hu.next (by rw [stepN_zero hi, b1])⟩
    | succ j =>
      have hj : j < x.names.length := by omega
      have hz : decide (((j + 1 : Nat) : Int) > 0) = true := decide_eq_true (by omega)
      have e2 := stepN_succ hi
      rw [b1, Bool.true_and] at e2
      cases b3 : sLess x.names[j] x.names[j + 1] with
      | true =>
        simp +contextual (maxSteps := 2000000) only [go_sem, Nat.reduceEqDiff, reduceCtorEq, Nat.reduceAdd, Nat.reduceLeDiff, t1, l1, t3, hl.len, hl.iaddr hi, hl.oneO hi, hl.iaddr hj, hl.oneO hj, lt_true hi, e1, b1, hz, wrap_pred (show j < 2 ^ 62 by omega), leq_not, b3]
        exact ⟨by rw [wrap_next hi (by omega)], hu.next (by rw [e2, b3])⟩
      | false =>
        simp +contextual (maxSteps := 2000000) only [go_sem, Nat.reduceEqDiff, reduceCtorEq, Nat.reduceAdd, Nat.reduceLeDiff, t1, l1, t3, hl.len, hl.iaddr hi, hl.oneO hi, hl.iaddr hj, hl.oneO hj, lt_true hi, e1, b1, hz, wrap_pred (show j < 2 ^ 62 by omega), leq_not, b3, okNames_not hi (e2.trans b3), Bool.false_and]
  · rintro T L h' ⟨rfl, t1, l1, t3, hu⟩
    have e4 : okNames x.names = true := hu.all
    cases b5 : decide (0 ≤ x.count) && decide (x.count ≤ 8) with
    | false => simp +contextual (maxSteps := 2000000) only [go_sem, Nat.reduceEqDiff, reduceCtorEq, Nat.reduceAdd, Nat.reduceLeDiff, t1, l1, t3, hl.len, lt_false, c_inRange, b5, e4, Bool.true_and, Bool.false_and]
    | true =>
      rw [Bool.and_eq_true] at b5
      simp +contextual (maxSteps := 2000000) only [go_sem, Nat.reduceEqDiff, reduceCtorEq, Nat.reduceAdd, Nat.reduceLeDiff, t1, l1, t3, hl.len, lt_false, c_inRange, b5.1, b5.2, e4, Bool.true_and]
  · simp +contextual (maxSteps := 2000000) only [go_sem, Nat.reduceEqDiff, reduceCtorEq, Nat.reduceAdd, Nat.reduceLeDiff]
    exact ⟨rfl, Upto.zero⟩
/-! impl.ValidShape -/
def L39_0 : List AStep := [⟨.box 27 (.t 0), (some 1), none, []⟩, ⟨.mov (.c (.bool false)), (some 2), none, []⟩]
theorem v39_0 : VS L39_0.eq_1 := rfl
def L39_1 : List AStep := [⟨.len (.t 6), (some 7), none, []⟩, ⟨.mov (.c (.int .i64 0)), (some 8), none, []⟩]
theorem v39_1 : VS L39_1.eq_1 := rfl
def L39_2 : List AStep := ⟨.faddr 1 (.t 1), (some 5), none, []⟩ :: ⟨.load 1 false (.t 5), (some 6), none, []⟩ :: L39_1
theorem v39_2 : VS L39_2.eq_1 := rfl
def L39_3 : List AStep := [⟨.bin .lss (.t 8) (.t 7), (some 9), none, []⟩]
theorem v39_3 : VS L39_3.eq_1 := rfl
def L39_4 : List AStep := [⟨.mov (.t 12), (some 4), none, []⟩]
theorem v39_4 : VS L39_4.eq_1 := rfl
def L39_5 : List AStep := ⟨.load 1 false (.t 11), (some 12), none, []⟩ :: ⟨.mov (.t 10), (some 3), none, []⟩ :: L39_4
theorem v39_5 : VS L39_5.eq_1 := rfl
def L39_6 : List AStep := ⟨.mov (.t 8), (some 10), none, []⟩ :: ⟨.iaddr 1 (.t 6) (.t 8), (some 11), none, []⟩ :: L39_5
theorem v39_6 : VS L39_6.eq_1 := rfl
def L39_7 : List AStep := [⟨.pick (.t 16) (.c (.bool true)) (.t 28), (some 29), none, []⟩]
theorem v39_7 : VS L39_7.eq_1 := rfl
def L39_8 : List AStep := ⟨.bin .geq (.t 25) (.t 26), (some 27), (some (19, true)), []⟩ :: ⟨.pick (.t 19) (.t 27) (.c (.bool false)), (some 28), (some (16, false)), []⟩ :: L39_7
theorem v39_8 : VS L39_8.eq_1 := rfl
def L39_9 : List AStep := ⟨.load 1 false (.t 24), (some 25), (some (19, true)), []⟩ :: ⟨.mov (.t 4), (some 26), (some (19, true)), []⟩ :: L39_8
theorem v39_9 : VS L39_9.eq_1 := rfl
def L39_10 : List AStep := ⟨.bin .sub (.t 22) (.c (.int .i64 1)), (some 23), (some (19, true)), []⟩ :: ⟨.iaddr 1 (.t 21) (.t 23), (some 24), (some (19, true)), []⟩ :: L39_9
theorem v39_10 : VS L39_10.eq_1 := rfl
def L39_11 : List AStep := ⟨.load 1 false (.t 20), (some 21), (some (19, true)), []⟩ :: ⟨.mov (.t 3), (some 22), (some (19, true)), []⟩ :: L39_10
theorem v39_11 : VS L39_11.eq_1 := rfl
def L39_12 : List AStep := ⟨.mov (.t 18), (some 19), (some (16, false)), []⟩ :: ⟨.faddr 1 (.t 1), (some 20), (some (19, true)), []⟩ :: L39_11
theorem v39_12 : VS L39_12.eq_1 := rfl
def L39_13 : List AStep := ⟨.mov (.t 3), (some 17), (some (16, false)), []⟩ :: ⟨.bin .gtr (.t 17) (.c (.int .i64 0)), (some 18), (some (16, false)), []⟩ :: L39_12
theorem v39_13 : VS L39_13.eq_1 := rfl
def L39_14 : List AStep := ⟨.not (.t 14), (some 15), none, []⟩ :: ⟨.mov (.t 15), (some 16), none, []⟩ :: L39_13
theorem v39_14 : VS L39_14.eq_1 := rfl
def L39_15 : List AStep := ⟨.mov (.t 4), (some 13), none, []⟩ :: ⟨.call 56 [(.t 13)], (some 14), none, []⟩ :: L39_14
theorem v39_15 : VS L39_15.eq_1 := rfl
def L39_16 : List AStep := [⟨.mov (.c (.bool false)), (some 2), none, []⟩]
theorem v39_16 : VS L39_16.eq_1 := rfl
def L39_17 : List AStep := [⟨.bin .add (.t 8) (.c (.int .i64 1)), (some 30), none, []⟩, ⟨.mov (.t 30), (some 8), none, []⟩]
theorem v39_17 : VS L39_17.eq_1 := rfl
def L39_18 : List AStep := [⟨.pick (.t 34) (.t 38) (.c (.bool false)), (some 39), none, []⟩, ⟨.mov (.t 39), (some 2), none, []⟩]
theorem v39_18 : VS L39_18.eq_1 := rfl
def L39_19 : List AStep := ⟨.len (.t 36), (some 37), (some (34, true)), []⟩ :: ⟨.bin .leq (.t 37) (.c (.int .i64 8)), (some 38), (some (34, true)), []⟩ :: L39_18
theorem v39_19 : VS L39_19.eq_1 := rfl
def L39_20 : List AStep := ⟨.faddr 1 (.t 1), (some 35), (some (34, true)), []⟩ :: ⟨.load 1 false (.t 35), (some 36), (some (34, true)), []⟩ :: L39_19
theorem v39_20 : VS L39_20.eq_1 := rfl
def L39_21 : List AStep := ⟨.call 69 [(.t 32), (.c (.int .i64 0)), (.c (.int .i64 8))], (some 33), none, []⟩ :: ⟨.mov (.t 33), (some 34), none, []⟩ :: L39_20
theorem v39_21 : VS L39_21.eq_1 := rfl
def L39_22 : List AStep := ⟨.faddr 0 (.t 1), (some 31), none, []⟩ :: ⟨.load 1 false (.t 31), (some 32), none, []⟩ :: L39_21
theorem v39_22 : VS L39_22.eq_1 := rfl
def C39_0 : ACode := .cond (.t 9) .skip (.exit 0)
theorem u39_0 : VC C39_0.eq_1 := rfl
def C39_1 : ACode := .seq (.reg L39_16) .ret
theorem u39_1 : VC C39_1.eq_1 := rfl
def C39_2 : ACode := .cond (.t 29) C39_1 .skip
theorem u39_2 : VC C39_2.eq_1 := rfl
def C39_3 : ACode := .seq (.reg L39_15) C39_2
theorem u39_3 : VC C39_3.eq_1 := rfl
def C39_4 : ACode := .seq (.reg L39_6) C39_3
theorem u39_4 : VC C39_4.eq_1 := rfl
def C39_5 : ACode := .block 1 C39_4
theorem u39_5 : VC C39_5.eq_1 := rfl
def C39_6 : ACode := .seq C39_5 (.reg L39_17)
theorem u39_6 : VC C39_6.eq_1 := rfl
def C39_7 : ACode := .seq C39_0 C39_6
theorem u39_7 : VC C39_7.eq_1 := rfl
def C39_8 : ACode := .seq (.reg L39_3) C39_7
theorem u39_8 : VC C39_8.eq_1 := rfl
def C39_9 : ACode := .block 0 (.loop C39_8)
theorem u39_9 : VC C39_9.eq_1 := rfl
def C39_10 : ACode := .seq (.reg L39_2) C39_9
theorem u39_10 : VC C39_10.eq_1 := rfl
def C39_11 : ACode := .seq (.reg L39_22) .ret
theorem u39_11 : VC C39_11.eq_1 := rfl
def C39_12 : ACode := .seq C39_10 C39_11
theorem u39_12 : VC C39_12.eq_1 := rfl
def C39_13 : ACode := .seq (.reg L39_0) C39_12
theorem u39_13 : VC C39_13.eq_1 := rfl
def F39 : AFunc := ⟨40, [.tmp 2], C39_13⟩
theorem cF39 : compB Tryd.prog 39 = some F39 := by kernel_rfl
attribute [local go_sem ↓] u39_0 u39_1 u39_2 u39_3 u39_4 u39_5 u39_6 u39_7 u39_8 u39_9 u39_10 u39_11 u39_12 u39_13 v39_0 v39_1 v39_2 v39_3 v39_4 v39_5 v39_6 v39_7 v39_8 v39_9 v39_10 v39_11 v39_12 v39_13 v39_14 v39_15 v39_16 v39_17 v39_18 v39_19 v39_20 v39_21 v39_22
theorem c_ValidShape (x : Shape) (c p : CV) (h : H) (a : SlX h c p x) (m : miniX x) : bm Tryd.prog 39 [.agg [c, p]] h = some (ib (okShape x), h) := by
  refine bm_eq cF39 ?_
  obtain rfl := a.c
  have hl := a.out
  have hn := m.len
  unfold okShape
  simp +contextual (maxSteps := 2000000) only [go_sem, Nat.reduceEqDiff, reduceCtorEq, Nat.reduceAdd, Nat.reduceLeDiff, F39, hl.len]
  refine wpC_loop (fun i T L h' => h' = h ∧ T 1 = .lp 1 0 ∧ (L 1).2 = [.int .i64 x.count, p] ∧ T 6 = .v (.one p) ∧ T 7 = .v (.one (.int .i64 x.names.length)) ∧ T 8 = .v (.one (.int .i64 i)) ∧ Upto (stepN x.names) i) x.names.length ?_ ?_ (Nat.zero_le _) ?_
  · rintro i T L h' hi ⟨rfl, t1, l1, t6, t7, t8, hu⟩
    have e1 := c_isName x.names[i] h' (Nat.lt_of_le_of_lt (m.nm _ (List.getElem_mem hi)) (by decide))
    cases b1 : okName x.names[i] with
    | false =>
      have b2 : stepN x.names i = false := by
        cases i with
        | zero => rw [stepN_zero hi, b1]
        | succ j => rw [stepN_succ hi, b1]; rfl
      simp +contextual (maxSteps := 2000000) only [go_sem, Nat.reduceEqDiff, reduceCtorEq, Nat.reduceAdd, Nat.reduceLeDiff, t1, l1, t6, t7, t8, hl.iaddr hi, hl.oneO hi, lt_true hi, e1, b1, okNames_not hi b2, Bool.false_and]
    | true =>
    cases i with
    | zero =>
      have hz : decide (((0 : Nat) : Int) > 0) = false := rfl
      simp +contextual (maxSteps := 2000000) only [go_sem, Nat.reduceEqDiff, reduceCtorEq, Nat.reduceAdd, Nat.reduceLeDiff, t1, l1, t6, t7, t8, hl.iaddr hi, hl.oneO hi, lt_true hi, e1, b1, hz]
      exact ⟨by rw [wrap_next hi (by omega)], hu.next (by rw [stepN_zero hi, b1])⟩
    | succ j =>
      have hj : j < x.names.length := by omega
      have hz : decide (((j + 1 : Nat) : Int) > 0) = true := decide_eq_true (by omega)
      have e2 := stepN_succ hi
      rw [b1, Bool.true_and] at e2
      cases b3 : sLess x.names[j] x.names[j + 1] with
      | true =>
        simp +contextual (maxSteps := 2000000) only [go_sem, Nat.reduceEqDiff, reduceCtorEq, Nat.reduceAdd, Nat.reduceLeDiff, t1, l1, t6, t7, t8, hl.iaddr hi, hl.oneO hi, hl.iaddr hj, hl.oneO hj, lt_true hi, e1, b1, hz, wrap_pred (show j < 2 ^ 62 by omega), b3]
        exact ⟨by rw [wrap_next hi (by omega)], hu.next (by rw [e2, b3])⟩
      | false =>
        simp +contextual (maxSteps := 2000000) only [go_sem, Nat.reduceEqDiff, reduceCtorEq, Nat.reduceAdd, Nat.reduceLeDiff, t1, l1, t6, t7, t8, hl.iaddr hi, hl.oneO hi, hl.iaddr hj, hl.oneO hj, lt_true hi, e1, b1, hz, wrap_pred (show j < 2 ^ 62 by omega), b3, okNames_not hi (e2.trans b3), Bool.false_and]
  · rintro T L h' ⟨rfl, t1, l1, t6, t7, t8, hu⟩
    have e4 : okNames x.names = true := hu.all
    cases b5 : decide (0 ≤ x.count) && decide (x.count ≤ 8) with
    | false => simp +contextual (maxSteps := 2000000) only [go_sem, Nat.reduceEqDiff, reduceCtorEq, Nat.reduceAdd, Nat.reduceLeDiff, t1, l1, t6, t7, t8, hl.len, lt_false, c_in, b5, e4, Bool.true_and, Bool.false_and]
    | true =>
      rw [Bool.and_eq_true] at b5
      simp +contextual (maxSteps := 2000000) only [go_sem, Nat.reduceEqDiff, reduceCtorEq, Nat.reduceAdd, Nat.reduceLeDiff, t1, l1, t6, t7, t8, hl.len, lt_false, c_in, b5.1, b5.2, e4, Bool.true_and]
  · simp +contextual (maxSteps := 2000000) only [go_sem, Nat.reduceEqDiff, reduceCtorEq, Nat.reduceAdd, Nat.reduceLeDiff]
    exact ⟨rfl, Upto.zero⟩
theorem takeS {l : List ByteArray} {i : Nat} (hi : i < l.length) : (l.take (i + 1)).map zeroP = (l.take i).map zeroP ++ [zeroP l[i]] := by
  rw [List.take_succ_eq_append_getElem hi, List.map_append]
  rfl
end Go.Proofs.YtoeceafibmafpaaDoor.Am
