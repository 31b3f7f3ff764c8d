/- The law FnFillHoles. -/
import Derived.Test.YtnphlonhogcedaaL1
import Derived.Test.YtnphlonhogcedaaH3
import Derived.Test.YtnphlonhogcedaaDI
namespace Go.Proofs.Ytnphlonhogcedaa.Am
open Go
set_option maxRecDepth 100000
set_option maxHeartbeats 4000000
set_option linter.unusedSimpArgs false
set_option linter.unusedVariables false
attribute [local go_sem ↓] bv_t bv_c ev_t ev_c put_same put_ne put_none kill_at pro_at lb_same lb_ne start_zero start_succ wpC_seq wpC_reg wpC_cond wpC_block wpC_skip wpC_exit wpC_ret thenQ_normal thenQ_exit thenQ_ret inBlk_normal inBlk_exit inBlk_ret wpS_nil wpS_step wpS_again wpS_guard wpO_mov wpO_load wpO_faddr wpO_nilCheck wpO_pick wpO_build wpO_bin wpO_eqb wpO_eqst wpO_eqnil wpO_not wpO_conv wpO_bytesStr wpO_iaddr wpO_idxStr wpO_field wpO_extract wpO_len wpO_lenStr wpO_cap wpO_min wpO_slice wpO_sliceStr wpO_alloc wpO_box wpO_store wpO_call wpO_callv wpO_mkfn wpO_buildSlice wpO_mkslice wpO_append wpO_appz proA_nil proA_cons tmpX_nil tmpX_tmp tmpX_cell doneB_normal doneB_ret agK_cons agK_nil agK_guard agG_tt agG_ff agG_tf agG_ft agG_undef pureB_load results_one results_two results_nil resBs_cons resBs_nil resB_tmp resB_cell
attribute [local go_sem] kill_v kill_lp_ne kill_lp_same pro_v pro_lp_same pro_lp_ne av_v av_lp optB_some optX_some valX_eq ldX_lp ldX_v faX_lp faX_v ncX_lp ncX_ptr ncX_fn boxK_one boxK_agg stL_some stK_lp_one stK_lp_agg stK_v_one stK_v_agg proM_v proM_lp callG_mk callVG_mk callvK_fn fnG_mk ptrsA_nil ptrsA_cons callH_some whenA_true whenA_false guardH_tt guardH_ff guardH_tf guardH_ft guardH_undef agV_one agV_agg lenO_sl lenStrO_str notO_bool pickO_bool convO_int eqbO_bool eqnilO_sl extractO_tup capO_sl minO_int loadL_one loadL_all storeL_eq fillA_nil fillA_one fillA_agg nat_ge neg_ge nat_lt neg_lt buildO bin_add bin_sub bin_mul bin_eql bin_neq bin_lss bin_leq bin_gtr bin_geq str_eql str_neq str_lss str_leq str_gtr str_geq retK_some endK_mk gcK_same gcK_int gcK_bool tupO_one tupO_agg rdy_self ib ii Option.map_none Option.map_some Option.some.injEq exists_eq_left' exists_eq_left ne_eq not_false_eq_true if_true if_false List.map_cons List.map_nil List.getElem?_cons_zero List.getElem?_cons_succ List.length_cons List.length_nil List.take_succ_cons List.take_zero List.take_nil List.drop_succ_cons List.drop_zero List.drop_nil List.cons_append List.nil_append List.append_nil List.set_cons_zero List.set_cons_succ Nat.zero_add forall_const true_and and_true and_self Bool.false_eq_true false_implies true_implies implies_true Bool.not_true Bool.not_false Bool.not_eq_true' Bool.not_eq_false' beq_self_eq_true Bool.bne_true Bool.bne_false
attribute [local go_sem] lenI lenS lenP lenQ lenB lenL lenT encI_0 encS_0 encP_0 encP_1 encQ_0 encQ_1 encQ_2 encQ_3 encB_0 encB_1 encL_0 encL_1 encT_0 encT_1
attribute [local go_sem low] whenA_bool guardH_bool
def hasN (l : List Pair) (s : ByteArray) : Bool := l.any fun p => decide (p.name = s)
theorem hasN_put {l : List Pair} {x : Pair} : hasN (putP l x) x.name = true := by
  unfold putP
  split
  · rename_i j hj
    have hlt : j < l.length := (List.findIdx?_eq_some_iff_getElem.1 hj).1
    exact List.any_eq_true.2 ⟨x, List.mem_iff_getElem.2 ⟨j, by simpa using hlt, by simp⟩, by simp⟩
  · exact List.any_eq_true.2 ⟨x, by simp, by simp⟩
theorem hasN_keep {l : List Pair} {x : Pair} {s : ByteArray} (h : hasN l s = true) : hasN (putP l x) s = true := by
  obtain ⟨q, hq, e⟩ := List.any_eq_true.1 h
  have e := of_decide_eq_true e
  obtain ⟨i, hi, rfl⟩ := List.getElem_of_mem hq
  unfold putP
  split
  · rename_i j hj
    obtain ⟨hlt, hn, _⟩ := List.findIdx?_eq_some_iff_getElem.1 hj
    by_cases ij : j = i
    · subst ij
      have hn := of_decide_eq_true hn
      exact List.any_eq_true.2 ⟨x, List.mem_iff_getElem.2 ⟨j, by simpa using hlt, by simp⟩, by simp [← hn, e]⟩
    · exact List.any_eq_true.2 ⟨l[i], List.mem_iff_getElem.2 ⟨i, by simpa using hi, by rw [List.getElem_set, if_neg ij]⟩, by simp [e]⟩
  · exact List.any_eq_true.2 ⟨l[i], List.mem_append.2 (.inl hq), by simp [e]⟩
theorem hasN_all : ∀ {m l : List Pair} {s : ByteArray}, hasN l s = true → hasN (putAll l m) s = true
  | [], l, s, h => h
  | a :: m, l, s, h => by
    show hasN (putAll (putP l a) m) s = true
    exact hasN_all (hasN_keep h)
theorem hasN_of : ∀ {m l : List Pair} {y : Pair}, y ∈ m → hasN (putAll l m) y.name = true
  | a :: m, l, y, h => by
    show hasN (putAll (putP l a) m) y.name = true
    rcases List.mem_cons.1 h with e | e
    · subst e
      exact hasN_all hasN_put
    · exact hasN_of e
theorem Fill_some {f : Holes} {g : Flat} (h : (FillHoles f g).isSome = true) : okHoles f = true ∧ okFlat g = true ∧ countH f.pl ≤ g.pl.length ∧ FillHoles f g = some (fillH f g) := by
  unfold FillHoles at h ⊢
  split at h
  · rename_i hh
    rw [if_pos hh]
    refine ⟨hh.1, hh.2.1, hh.2.2, ?_⟩
    unfold Am.okF at h ⊢
    split at h
    · rw [if_pos ‹_›]
    · simp at h
  · simp at h
theorem fillH_at {f : Holes} {g : Flat} {i : Nat} (hi : i < f.pl.length) (hio : i < (fillH f g).pl.length) (b : f.pl[i].hole = false) : (fillH f g).pl[i] = f.pl[i].value := by
  have e : (fillH f g).pl = valsT f.pl g.pl f.pl.length ++ g.pl.drop (countH f.pl) := rfl
  have h : (fillH f g).pl[i]? = some f.pl[i].value := by
    rw [e, List.getElem?_append_left (by rw [valsT_len]; exact hi), valsT, List.getElem?_map, List.getElem?_range hi]
    simp [fillV_plain hi b]
  rw [List.getElem?_eq_getElem hio] at h
  exact Option.some.inj h
/-! laws.named -/
def L54_0 : List AStep := [⟨.box 30 (.t 0), (some 2), none, []⟩, ⟨.mov (.c (.bool false)), (some 4), none, []⟩]
theorem v54_0 : VS L54_0.eq_1 := rfl
def L54_1 : List AStep := [⟨.mov (.c (.int .i64 0)), (some 5), none, []⟩]
theorem v54_1 : VS L54_1.eq_1 := rfl
def L54_2 : List AStep := [⟨.bin .lss (.t 6) (.t 9), (some 10), none, []⟩]
theorem v54_2 : VS L54_2.eq_1 := rfl
def L54_3 : List AStep := ⟨.load 1 false (.t 7), (some 8), none, []⟩ :: ⟨.len (.t 8), (some 9), none, []⟩ :: L54_2
theorem v54_3 : VS L54_3.eq_1 := rfl
def L54_4 : List AStep := ⟨.mov (.t 5), (some 6), none, []⟩ :: ⟨.faddr 1 (.t 2), (some 7), none, []⟩ :: L54_3
theorem v54_4 : VS L54_4.eq_1 := rfl
def L54_5 : List AStep := [⟨.mov (.t 1), (some 19), none, []⟩, ⟨.bin .eql (.t 18) (.t 19), (some 20), none, []⟩]
theorem v54_5 : VS L54_5.eq_1 := rfl
def L54_6 : List AStep := ⟨.faddr 0 (.t 16), (some 17), none, []⟩ :: ⟨.load 1 false (.t 17), (some 18), none, []⟩ :: L54_5
theorem v54_6 : VS L54_6.eq_1 := rfl
def L54_7 : List AStep := ⟨.mov (.t 5), (some 15), none, []⟩ :: ⟨.iaddr 2 (.t 14) (.t 15), (some 16), none, []⟩ :: L54_6
theorem v54_7 : VS L54_7.eq_1 := rfl
def L54_8 : List AStep := ⟨.faddr 1 (.t 2), (some 13), none, []⟩ :: ⟨.load 1 false (.t 13), (some 14), none, []⟩ :: L54_7
theorem v54_8 : VS L54_8.eq_1 := rfl
def L54_9 : List AStep := [⟨.mov (.c (.bool true)), (some 4), none, []⟩]
theorem v54_9 : VS L54_9.eq_1 := rfl
def L54_10 : List AStep := [⟨.mov (.t 12), (some 5), none, []⟩]
theorem v54_10 : VS L54_10.eq_1 := rfl
def L54_11 : List AStep := ⟨.mov (.t 5), (some 11), none, []⟩ :: ⟨.bin .add (.t 11) (.c (.int .i64 1)), (some 12), none, []⟩ :: L54_10
theorem v54_11 : VS L54_11.eq_1 := rfl
def L54_12 : List AStep := [⟨.mov (.c (.bool false)), (some 4), none, []⟩]
theorem v54_12 : VS L54_12.eq_1 := rfl
def C54_0 : ACode := .cond (.t 10) .skip (.exit 0)
theorem u54_0 : VC C54_0.eq_1 := rfl
def C54_1 : ACode := .seq (.reg L54_4) C54_0
theorem u54_1 : VC C54_1.eq_1 := rfl
def C54_2 : ACode := .seq (.reg L54_9) .ret
theorem u54_2 : VC C54_2.eq_1 := rfl
def C54_3 : ACode := .cond (.t 20) C54_2 .skip
theorem u54_3 : VC C54_3.eq_1 := rfl
def C54_4 : ACode := .seq (.reg L54_8) C54_3
theorem u54_4 : VC C54_4.eq_1 := rfl
def C54_5 : ACode := .block 1 C54_4
theorem u54_5 : VC C54_5.eq_1 := rfl
def C54_6 : ACode := .seq C54_5 (.reg L54_11)
theorem u54_6 : VC C54_6.eq_1 := rfl
def C54_7 : ACode := .seq C54_1 C54_6
theorem u54_7 : VC C54_7.eq_1 := rfl
def C54_8 : ACode := .block 0 (.loop C54_7)
theorem u54_8 : VC C54_8.eq_1 := rfl
def C54_9 : ACode := .seq (.reg L54_1) C54_8
theorem u54_9 : VC C54_9.eq_1 := rfl
def C54_10 : ACode := .seq (.reg L54_12) .ret
theorem u54_10 : VC C54_10.eq_1 := rfl
def C54_11 : ACode := .seq C54_9 C54_10
theorem u54_11 : VC C54_11.eq_1 := rfl
def C54_12 : ACode := .seq (.reg L54_0) C54_11
theorem u54_12 : VC C54_12.eq_1 := rfl
def F54 : AFunc := ⟨21, [.tmp 4], C54_12⟩
theorem cF54 : compB Try.prog 54 = some F54 := by kernel_rfl
attribute [local go_sem ↓] u54_0 u54_1 u54_2 u54_3 u54_4 u54_5 u54_6 u54_7 u54_8 u54_9 u54_10 u54_11 u54_12 v54_0 v54_1 v54_2 v54_3 v54_4 v54_5 v54_6 v54_7 v54_8 v54_9 v54_10 v54_11 v54_12
theorem c_namedL (f : Flat) (p n : CV) (s : ByteArray) (h : H) (hf : SlF h p n f) (hn : f.nl.length ≤ big) : bm Try.prog 54 [.agg [p, n], .one (.str s)] h = some (ib (hasN f.nl s), h) := by
  refine bm_eq cF54 ?_
  have hl := hf.nl
  simp +contextual (maxSteps := 2000000) only [go_sem, Nat.reduceEqDiff, reduceCtorEq, Nat.reduceAdd, Nat.reduceLeDiff, F54]
  refine wpC_loop (fun i T L h' => h' = h ∧ T 1 = .v (.one (.str s)) ∧ T 2 = .lp 2 0 ∧ (L 2).2 = [p, n] ∧ T 5 = .v (.one (.int .i64 i)) ∧ Pre (fun p : Pair => decide (p.name = s)) false f.nl i) f.nl.length ?_ ?_ (Nat.zero_le _) ?_
  · rintro i T L h' hi ⟨rfl, t1, t2, l2, t5, hp⟩
    cases b : decide (f.nl[i].name = s) with
    | true =>
      have e : hasN f.nl s = true := List.any_eq_true.2 ⟨_, List.getElem_mem hi, b⟩
      simp +contextual (maxSteps := 2000000) only [go_sem, Nat.reduceEqDiff, reduceCtorEq, Nat.reduceAdd, Nat.reduceLeDiff, t1, t2, l2, t5, hl.len, hl.iaddr hi, hl.fieldO hi, lt_true hi, b, e]
    | false =>
      simp +contextual (maxSteps := 2000000) only [go_sem, Nat.reduceEqDiff, reduceCtorEq, Nat.reduceAdd, Nat.reduceLeDiff, t1, t2, l2, t5, hl.len, hl.iaddr hi, hl.fieldO hi, lt_true hi, b]
      exact ⟨by rw [wrap_next hi (big_lt hn)], hp.next hi b⟩
  · rintro T L h' ⟨rfl, t1, t2, l2, t5, hp⟩
    have e : hasN f.nl s = false := List.any_eq_false.2 fun x hx => by
      have := hp.out x (by rw [List.take_length]; exact hx)
      simpa using this
    simp +contextual (maxSteps := 2000000) only [go_sem, Nat.reduceEqDiff, reduceCtorEq, Nat.reduceAdd, Nat.reduceLeDiff, t1, t2, l2, t5, hl.len, lt_false, e]
  · simp +contextual (maxSteps := 2000000) only [go_sem, Nat.reduceEqDiff, reduceCtorEq, Nat.reduceAdd, Nat.reduceLeDiff]
    exact ⟨rfl, Pre.zero⟩
/-! impl.CountHoles -/
def L25_0 : List AStep := [⟨.box 41 (.t 0), (some 1), none, []⟩, ⟨.mov (.c (.int .i64 0)), (some 2), none, []⟩]
theorem v25_0 : VS L25_0.eq_1 := rfl
def L25_1 : List AStep := [⟨.not (.t 4), (some 5), none, []⟩]
theorem v25_1 : VS L25_1.eq_1 := rfl
def L25_2 : List AStep := ⟨.load 2 true (.t 1), (some 3), none, []⟩ :: ⟨.call 83 [(.t 3)], (some 4), none, []⟩ :: L25_1
theorem v25_2 : VS L25_2.eq_1 := rfl
def L25_3 : List AStep := [⟨.mov (.c (.int .i64 (-1))), (some 2), none, []⟩]
theorem v25_3 : VS L25_3.eq_1 := rfl
def L25_4 : List AStep := [⟨.mov (.t 7), (some 2), none, []⟩]
theorem v25_4 : VS L25_4.eq_1 := rfl
def L25_5 : List AStep := ⟨.load 2 true (.t 1), (some 6), none, []⟩ :: ⟨.call 84 [(.t 6)], (some 7), none, []⟩ :: L25_4
theorem v25_5 : VS L25_5.eq_1 := rfl
def C25_0 : ACode := .seq (.reg L25_3) .ret
theorem u25_0 : VC C25_0.eq_1 := rfl
def C25_1 : ACode := .cond (.t 5) C25_0 .skip
theorem u25_1 : VC C25_1.eq_1 := rfl
def C25_2 : ACode := .seq (.reg L25_2) C25_1
theorem u25_2 : VC C25_2.eq_1 := rfl
def C25_3 : ACode := .seq (.reg L25_5) .ret
theorem u25_3 : VC C25_3.eq_1 := rfl
def C25_4 : ACode := .seq C25_2 C25_3
theorem u25_4 : VC C25_4.eq_1 := rfl
def C25_5 : ACode := .seq (.reg L25_0) C25_4
theorem u25_5 : VC C25_5.eq_1 := rfl
def F25 : AFunc := ⟨8, [.tmp 2], C25_5⟩
theorem cF25 : compB Try.prog 25 = some F25 := by kernel_rfl
attribute [local go_sem ↓] u25_0 u25_1 u25_2 u25_3 u25_4 u25_5 v25_0 v25_1 v25_2 v25_3 v25_4 v25_5
theorem c_CountHoles (f : Holes) (p n : CV) (h : H) (hf : SlH h p n f) (hn : smH f) (ok : okHoles f = true) : bm Try.prog 25 [.agg [p, n]] h = some (ii (countH f.pl), h) := by
  refine bm_eq cF25 ?_
  simp +contextual (maxSteps := 2000000) only [go_sem, Nat.reduceEqDiff, reduceCtorEq, Nat.reduceAdd, Nat.reduceLeDiff, F25, c_ValidHoles _ _ _ _ hf hn, ok, c_holes _ _ _ _ hf hn]
/-! laws.FnFillHoles -/
def L10_0 : List AStep := [⟨.mov (.c (.bool false)), (some 2), none, []⟩]
theorem v10_0 : VS L10_0.eq_1 := rfl
def L10_1 : List AStep := [⟨.bin .gtr (.t 12) (.c (.int .i64 1048576)), (some 13), none, []⟩]
theorem v10_1 : VS L10_1.eq_1 := rfl
def L10_2 : List AStep := ⟨.mov (.t 0), (some 11), none, []⟩ :: ⟨.len (.t 11), (some 12), none, []⟩ :: L10_1
theorem v10_2 : VS L10_2.eq_1 := rfl
def L10_3 : List AStep := [⟨.mov (.c (.bool true)), (some 2), none, []⟩]
theorem v10_3 : VS L10_3.eq_1 := rfl
def L10_4 : List AStep := [⟨.store 2 (.t 4) (.t 18), none, none, []⟩]
theorem v10_4 : VS L10_4.eq_1 := rfl
def L10_5 : List AStep := ⟨.alloc 30 [(.sl none 0 (some 0)), (.sl none 0 (some 0))], (some 4), none, []⟩ :: ⟨.store 2 (.t 3) (.t 17), none, none, []⟩ :: L10_4
theorem v10_5 : VS L10_5.eq_1 := rfl
def L10_6 : List AStep := ⟨.extract (.t 14) 1, (some 18), none, []⟩ :: ⟨.alloc 41 [(.sl none 0 (some 0)), (.sl none 0 (some 0))], (some 3), none, []⟩ :: L10_5
theorem v10_6 : VS L10_6.eq_1 := rfl
def L10_7 : List AStep := ⟨.mov (.t 16), (some 14), none, []⟩ :: ⟨.extract (.t 14) 0, (some 17), none, []⟩ :: L10_6
theorem v10_7 : VS L10_7.eq_1 := rfl
def L10_8 : List AStep := ⟨.mov (.t 0), (some 15), none, []⟩ :: ⟨.call 52 [(.t 15)], (some 16), none, []⟩ :: L10_7
theorem v10_8 : VS L10_8.eq_1 := rfl
def L10_9 : List AStep := [⟨.mov (.t 24), (some 6), none, []⟩]
theorem v10_9 : VS L10_9.eq_1 := rfl
def L10_10 : List AStep := ⟨.alloc 30 [(.sl none 0 (some 0)), (.sl none 0 (some 0))], (some 5), none, []⟩ :: ⟨.store 2 (.t 5) (.t 23), none, none, []⟩ :: L10_9
theorem v10_10 : VS L10_10.eq_1 := rfl
def L10_11 : List AStep := ⟨.extract (.t 19) 0, (some 23), none, []⟩ :: ⟨.extract (.t 19) 1, (some 24), none, []⟩ :: L10_10
theorem v10_11 : VS L10_11.eq_1 := rfl
def L10_12 : List AStep := ⟨.call 26 [(.t 20), (.t 21)], (some 22), none, []⟩ :: ⟨.mov (.t 22), (some 19), none, []⟩ :: L10_11
theorem v10_12 : VS L10_12.eq_1 := rfl
def L10_13 : List AStep := ⟨.load 2 true (.t 3), (some 20), none, []⟩ :: ⟨.load 2 true (.t 4), (some 21), none, []⟩ :: L10_12
theorem v10_13 : VS L10_13.eq_1 := rfl
def L10_14 : List AStep := [⟨.mov (.t 30), (some 8), none, []⟩]
theorem v10_14 : VS L10_14.eq_1 := rfl
def L10_15 : List AStep := ⟨.alloc 30 [(.sl none 0 (some 0)), (.sl none 0 (some 0))], (some 7), none, []⟩ :: ⟨.store 2 (.t 7) (.t 29), none, none, []⟩ :: L10_14
theorem v10_15 : VS L10_15.eq_1 := rfl
def L10_16 : List AStep := ⟨.extract (.t 25) 0, (some 29), none, []⟩ :: ⟨.extract (.t 25) 1, (some 30), none, []⟩ :: L10_15
theorem v10_16 : VS L10_16.eq_1 := rfl
def L10_17 : List AStep := ⟨.call 53 [(.t 26), (.t 27)], (some 28), none, []⟩ :: ⟨.mov (.t 28), (some 25), none, []⟩ :: L10_16
theorem v10_17 : VS L10_17.eq_1 := rfl
def L10_18 : List AStep := ⟨.load 2 true (.t 3), (some 26), none, []⟩ :: ⟨.load 2 true (.t 4), (some 27), none, []⟩ :: L10_17
theorem v10_18 : VS L10_18.eq_1 := rfl
def L10_19 : List AStep := [⟨.pick (.t 40) (.c (.bool true)) (.t 42), (some 43), none, []⟩]
theorem v10_19 : VS L10_19.eq_1 := rfl
def L10_20 : List AStep := ⟨.mov (.t 6), (some 41), (some (40, false)), []⟩ :: ⟨.not (.t 41), (some 42), (some (40, false)), []⟩ :: L10_19
theorem v10_20 : VS L10_20.eq_1 := rfl
def L10_21 : List AStep := ⟨.pick (.t 35) (.c (.bool true)) (.t 38), (some 39), none, []⟩ :: ⟨.mov (.t 39), (some 40), none, []⟩ :: L10_20
theorem v10_21 : VS L10_21.eq_1 := rfl
def L10_22 : List AStep := ⟨.mov (.t 8), (some 37), (some (35, false)), []⟩ :: ⟨.eqb true (.t 36) (.t 37), (some 38), (some (35, false)), []⟩ :: L10_21
theorem v10_22 : VS L10_22.eq_1 := rfl
def L10_23 : List AStep := ⟨.mov (.t 34), (some 35), none, []⟩ :: ⟨.mov (.t 6), (some 36), (some (35, false)), []⟩ :: L10_22
theorem v10_23 : VS L10_23.eq_1 := rfl
def L10_24 : List AStep := ⟨.call 18 [(.t 31), (.t 32)], (some 33), none, []⟩ :: ⟨.not (.t 33), (some 34), none, []⟩ :: L10_23
theorem v10_24 : VS L10_24.eq_1 := rfl
def L10_25 : List AStep := ⟨.load 2 true (.t 5), (some 31), none, []⟩ :: ⟨.load 2 true (.t 7), (some 32), none, []⟩ :: L10_24
theorem v10_25 : VS L10_25.eq_1 := rfl
def L10_26 : List AStep := [⟨.mov (.t 51), (some 2), none, []⟩]
theorem v10_26 : VS L10_26.eq_1 := rfl
def L10_27 : List AStep := ⟨.eqb false (.t 48) (.t 49), (some 50), (some (47, true)), []⟩ :: ⟨.pick (.t 47) (.t 50) (.c (.bool false)), (some 51), none, []⟩ :: L10_26
theorem v10_27 : VS L10_27.eq_1 := rfl
def L10_28 : List AStep := ⟨.mov (.t 6), (some 48), (some (47, true)), []⟩ :: ⟨.mov (.t 8), (some 49), (some (47, true)), []⟩ :: L10_27
theorem v10_28 : VS L10_28.eq_1 := rfl
def L10_29 : List AStep := ⟨.call 18 [(.t 44), (.t 45)], (some 46), none, []⟩ :: ⟨.mov (.t 46), (some 47), none, []⟩ :: L10_28
theorem v10_29 : VS L10_29.eq_1 := rfl
def L10_30 : List AStep := ⟨.load 2 true (.t 5), (some 44), none, []⟩ :: ⟨.load 2 true (.t 7), (some 45), none, []⟩ :: L10_29
theorem v10_30 : VS L10_30.eq_1 := rfl
def L10_31 : List AStep := [⟨.mov (.c (.int .i64 0)), (some 9), none, []⟩]
theorem v10_31 : VS L10_31.eq_1 := rfl
def L10_32 : List AStep := [⟨.bin .lss (.t 52) (.t 55), (some 56), none, []⟩]
theorem v10_32 : VS L10_32.eq_1 := rfl
def L10_33 : List AStep := ⟨.load 1 false (.t 53), (some 54), none, []⟩ :: ⟨.len (.t 54), (some 55), none, []⟩ :: L10_32
theorem v10_33 : VS L10_33.eq_1 := rfl
def L10_34 : List AStep := ⟨.mov (.t 9), (some 52), none, []⟩ :: ⟨.faddr 0 (.t 3), (some 53), none, []⟩ :: L10_33
theorem v10_34 : VS L10_34.eq_1 := rfl
def L10_35 : List AStep := [⟨.pick (.t 66) (.t 78) (.c (.bool false)), (some 79), none, []⟩]
theorem v10_35 : VS L10_35.eq_1 := rfl
def L10_36 : List AStep := ⟨.load 1 false (.t 76), (some 77), (some (66, true)), []⟩ :: ⟨.bin .neq (.t 71) (.t 77), (some 78), (some (66, true)), []⟩ :: L10_35
theorem v10_36 : VS L10_36.eq_1 := rfl
def L10_37 : List AStep := ⟨.iaddr 2 (.t 73) (.t 74), (some 75), (some (66, true)), []⟩ :: ⟨.faddr 1 (.t 75), (some 76), (some (66, true)), []⟩ :: L10_36
theorem v10_37 : VS L10_37.eq_1 := rfl
def L10_38 : List AStep := ⟨.load 1 false (.t 72), (some 73), (some (66, true)), []⟩ :: ⟨.mov (.t 9), (some 74), (some (66, true)), []⟩ :: L10_37
theorem v10_38 : VS L10_38.eq_1 := rfl
def L10_39 : List AStep := ⟨.load 1 false (.t 70), (some 71), (some (66, true)), []⟩ :: ⟨.faddr 0 (.t 3), (some 72), (some (66, true)), []⟩ :: L10_38
theorem v10_39 : VS L10_39.eq_1 := rfl
def L10_40 : List AStep := ⟨.mov (.t 9), (some 69), (some (66, true)), []⟩ :: ⟨.iaddr 1 (.t 68) (.t 69), (some 70), (some (66, true)), []⟩ :: L10_39
theorem v10_40 : VS L10_40.eq_1 := rfl
def L10_41 : List AStep := ⟨.faddr 0 (.t 5), (some 67), (some (66, true)), []⟩ :: ⟨.load 1 false (.t 67), (some 68), (some (66, true)), []⟩ :: L10_40
theorem v10_41 : VS L10_41.eq_1 := rfl
def L10_42 : List AStep := ⟨.not (.t 64), (some 65), none, []⟩ :: ⟨.mov (.t 65), (some 66), none, []⟩ :: L10_41
theorem v10_42 : VS L10_42.eq_1 := rfl
def L10_43 : List AStep := ⟨.faddr 0 (.t 62), (some 63), none, []⟩ :: ⟨.load 1 false (.t 63), (some 64), none, []⟩ :: L10_42
theorem v10_43 : VS L10_43.eq_1 := rfl
def L10_44 : List AStep := ⟨.mov (.t 9), (some 61), none, []⟩ :: ⟨.iaddr 2 (.t 60) (.t 61), (some 62), none, []⟩ :: L10_43
theorem v10_44 : VS L10_44.eq_1 := rfl
def L10_45 : List AStep := ⟨.faddr 0 (.t 3), (some 59), none, []⟩ :: ⟨.load 1 false (.t 59), (some 60), none, []⟩ :: L10_44
theorem v10_45 : VS L10_45.eq_1 := rfl
def L10_46 : List AStep := [⟨.mov (.c (.bool false)), (some 2), none, []⟩]
theorem v10_46 : VS L10_46.eq_1 := rfl
def L10_47 : List AStep := [⟨.mov (.t 58), (some 9), none, []⟩]
theorem v10_47 : VS L10_47.eq_1 := rfl
def L10_48 : List AStep := ⟨.mov (.t 9), (some 57), none, []⟩ :: ⟨.bin .add (.t 57) (.c (.int .i64 1)), (some 58), none, []⟩ :: L10_47
theorem v10_48 : VS L10_48.eq_1 := rfl
def L10_49 : List AStep := [⟨.mov (.c (.int .i64 0)), (some 10), none, []⟩]
theorem v10_49 : VS L10_49.eq_1 := rfl
def L10_50 : List AStep := [⟨.bin .lss (.t 80) (.t 83), (some 84), none, []⟩]
theorem v10_50 : VS L10_50.eq_1 := rfl
def L10_51 : List AStep := ⟨.load 1 false (.t 81), (some 82), none, []⟩ :: ⟨.len (.t 82), (some 83), none, []⟩ :: L10_50
theorem v10_51 : VS L10_51.eq_1 := rfl
def L10_52 : List AStep := ⟨.mov (.t 10), (some 80), none, []⟩ :: ⟨.faddr 1 (.t 4), (some 81), none, []⟩ :: L10_51
theorem v10_52 : VS L10_52.eq_1 := rfl
def L10_53 : List AStep := [⟨.not (.t 94), (some 95), none, []⟩]
theorem v10_53 : VS L10_53.eq_1 := rfl
def L10_54 : List AStep := ⟨.load 1 false (.t 92), (some 93), none, []⟩ :: ⟨.call 54 [(.t 87), (.t 93)], (some 94), none, []⟩ :: L10_53
theorem v10_54 : VS L10_54.eq_1 := rfl
def L10_55 : List AStep := ⟨.iaddr 2 (.t 89) (.t 90), (some 91), none, []⟩ :: ⟨.faddr 0 (.t 91), (some 92), none, []⟩ :: L10_54
theorem v10_55 : VS L10_55.eq_1 := rfl
def L10_56 : List AStep := ⟨.load 1 false (.t 88), (some 89), none, []⟩ :: ⟨.mov (.t 10), (some 90), none, []⟩ :: L10_55
theorem v10_56 : VS L10_56.eq_1 := rfl
def L10_57 : List AStep := ⟨.load 2 true (.t 5), (some 87), none, []⟩ :: ⟨.faddr 1 (.t 4), (some 88), none, []⟩ :: L10_56
theorem v10_57 : VS L10_57.eq_1 := rfl
def L10_58 : List AStep := [⟨.mov (.c (.bool false)), (some 2), none, []⟩]
theorem v10_58 : VS L10_58.eq_1 := rfl
def L10_59 : List AStep := [⟨.mov (.t 86), (some 10), none, []⟩]
theorem v10_59 : VS L10_59.eq_1 := rfl
def L10_60 : List AStep := ⟨.mov (.t 10), (some 85), none, []⟩ :: ⟨.bin .add (.t 85) (.c (.int .i64 1)), (some 86), none, []⟩ :: L10_59
theorem v10_60 : VS L10_60.eq_1 := rfl
def L10_61 : List AStep := [⟨.mov (.t 109), (some 2), none, []⟩]
theorem v10_61 : VS L10_61.eq_1 := rfl
def L10_62 : List AStep := ⟨.bin .sub (.t 105) (.t 107), (some 108), none, []⟩ :: ⟨.bin .eql (.t 98) (.t 108), (some 109), none, []⟩ :: L10_61
theorem v10_62 : VS L10_62.eq_1 := rfl
def L10_63 : List AStep := ⟨.load 2 true (.t 3), (some 106), none, []⟩ :: ⟨.call 25 [(.t 106)], (some 107), none, [(.load 1 false (.t 96), (some 97), none), (.load 1 false (.t 99), (some 100), none), (.load 1 false (.t 102), (some 103), none)]⟩ :: L10_62
theorem v10_63 : VS L10_63.eq_1 := rfl
def L10_64 : List AStep := ⟨.len (.t 103), (some 104), none, []⟩ :: ⟨.bin .add (.t 101) (.t 104), (some 105), none, []⟩ :: L10_63
theorem v10_64 : VS L10_64.eq_1 := rfl
def L10_65 : List AStep := ⟨.faddr 0 (.t 4), (some 102), none, []⟩ :: ⟨.load 1 false (.t 102), (some 103), none, []⟩ :: L10_64
theorem v10_65 : VS L10_65.eq_1 := rfl
def L10_66 : List AStep := ⟨.load 1 false (.t 99), (some 100), none, []⟩ :: ⟨.len (.t 100), (some 101), none, []⟩ :: L10_65
theorem v10_66 : VS L10_66.eq_1 := rfl
def L10_67 : List AStep := ⟨.len (.t 97), (some 98), none, []⟩ :: ⟨.faddr 0 (.t 3), (some 99), none, []⟩ :: L10_66
theorem v10_67 : VS L10_67.eq_1 := rfl
def L10_68 : List AStep := ⟨.faddr 0 (.t 5), (some 96), none, []⟩ :: ⟨.load 1 false (.t 96), (some 97), none, []⟩ :: L10_67
theorem v10_68 : VS L10_68.eq_1 := rfl
def C10_0 : ACode := .seq (.reg L10_3) .ret
theorem u10_0 : VC C10_0.eq_1 := rfl
def C10_1 : ACode := .cond (.t 13) C10_0 .skip
theorem u10_1 : VC C10_1.eq_1 := rfl
def C10_2 : ACode := .seq (.reg L10_2) C10_1
theorem u10_2 : VC C10_2.eq_1 := rfl
def C10_3 : ACode := .seq (.reg L10_30) .ret
theorem u10_3 : VC C10_3.eq_1 := rfl
def C10_4 : ACode := .cond (.t 43) C10_3 .skip
theorem u10_4 : VC C10_4.eq_1 := rfl
def C10_5 : ACode := .seq (.reg L10_25) C10_4
theorem u10_5 : VC C10_5.eq_1 := rfl
def C10_6 : ACode := .cond (.t 56) .skip (.exit 0)
theorem u10_6 : VC C10_6.eq_1 := rfl
def C10_7 : ACode := .seq (.reg L10_34) C10_6
theorem u10_7 : VC C10_7.eq_1 := rfl
def C10_8 : ACode := .seq (.reg L10_46) .ret
theorem u10_8 : VC C10_8.eq_1 := rfl
def C10_9 : ACode := .cond (.t 79) C10_8 .skip
theorem u10_9 : VC C10_9.eq_1 := rfl
def C10_10 : ACode := .seq (.reg L10_45) C10_9
theorem u10_10 : VC C10_10.eq_1 := rfl
def C10_11 : ACode := .block 1 C10_10
theorem u10_11 : VC C10_11.eq_1 := rfl
def C10_12 : ACode := .seq C10_11 (.reg L10_48)
theorem u10_12 : VC C10_12.eq_1 := rfl
def C10_13 : ACode := .seq C10_7 C10_12
theorem u10_13 : VC C10_13.eq_1 := rfl
def C10_14 : ACode := .block 0 (.loop C10_13)
theorem u10_14 : VC C10_14.eq_1 := rfl
def C10_15 : ACode := .seq (.reg L10_31) C10_14
theorem u10_15 : VC C10_15.eq_1 := rfl
def C10_16 : ACode := .cond (.t 84) .skip (.exit 2)
theorem u10_16 : VC C10_16.eq_1 := rfl
def C10_17 : ACode := .seq (.reg L10_52) C10_16
theorem u10_17 : VC C10_17.eq_1 := rfl
def C10_18 : ACode := .seq (.reg L10_58) .ret
theorem u10_18 : VC C10_18.eq_1 := rfl
def C10_19 : ACode := .cond (.t 95) C10_18 .skip
theorem u10_19 : VC C10_19.eq_1 := rfl
def C10_20 : ACode := .seq (.reg L10_57) C10_19
theorem u10_20 : VC C10_20.eq_1 := rfl
def C10_21 : ACode := .block 3 C10_20
theorem u10_21 : VC C10_21.eq_1 := rfl
def C10_22 : ACode := .seq C10_21 (.reg L10_60)
theorem u10_22 : VC C10_22.eq_1 := rfl
def C10_23 : ACode := .seq C10_17 C10_22
theorem u10_23 : VC C10_23.eq_1 := rfl
def C10_24 : ACode := .block 2 (.loop C10_23)
theorem u10_24 : VC C10_24.eq_1 := rfl
def C10_25 : ACode := .seq (.reg L10_49) C10_24
theorem u10_25 : VC C10_25.eq_1 := rfl
def C10_26 : ACode := .seq (.reg L10_68) .ret
theorem u10_26 : VC C10_26.eq_1 := rfl
def C10_27 : ACode := .seq C10_25 C10_26
theorem u10_27 : VC C10_27.eq_1 := rfl
def C10_28 : ACode := .seq C10_15 C10_27
theorem u10_28 : VC C10_28.eq_1 := rfl
def C10_29 : ACode := .seq C10_5 C10_28
theorem u10_29 : VC C10_29.eq_1 := rfl
def C10_30 : ACode := .seq (.reg L10_18) C10_29
theorem u10_30 : VC C10_30.eq_1 := rfl
def C10_31 : ACode := .seq (.reg L10_13) C10_30
theorem u10_31 : VC C10_31.eq_1 := rfl
def C10_32 : ACode := .seq (.reg L10_8) C10_31
theorem u10_32 : VC C10_32.eq_1 := rfl
def C10_33 : ACode := .seq C10_2 C10_32
theorem u10_33 : VC C10_33.eq_1 := rfl
def C10_34 : ACode := .seq (.reg L10_0) C10_33
theorem u10_34 : VC C10_34.eq_1 := rfl
def F10 : AFunc := ⟨110, [.tmp 2], C10_34⟩
theorem cF10 : compB Try.prog 10 = some F10 := by kernel_rfl
attribute [local go_sem ↓] u10_0 u10_1 u10_2 u10_3 u10_4 u10_5 u10_6 u10_7 u10_8 u10_9 u10_10 u10_11 u10_12 u10_13 u10_14 u10_15 u10_16 u10_17 u10_18 u10_19 u10_20 u10_21 u10_22 u10_23 u10_24 u10_25 u10_26 u10_27 u10_28 u10_29 u10_30 u10_31 u10_32 u10_33 u10_34 v10_0 v10_1 v10_2 v10_3 v10_4 v10_5 v10_6 v10_7 v10_8 v10_9 v10_10 v10_11 v10_12 v10_13 v10_14 v10_15 v10_16 v10_17 v10_18 v10_19 v10_20 v10_21 v10_22 v10_23 v10_24 v10_25 v10_26 v10_27 v10_28 v10_29 v10_30 v10_31 v10_32 v10_33 v10_34 v10_35 v10_36 v10_37 v10_38 v10_39 v10_40 v10_41 v10_42 v10_43 v10_44 v10_45 v10_46 v10_47 v10_48 v10_49 v10_50 v10_51 v10_52 v10_53 v10_54 v10_55 v10_56 v10_57 v10_58 v10_59 v10_60 v10_61 v10_62 v10_63 v10_64 v10_65 v10_66 v10_67 v10_68
theorem law10 (h : H) (avs : List AV) (hok : okVs Try.prog h 6 [ 22 ] avs) : callK (bm Try.prog 10 avs h) fun r _ => r = ib true := by
  obtain ⟨v0, avs, rfl, hv0, hok⟩ := okVs_cons hok
  obtain rfl := okVs_nil hok
  obtain ⟨v, code, rfl, s0, hc, k0⟩ := dBytes hv0
  refine bm_of cF10 ?_
  cases b0 : decide ((code.length : Int) > 1048576) with
  | true => simp +contextual (maxSteps := 2000000) only [go_sem, Nat.reduceEqDiff, reduceCtorEq, Nat.reduceAdd, Nat.reduceLeDiff, F10, s0.len, b0]
  | false =>
  simp +contextual (maxSteps := 2000000) only [go_sem, Nat.reduceEqDiff, reduceCtorEq, Nat.reduceAdd, Nat.reduceLeDiff, F10, s0.len, b0]
  refine wp_call (c_drawFillHoles code v h s0 hc) ?_
  rintro q h1 ⟨g1, x, y, u, w, f, g, rfl, zf, zg, mf, mg⟩
  simp +contextual (maxSteps := 2000000) only [go_sem, Nat.reduceEqDiff, reduceCtorEq, Nat.reduceAdd, Nat.reduceLeDiff]
  refine wp_call (k_iFillHoles f g x y u w h1 zf.sl zg.sl mf mg) ?_
  rintro q h2 ⟨g2, c, d, rfl, zo⟩
  have zf2 := zf.sl.grow g2
  have zg2 := zg.sl.grow g2
  simp +contextual (maxSteps := 2000000) only [go_sem, Nat.reduceEqDiff, reduceCtorEq, Nat.reduceAdd, Nat.reduceLeDiff]
  refine wp_call (k_sFillHoles f g x y u w h2 zf2 zg2 mf mg) ?_
  rintro q h3 ⟨g3, c3, d3, rfl, zw⟩
  have zf3 := zf2.grow g3
  have zg3 := zg2.grow g3
  have zo3 := (zo.grow g3).sl
  have mo : miniF (orF (FillHoles f g)) := .fill
  have eq1 := c_equalFlat (orF (FillHoles f g)) (orF (FillHoles f g)) c d c3 d3 h3 zo3.pl zo3.nl zw.sl.pl zw.sl.nl (Nat.le_trans mo.pl (by decide)) (Nat.le_trans mo.nl (by decide))
  rw [decide_eq_true rfl] at eq1
  cases b1 : (FillHoles f g).isSome with
  | false =>
    simp +contextual (maxSteps := 2000000) only [go_sem, Nat.reduceEqDiff, reduceCtorEq, Nat.reduceAdd, Nat.reduceLeDiff, eq1, b1]
    exact gcK_of rfl (fun _ _ => rfl)
  | true =>
  obtain ⟨ok1, ok2, hcn, e⟩ := Fill_some b1
  rw [show orF (FillHoles f g) = fillH f g by rw [e]; rfl] at zo3 mo
  have hlen : (fillH f g).pl.length = f.pl.length + (g.pl.length - countH f.pl) := by simp [fillH, valsT_len]
  have hfl := mf.pl
  have hgl := mg.pl
  have hgn := mg.nl
  simp +contextual (maxSteps := 2000000) only [go_sem, Nat.reduceEqDiff, reduceCtorEq, Nat.reduceAdd, Nat.reduceLeDiff, eq1, b1]
  refine wpC_loop (fun i T L h' => h' = h3 ∧ T 3 = .lp 3 0 ∧ (L 3).2 = [x, y] ∧ T 4 = .lp 4 0 ∧ (L 4).2 = [u, w] ∧ T 5 = .lp 5 0 ∧ (L 5).2 = [c, d] ∧ T 9 = .v (.one (.int .i64 i))) f.pl.length ?_ ?_ (Nat.zero_le _) ?_
  · rintro i T L h' hi ⟨rfl, t3, l3, t4, l4, t5, l5, t9⟩
    have hio : i < (fillH f g).pl.length := by omega
    cases b : f.pl[i].hole with
    | true =>
      simp +contextual (maxSteps := 2000000) only [go_sem, Nat.reduceEqDiff, reduceCtorEq, Nat.reduceAdd, Nat.reduceLeDiff, t3, l3, t4, l4, t5, l5, t9, zf3.pl.len, zf3.pl.iaddr hi, zf3.pl.fieldO hi, lt_true hi, b]
      rw [wrap_next hi (by omega)]
    | false =>
      have ev : decide ((fillH f g).pl[i] = f.pl[i].value) = true := decide_eq_true (fillH_at hi hio b)
      simp +contextual (maxSteps := 2000000) only [go_sem, Nat.reduceEqDiff, reduceCtorEq, Nat.reduceAdd, Nat.reduceLeDiff, t3, l3, t4, l4, t5, l5, t9, zf3.pl.len, zf3.pl.iaddr hi, zf3.pl.fieldO hi, zo3.pl.iaddr hio, zo3.pl.oneO hio, lt_true hi, b, ev]
      rw [wrap_next hi (by omega)]
  · rintro T L h' ⟨rfl, t3, l3, t4, l4, t5, l5, t9⟩
    simp +contextual (maxSteps := 2000000) only [go_sem, Nat.reduceEqDiff, reduceCtorEq, Nat.reduceAdd, Nat.reduceLeDiff, t3, l3, t4, l4, t5, l5, t9, zf3.pl.len, lt_false]
    refine wpC_loop (fun i T L h2 => h2 = h' ∧ T 3 = .lp 3 0 ∧ (L 3).2 = [x, y] ∧ T 4 = .lp 4 0 ∧ (L 4).2 = [u, w] ∧ T 5 = .lp 5 0 ∧ (L 5).2 = [c, d] ∧ T 10 = .v (.one (.int .i64 i))) g.nl.length ?_ ?_ (Nat.zero_le _) ?_
    · rintro i T L h2 hi ⟨rfl, t3, l3, t4, l4, t5, l5, t10⟩
      have en := c_namedL (fillH f g) c d g.nl[i].name h2 zo3 (Nat.le_trans mo.nl (by decide))
      rw [show hasN (fillH f g).nl g.nl[i].name = true from hasN_of (List.getElem_mem hi)] at en
      simp +contextual (maxSteps := 2000000) only [go_sem, Nat.reduceEqDiff, reduceCtorEq, Nat.reduceAdd, Nat.reduceLeDiff, t3, l3, t4, l4, t5, l5, t10, zg3.nl.len, zg3.nl.iaddr hi, zg3.nl.fieldO hi, lt_true hi, en]
      rw [wrap_next hi (by omega)]
    · rintro T L h2 ⟨rfl, t3, l3, t4, l4, t5, l5, t10⟩
      have v1 : IntKind.i64.wrap ((f.pl.length : Int) + (g.pl.length : Int)) = ((f.pl.length + g.pl.length : Nat) : Int) := by rw [i64_wrap (by omega) (by omega)]; omega
      have v2 : IntKind.i64.wrap (((f.pl.length + g.pl.length : Nat) : Int) - (countH f.pl : Int)) = (((fillH f g).pl.length : Nat) : Int) := by
        have : countH f.pl ≤ f.pl.length := List.countP_le_length
        rw [i64_wrap (by omega) (by omega), hlen]; omega
      have ec := c_CountHoles f x y h2 zf3 mf.sm ok1
      simp +contextual (maxSteps := 2000000) only [go_sem, Nat.reduceEqDiff, reduceCtorEq, Nat.reduceAdd, Nat.reduceLeDiff, t3, l3, t4, l4, t5, l5, t10, zg3.nl.len, zg3.pl.len, zf3.pl.len, zo3.pl.len, lt_false, ec, v1, v2, decide_true]
      try exact gcK_of rfl (fun _ _ => rfl)
    · simp +contextual (maxSteps := 2000000) only [go_sem, Nat.reduceEqDiff, reduceCtorEq, Nat.reduceAdd, Nat.reduceLeDiff, t3, l3, t4, l4, t5, l5]
      rfl
  · simp +contextual (maxSteps := 2000000) only [go_sem, Nat.reduceEqDiff, reduceCtorEq, Nat.reduceAdd, Nat.reduceLeDiff]
    rfl
end Go.Proofs.Ytnphlonhogcedaa.Am
