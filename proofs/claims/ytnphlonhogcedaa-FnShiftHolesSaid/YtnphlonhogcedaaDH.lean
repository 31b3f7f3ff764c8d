/- Contracts: calls with holes that are drawn. -/
import Derived.Test.YtnphlonhogcedaaDG
namespace Go.Proofs.Ytnphlonhogcedaa.Am
open Go
set_option maxRecDepth 100000
set_option maxHeartbeats 4000000
set_option linter.unusedSimpArgs false
set_option linter.unusedVariables false
attribute [local go_sem ↓] bv_t bv_c ev_t ev_c put_same put_ne put_none kill_at pro_at lb_same lb_ne start_zero start_succ wpC_seq wpC_reg wpC_cond wpC_block wpC_skip wpC_exit wpC_ret thenQ_normal thenQ_exit thenQ_ret inBlk_normal inBlk_exit inBlk_ret wpS_nil wpS_step wpS_again wpS_guard wpO_mov wpO_load wpO_faddr wpO_nilCheck wpO_pick wpO_build wpO_bin wpO_eqb wpO_eqst wpO_eqnil wpO_not wpO_conv wpO_bytesStr wpO_iaddr wpO_idxStr wpO_field wpO_extract wpO_len wpO_lenStr wpO_cap wpO_min wpO_slice wpO_sliceStr wpO_alloc wpO_box wpO_store wpO_call wpO_callv wpO_mkfn wpO_buildSlice wpO_mkslice wpO_append wpO_appz proA_nil proA_cons tmpX_nil tmpX_tmp tmpX_cell doneB_normal doneB_ret agK_cons agK_nil agK_guard agG_tt agG_ff agG_tf agG_ft agG_undef pureB_load results_one results_two results_nil resBs_cons resBs_nil resB_tmp resB_cell
attribute [local go_sem] kill_v kill_lp_ne kill_lp_same pro_v pro_lp_same pro_lp_ne av_v av_lp optB_some optX_some valX_eq ldX_lp ldX_v faX_lp faX_v ncX_lp ncX_ptr ncX_fn boxK_one boxK_agg stL_some stK_lp_one stK_lp_agg stK_v_one stK_v_agg proM_v proM_lp callG_mk callVG_mk callvK_fn fnG_mk ptrsA_nil ptrsA_cons callH_some whenA_true whenA_false guardH_tt guardH_ff guardH_tf guardH_ft guardH_undef agV_one agV_agg lenO_sl lenStrO_str notO_bool pickO_bool convO_int eqbO_bool eqnilO_sl extractO_tup capO_sl minO_int loadL_one loadL_all storeL_eq fillA_nil fillA_one fillA_agg nat_ge neg_ge nat_lt neg_lt buildO bin_add bin_sub bin_mul bin_eql bin_neq bin_lss bin_leq bin_gtr bin_geq str_eql str_neq str_lss str_leq str_gtr str_geq retK_some endK_mk gcK_same gcK_int gcK_bool tupO_one tupO_agg rdy_self ib ii Option.map_none Option.map_some Option.some.injEq exists_eq_left' exists_eq_left ne_eq not_false_eq_true if_true if_false List.map_cons List.map_nil List.getElem?_cons_zero List.getElem?_cons_succ List.length_cons List.length_nil List.take_succ_cons List.take_zero List.take_nil List.drop_succ_cons List.drop_zero List.drop_nil List.cons_append List.nil_append List.append_nil List.set_cons_zero List.set_cons_succ Nat.zero_add forall_const true_and and_true and_self Bool.false_eq_true false_implies true_implies implies_true Bool.not_true Bool.not_false Bool.not_eq_true' Bool.not_eq_false' beq_self_eq_true Bool.bne_true Bool.bne_false
attribute [local go_sem] lenI lenS lenP lenQ lenB lenL lenT encI_0 encS_0 encP_0 encP_1 encQ_0 encQ_1 encQ_2 encQ_3 encB_0 encB_1 encL_0 encL_1 encT_0 encT_1
attribute [local go_sem low] whenA_bool guardH_bool
theorem NwH.drew {b c : Nat} {p : Int} {h0 h1 h2 : H} {x y : CV} {f : Holes} (z : NwH h0 h1 x y f) (d : Drew b p c h1 h2) (hb : b < h0.n) : NwH h0 h2 x y f := ⟨z.pl.drew d hb, z.nl.drew d hb, z.sep⟩
theorem NwH.appPl {h0 h h1 : H} {c d c2 : CV} {f : Holes} {m : List Place} (x : NwH h0 h c d f) (n : NwL h0 h1 (.one c2) m) (st : Stay (.one c) h h1) (hb : ∀ j, baseOf (.one c2) = some j → baseOf (.one c) = some j ∨ h.n ≤ j) : NwH h0 h1 c2 d ⟨m, f.nl⟩ :=
  ⟨n, x.nl.stay st x.sep.symm, fun i hi hd => by
    rcases hb i hi with e | e
    · exact x.sep i e hd
    · have := (x.nl.lt hd).1; omega⟩
theorem NwH.appNl {h0 h h1 : H} {c d d2 : CV} {f : Holes} {m : List Pair} (x : NwH h0 h c d f) (n : NwP h0 h1 (.one d2) m) (st : Stay (.one d) h h1) (hb : ∀ j, baseOf (.one d2) = some j → baseOf (.one d) = some j ∨ h.n ≤ j) : NwH h0 h1 c d2 ⟨f.pl, m⟩ :=
  ⟨x.pl.stay st x.sep, n, fun i hi hd => by
    rcases hb i hd with e | e
    · exact x.sep i hi e
    · have := (x.pl.lt hi).1; omega⟩
theorem wp_setD {α : Type} {enc : α → List CV} {k ty : Nat} {T : Tb} {L : Lb} {K : Post} {h0 h : H} {v : AV} {l : List α} {x : α} {i off m : Nat} {vs : List CV} {d : Option Nat} (he : ∀ x, (enc x).length = k) (hs : Nw enc k ty h0 h v l) (hi : i < l.length) (hm : vs.length = m) (hx : (enc l[i]).take off ++ (vs ++ (enc l[i]).drop (off + vs.length)) = enc x) (ho : off + vs.length ≤ k)
    (hn : h0.n ≤ h.n) (hk : ∀ h1, Nw enc k ty h0 h1 v (l.set i x) → Stay v h h1 → K (T.put d (.v undefA)) L (rdy h1)) : stH m ((elem k v i).1, (elem k v i).2 + off) vs d T L h K :=
  wp_set he (hs.from (h0 := h.cut h0.n) (Nat.le_refl _)) hi hm hx ho (H.cut_grow hn) fun h1 _ n st => hk h1 (n.from (h0 := h0) (Nat.le_refl _)) st
theorem wp_setED {α : Type} {enc : α → List CV} {k ty : Nat} {T : Tb} {L : Lb} {K : Post} {h0 h : H} {v : AV} {l : List α} {x : α} {i m : Nat} {vs : List CV} {d : Option Nat} (he : ∀ x, (enc x).length = k) (hs : Nw enc k ty h0 h v l) (hi : i < l.length) (hm : vs.length = m) (hx : vs = enc x)
    (hn : h0.n ≤ h.n) (hk : ∀ h1, Nw enc k ty h0 h1 v (l.set i x) → Stay v h h1 → K (T.put d (.v undefA)) L (rdy h1)) : stH m (elem k v i) vs d T L h K :=
  wp_setE he (hs.from (h0 := h.cut h0.n) (Nat.le_refl _)) hi hm hx (H.cut_grow hn) fun h1 _ n st => hk h1 (n.from (h0 := h0) (Nat.le_refl _)) st
structure tinyH (f : Holes) : Prop where
  pl : f.pl.length ≤ 10
  nl : f.nl.length ≤ 11
  nm : ∀ x ∈ f.nl, x.name.size ≤ 10
theorem tinyH.mini {f : Holes} (t : tinyH f) : miniH f := ⟨Nat.le_trans t.pl (by decide), Nat.le_trans t.nl (by decide), fun x hx => Nat.le_trans (t.nm x hx) (by decide)⟩
/-! spec.goodHoles -/
def L160_0 : List AStep := [⟨.alloc 41 [(.sl none 0 (some 0)), (.sl none 0 (some 0))], (some 2), none, []⟩]
theorem v160_0 : VS L160_0.eq_1 := rfl
def L160_1 : List AStep := [⟨.alloc 41 [(.sl none 0 (some 0)), (.sl none 0 (some 0))], (some 3), none, []⟩, ⟨.store 2 (.t 3) (.t 8), none, none, []⟩]
theorem v160_1 : VS L160_1.eq_1 := rfl
def L160_2 : List AStep := ⟨.field 1 1 false (.t 6), (some 7), none, []⟩ :: ⟨.build [(.sl none 0 (some 0)), (.sl none 0 (some 0))] [(1, 1, (.t 7))], (some 8), none, []⟩ :: L160_1
theorem v160_2 : VS L160_2.eq_1 := rfl
def L160_3 : List AStep := ⟨.mov (.t 0), (some 5), none, []⟩ :: ⟨.call 196 [(.t 5)], (some 6), none, []⟩ :: L160_2
theorem v160_3 : VS L160_3.eq_1 := rfl
def L160_4 : List AStep := [⟨.call 155 [(.t 9), (.t 10)], (some 11), none, []⟩, ⟨.mov (.t 11), (some 4), none, []⟩]
theorem v160_4 : VS L160_4.eq_1 := rfl
def L160_5 : List AStep := ⟨.mov (.t 0), (some 9), none, []⟩ :: ⟨.buildSlice 3 6 [(.int .i64 0)] [(0, 1, (.c (.int .i64 3))), (1, 1, (.c (.int .i64 2))), (2, 1, (.c (.int .i64 4))), (3, 1, (.c (.int .i64 1))), (4, 1, (.c (.int .i64 0))), (5, 1, (.c (.int .i64 8)))], (some 10), none, []⟩ :: L160_4
theorem v160_5 : VS L160_5.eq_1 := rfl
def L160_6 : List AStep := [⟨.mov (.t 4), (some 12), none, []⟩, ⟨.bin .gtr (.t 12) (.c (.int .i64 0)), (some 13), none, []⟩]
theorem v160_6 : VS L160_6.eq_1 := rfl
def L160_7 : List AStep := [⟨.bin .eql (.t 17) (.c (.int .i64 0)), (some 18), none, []⟩]
theorem v160_7 : VS L160_7.eq_1 := rfl
def L160_8 : List AStep := ⟨.mov (.t 0), (some 16), none, []⟩ :: ⟨.call 154 [(.t 16), (.c (.int .i64 2))], (some 17), none, []⟩ :: L160_7
theorem v160_8 : VS L160_8.eq_1 := rfl
def L160_9 : List AStep := [⟨.store 1 (.t 24) (.t 23), none, none, []⟩]
theorem v160_9 : VS L160_9.eq_1 := rfl
def L160_10 : List AStep := ⟨.append 83 2 16 (.t 20) (.t 22), (some 23), none, []⟩ :: ⟨.faddr 0 (.t 3), (some 24), none, []⟩ :: L160_9
theorem v160_10 : VS L160_10.eq_1 := rfl
def L160_11 : List AStep := ⟨.build [(.bool false), (.int .i64 0)] [(0, 1, (.c (.bool true)))], (some 21), none, []⟩ :: ⟨.buildSlice 83 1 [(.bool false), (.int .i64 0)] [(0, 2, (.t 21))], (some 22), none, []⟩ :: L160_10
theorem v160_11 : VS L160_11.eq_1 := rfl
def L160_12 : List AStep := ⟨.faddr 0 (.t 3), (some 19), none, []⟩ :: ⟨.load 1 false (.t 19), (some 20), none, []⟩ :: L160_11
theorem v160_12 : VS L160_12.eq_1 := rfl
def L160_13 : List AStep := [⟨.store 1 (.t 32) (.t 31), none, none, []⟩]
theorem v160_13 : VS L160_13.eq_1 := rfl
def L160_14 : List AStep := ⟨.append 83 2 16 (.t 26) (.t 30), (some 31), none, []⟩ :: ⟨.faddr 0 (.t 3), (some 32), none, []⟩ :: L160_13
theorem v160_14 : VS L160_14.eq_1 := rfl
def L160_15 : List AStep := ⟨.build [(.bool false), (.int .i64 0)] [(1, 1, (.t 28))], (some 29), none, []⟩ :: ⟨.buildSlice 83 1 [(.bool false), (.int .i64 0)] [(0, 2, (.t 29))], (some 30), none, []⟩ :: L160_14
theorem v160_15 : VS L160_15.eq_1 := rfl
def L160_16 : List AStep := ⟨.mov (.t 0), (some 27), none, []⟩ :: ⟨.call 207 [(.t 27)], (some 28), none, [(.load 1 false (.t 25), (some 26), none)]⟩ :: L160_15
theorem v160_16 : VS L160_16.eq_1 := rfl
def L160_17 : List AStep := ⟨.faddr 0 (.t 3), (some 25), none, []⟩ :: ⟨.load 1 false (.t 25), (some 26), none, []⟩ :: L160_16
theorem v160_17 : VS L160_17.eq_1 := rfl
def L160_18 : List AStep := [⟨.mov (.t 15), (some 4), none, []⟩]
theorem v160_18 : VS L160_18.eq_1 := rfl
def L160_19 : List AStep := ⟨.mov (.t 4), (some 14), none, []⟩ :: ⟨.bin .sub (.t 14) (.c (.int .i64 1)), (some 15), none, []⟩ :: L160_18
theorem v160_19 : VS L160_19.eq_1 := rfl
def L160_20 : List AStep := [⟨.load 2 true (.t 3), (some 33), none, []⟩, ⟨.store 2 (.t 2) (.t 33), none, none, []⟩]
theorem v160_20 : VS L160_20.eq_1 := rfl
def C160_0 : ACode := .cond (.t 13) .skip (.exit 0)
theorem u160_0 : VC C160_0.eq_1 := rfl
def C160_1 : ACode := .seq (.reg L160_6) C160_0
theorem u160_1 : VC C160_1.eq_1 := rfl
def C160_2 : ACode := .cond (.t 18) (.reg L160_12) (.reg L160_17)
theorem u160_2 : VC C160_2.eq_1 := rfl
def C160_3 : ACode := .seq (.reg L160_8) C160_2
theorem u160_3 : VC C160_3.eq_1 := rfl
def C160_4 : ACode := .block 1 C160_3
theorem u160_4 : VC C160_4.eq_1 := rfl
def C160_5 : ACode := .seq C160_4 (.reg L160_19)
theorem u160_5 : VC C160_5.eq_1 := rfl
def C160_6 : ACode := .seq C160_1 C160_5
theorem u160_6 : VC C160_6.eq_1 := rfl
def C160_7 : ACode := .block 0 (.loop C160_6)
theorem u160_7 : VC C160_7.eq_1 := rfl
def C160_8 : ACode := .seq (.reg L160_5) C160_7
theorem u160_8 : VC C160_8.eq_1 := rfl
def C160_9 : ACode := .seq (.reg L160_20) .ret
theorem u160_9 : VC C160_9.eq_1 := rfl
def C160_10 : ACode := .seq C160_8 C160_9
theorem u160_10 : VC C160_10.eq_1 := rfl
def C160_11 : ACode := .seq (.reg L160_3) C160_10
theorem u160_11 : VC C160_11.eq_1 := rfl
def C160_12 : ACode := .seq (.reg L160_0) C160_11
theorem u160_12 : VC C160_12.eq_1 := rfl
def F160 : AFunc := ⟨34, [.cell 2 2 true], C160_12⟩
theorem cF160 : compB Try.prog 160 = some F160 := by kernel_rfl
attribute [local go_sem ↓] u160_0 u160_1 u160_2 u160_3 u160_4 u160_5 u160_6 u160_7 u160_8 u160_9 u160_10 u160_11 u160_12 v160_0 v160_1 v160_2 v160_3 v160_4 v160_5 v160_6 v160_7 v160_8 v160_9 v160_10 v160_11 v160_12 v160_13 v160_14 v160_15 v160_16 v160_17 v160_18 v160_19 v160_20
theorem c_goodHoles (b : Nat) (p : Int) (h : H) (r : Rd h b p) (hp : p ≤ 2 ^ 38) : callK (bm Try.prog 160 [.one (.ptr (some (b, 0)))] h) fun q h' => (∃ x y f, q = .agg [x, y] ∧ NwH h h' x y f ∧ tinyH f) ∧ Drew b p 33 h h' := by
  refine bm_of cF160 ?_
  have hbn := r.lt
  simp +contextual (maxSteps := 2000000) only [go_sem, Nat.reduceEqDiff, reduceCtorEq, Nat.reduceAdd, Nat.reduceLeDiff, F160]
  refine wp_call (c_goodFlat b p h r (by omega)) ?_
  rintro q h1 ⟨⟨x0, y0, f0, rfl, z1, tf⟩, d1⟩
  obtain ⟨p1, hp1, hp2, r1⟩ := d1.ex
  have z1 : NwH h h1 (.sl none 0 (some 0)) y0 ⟨[], f0.nl⟩ := ⟨.nil, z1.nl, Sep.nil⟩
  have ef : fieldO 1 1 false (.agg [x0, y0]) = some (.one y0) := rfl
  simp +contextual (maxSteps := 2000000) only [go_sem, Nat.reduceEqDiff, reduceCtorEq, Nat.reduceAdd, Nat.reduceLeDiff, ef]
  refine wp_lit (enc := encI) (k := 1) (l := [3, 2, 4, 1, 0, 8]) rfl rfl ?_
  intro h3 w3 g3 n3 b3
  simp +contextual (maxSteps := 2000000) only [go_sem, Nat.reduceEqDiff, reduceCtorEq, Nat.reduceAdd, Nat.reduceLeDiff]
  refine wp_call (c_one b p1 _ w3 h3 (r1.grow g3) (by omega) (n3.sl lenI) (fun i hi => Nat.lt_of_lt_of_le r1.lt (b3 i hi)) (by decide) (by decide)) ?_
  rintro q h4 ⟨⟨m, hm, rfl⟩, d4⟩
  have hm8 : 0 ≤ m ∧ m ≤ 8 := by simp at hm; omega
  obtain ⟨m, rfl⟩ := Int.eq_ofNat_of_zero_le hm8.1
  have z4 := (z1.grow g3).drew d4 hbn
  have d4 := (d4.pre g3).then d1.st (by omega) hp2
  simp +contextual (maxSteps := 2000000) only [go_sem, Nat.reduceEqDiff, reduceCtorEq, Nat.reduceAdd, Nat.reduceLeDiff]
  refine wpC_loop (fun k T L h' => T 0 = .v (.one (.ptr (some (b, 0)))) ∧ T 2 = .lp 2 0 ∧ (L 2).2 = [.sl none 0 (some 0), .sl none 0 (some 0)] ∧ T 3 = .lp 3 0 ∧ (∃ x f, (L 3).2 = [x, y0] ∧ NwH h h' x y0 f ∧ f.pl.length ≤ k ∧ f.nl = f0.nl) ∧ T 4 = .v (.one (.int .i64 ((m - k : Nat) : Int))) ∧ Drew b p (16 + 1 + 2 * k) h h') m ?_ ?_ (Nat.zero_le _) ?_
  · rintro k T L h' hk ⟨t0, t2, l2, t3, ⟨x, f, l3, z, y1, y2⟩, t4, d⟩
    obtain ⟨j, hj⟩ : ∃ j, m - k = j + 1 := ⟨m - k - 1, by omega⟩
    rw [hj] at t4
    have a3 : decide (((j + 1 : Nat) : Int) > 0) = true := decide_eq_true (by omega)
    obtain ⟨p', hq1, hq2, r'⟩ := d.ex
    simp +contextual (maxSteps := 2000000) only [go_sem, Nat.reduceEqDiff, reduceCtorEq, Nat.reduceAdd, Nat.reduceLeDiff, t0, t2, l2, t3, l3, t4, a3]
    refine wp_call (c_pick b 2 p' h' r' (by omega)) ?_
    rintro q h5 ⟨⟨e, rfl, e0, e1⟩, d5⟩
    obtain ⟨p5, hs1, hs2, r5⟩ := d5.ex
    have z5 := z.drew d5 hbn
    have d5 := d5.then d.st (by omega) hq2
    by_cases ee : e = 0
    · simp +contextual (maxSteps := 2000000) only [go_sem, Nat.reduceEqDiff, reduceCtorEq, Nat.reduceAdd, Nat.reduceLeDiff, t0, t2, l2, t3, l3, t4, decide_eq_true ee]
      refine wp_lit (enc := encL) (k := 2) (l := [⟨true, 0⟩]) rfl rfl ?_
      intro h6 w6 g6 n6 b6
      have z6 := z5.grow g6
      simp +contextual (maxSteps := 2000000) only [go_sem, Nat.reduceEqDiff, reduceCtorEq, Nat.reduceAdd, Nat.reduceLeDiff, t0, t2, l2, t3, l3, t4]
      refine wp_appendD lenL z6.pl (n6.sl lenL) (Nat.le_trans d5.st.n g6.n) (by simp; omega) ?_
      intro h7 s7 n7 st7 hb7
      obtain ⟨c7, rfl⟩ := n7.one
      have z7 := z6.appPl n7 st7 hb7
      have d7 := (d5.grow g6).stay st7 (fun i hi => (z6.pl.lt hi).2) hbn
      simp +contextual (maxSteps := 2000000) only [go_sem, Nat.reduceEqDiff, reduceCtorEq, Nat.reduceAdd, Nat.reduceLeDiff, t0, t2, l2, t3, l3, t4, wrap_pred (show j < 2 ^ 62 by omega)]
      exact ⟨⟨c7, _, rfl, z7, by simp; omega, y2⟩, by rw [show m - (k + 1) = j by omega], d7.more (by omega)⟩
    · simp +contextual (maxSteps := 2000000) only [go_sem, Nat.reduceEqDiff, reduceCtorEq, Nat.reduceAdd, Nat.reduceLeDiff, t0, t2, l2, t3, l3, t4, decide_eq_false ee]
      refine wp_call (c_aNumber b p5 h5 r5 (by omega)) ?_
      rintro q h8 ⟨⟨n, rfl⟩, d8⟩
      have z8 := z5.drew d8 hbn
      have d8 := d8.then d5.st (by omega) (show p5 ≤ p + ((16 + 1 + 2 * k + 1 : Nat) : Int) by omega)
      simp +contextual (maxSteps := 2000000) only [go_sem, Nat.reduceEqDiff, reduceCtorEq, Nat.reduceAdd, Nat.reduceLeDiff, t0, t2, l2, t3, l3, t4]
      refine wp_lit (enc := encL) (k := 2) (l := [⟨false, n⟩]) rfl rfl ?_
      intro h6 w6 g6 n6 b6
      have z6 := z8.grow g6
      simp +contextual (maxSteps := 2000000) only [go_sem, Nat.reduceEqDiff, reduceCtorEq, Nat.reduceAdd, Nat.reduceLeDiff, t0, t2, l2, t3, l3, t4]
      refine wp_appendD lenL z6.pl (n6.sl lenL) (Nat.le_trans d8.st.n g6.n) (by simp; omega) ?_
      intro h7 s7 n7 st7 hb7
      obtain ⟨c7, rfl⟩ := n7.one
      have z7 := z6.appPl n7 st7 hb7
      have d7 := (d8.grow g6).stay st7 (fun i hi => (z6.pl.lt hi).2) hbn
      simp +contextual (maxSteps := 2000000) only [go_sem, Nat.reduceEqDiff, reduceCtorEq, Nat.reduceAdd, Nat.reduceLeDiff, t0, t2, l2, t3, l3, t4, wrap_pred (show j < 2 ^ 62 by omega)]
      exact ⟨⟨c7, _, rfl, z7, by simp; omega, y2⟩, by rw [show m - (k + 1) = j by omega], d7.more (by omega)⟩
  · rintro T L h' ⟨t0, t2, l2, t3, ⟨x, f, l3, z, y1, y2⟩, t4, d⟩
    rw [Nat.sub_self] at t4
    have hz : decide (((0 : Nat) : Int) > 0) = false := rfl
    have d := d.more (show 16 + 1 + 2 * m ≤ 33 by omega)
    simp +contextual (maxSteps := 2000000) only [go_sem, Nat.reduceEqDiff, reduceCtorEq, Nat.reduceAdd, Nat.reduceLeDiff, t0, t2, l2, t3, l3, t4, hz]
    exact gcK_drew r d ⟨⟨x, y0, f, rfl, z, ⟨by omega, by rw [y2]; have := tf.nl; omega, by rw [y2]; exact tf.nm⟩⟩, d⟩
  · simp +contextual (maxSteps := 2000000) only [go_sem, Nat.reduceEqDiff, reduceCtorEq, Nat.reduceAdd, Nat.reduceLeDiff]
    exact ⟨⟨_, _, rfl, z4, Nat.le_refl 0, rfl⟩, rfl, d4.more (by omega)⟩
/-! spec.someHoles -/
def L82_0 : List AStep := [⟨.alloc 41 [(.sl none 0 (some 0)), (.sl none 0 (some 0))], (some 2), none, []⟩]
theorem v82_0 : VS L82_0.eq_1 := rfl
def L82_1 : List AStep := [⟨.alloc 41 [(.sl none 0 (some 0)), (.sl none 0 (some 0))], (some 3), none, []⟩, ⟨.store 2 (.t 3) (.t 6), none, none, []⟩]
theorem v82_1 : VS L82_1.eq_1 := rfl
def L82_2 : List AStep := ⟨.mov (.t 0), (some 5), none, []⟩ :: ⟨.call 160 [(.t 5)], (some 6), none, []⟩ :: L82_1
theorem v82_2 : VS L82_2.eq_1 := rfl
def L82_3 : List AStep := [⟨.len (.t 8), (some 9), none, []⟩, ⟨.bin .gtr (.t 9) (.c (.int .i64 0)), (some 10), none, []⟩]
theorem v82_3 : VS L82_3.eq_1 := rfl
def L82_4 : List AStep := ⟨.faddr 0 (.t 3), (some 7), none, []⟩ :: ⟨.load 1 false (.t 7), (some 8), none, []⟩ :: L82_3
theorem v82_4 : VS L82_4.eq_1 := rfl
def L82_5 : List AStep := [⟨.call 154 [(.t 11), (.t 14)], (some 15), none, []⟩, ⟨.mov (.t 15), (some 4), none, []⟩]
theorem v82_5 : VS L82_5.eq_1 := rfl
def L82_6 : List AStep := ⟨.load 1 false (.t 12), (some 13), none, []⟩ :: ⟨.len (.t 13), (some 14), none, []⟩ :: L82_5
theorem v82_6 : VS L82_6.eq_1 := rfl
def L82_7 : List AStep := ⟨.mov (.t 0), (some 11), none, []⟩ :: ⟨.faddr 0 (.t 3), (some 12), none, []⟩ :: L82_6
theorem v82_7 : VS L82_7.eq_1 := rfl
def L82_8 : List AStep := [⟨.mov (.t 0), (some 16), none, []⟩, ⟨.call 154 [(.t 16), (.c (.int .i64 20))], (some 17), none, []⟩]
theorem v82_8 : VS L82_8.eq_1 := rfl
def L82_9 : List AStep := [⟨.bin .eql (.t 17) (.c (.int .i64 0)), (some 19), none, []⟩, ⟨.mov (.t 19), (some 18), none, []⟩]
theorem v82_9 : VS L82_9.eq_1 := rfl
def L82_10 : List AStep := [⟨.iaddr 2 (.t 21) (.t 22), (some 24), none, []⟩, ⟨.store 2 (.t 24) (.t 23), none, none, []⟩]
theorem v82_10 : VS L82_10.eq_1 := rfl
def L82_11 : List AStep := ⟨.mov (.t 4), (some 22), none, []⟩ :: ⟨.build [(.bool false), (.int .i64 0)] [(0, 1, (.c (.bool true))), (1, 1, (.c (.int .i64 3)))], (some 23), none, []⟩ :: L82_10
theorem v82_11 : VS L82_11.eq_1 := rfl
def L82_12 : List AStep := ⟨.faddr 0 (.t 3), (some 20), none, []⟩ :: ⟨.load 1 false (.t 20), (some 21), none, []⟩ :: L82_11
theorem v82_12 : VS L82_12.eq_1 := rfl
def L82_13 : List AStep := [⟨.bin .eql (.t 17) (.c (.int .i64 1)), (some 26), none, []⟩, ⟨.mov (.t 26), (some 25), none, []⟩]
theorem v82_13 : VS L82_13.eq_1 := rfl
def L82_14 : List AStep := [⟨.faddr 1 (.t 30), (some 31), none, []⟩, ⟨.store 1 (.t 31) (.c (.int .i64 100)), none, none, []⟩]
theorem v82_14 : VS L82_14.eq_1 := rfl
def L82_15 : List AStep := ⟨.mov (.t 4), (some 29), none, []⟩ :: ⟨.iaddr 2 (.t 28) (.t 29), (some 30), none, []⟩ :: L82_14
theorem v82_15 : VS L82_15.eq_1 := rfl
def L82_16 : List AStep := ⟨.faddr 0 (.t 3), (some 27), none, []⟩ :: ⟨.load 1 false (.t 27), (some 28), none, []⟩ :: L82_15
theorem v82_16 : VS L82_16.eq_1 := rfl
def L82_17 : List AStep := [⟨.bin .eql (.t 17) (.c (.int .i64 2)), (some 33), none, []⟩, ⟨.mov (.t 33), (some 32), none, []⟩]
theorem v82_17 : VS L82_17.eq_1 := rfl
def L82_18 : List AStep := [⟨.store 1 (.t 41) (.t 40), none, none, []⟩]
theorem v82_18 : VS L82_18.eq_1 := rfl
def L82_19 : List AStep := ⟨.append 86 2 24 (.t 35) (.t 39), (some 40), none, []⟩ :: ⟨.faddr 1 (.t 3), (some 41), none, []⟩ :: L82_18
theorem v82_19 : VS L82_19.eq_1 := rfl
def L82_20 : List AStep := ⟨.build [(.str (strOfNums [])), (.int .i64 0)] [(0, 1, (.t 37)), (1, 1, (.c (.int .i64 1)))], (some 38), none, []⟩ :: ⟨.buildSlice 86 1 [(.str (strOfNums [])), (.int .i64 0)] [(0, 2, (.t 38))], (some 39), none, []⟩ :: L82_19
theorem v82_20 : VS L82_20.eq_1 := rfl
def L82_21 : List AStep := ⟨.mov (.t 0), (some 36), none, []⟩ :: ⟨.call 157 [(.t 36)], (some 37), none, [(.load 1 false (.t 34), (some 35), none)]⟩ :: L82_20
theorem v82_21 : VS L82_21.eq_1 := rfl
def L82_22 : List AStep := ⟨.faddr 1 (.t 3), (some 34), none, []⟩ :: ⟨.load 1 false (.t 34), (some 35), none, []⟩ :: L82_21
theorem v82_22 : VS L82_22.eq_1 := rfl
def L82_23 : List AStep := [⟨.load 2 true (.t 3), (some 42), none, []⟩, ⟨.store 2 (.t 2) (.t 42), none, none, []⟩]
theorem v82_23 : VS L82_23.eq_1 := rfl
def C82_0 : ACode := .cond (.t 32) (.reg L82_22) .skip
theorem u82_0 : VC C82_0.eq_1 := rfl
def C82_1 : ACode := .seq (.reg L82_17) C82_0
theorem u82_1 : VC C82_1.eq_1 := rfl
def C82_2 : ACode := .cond (.t 25) (.reg L82_16) C82_1
theorem u82_2 : VC C82_2.eq_1 := rfl
def C82_3 : ACode := .seq (.reg L82_13) C82_2
theorem u82_3 : VC C82_3.eq_1 := rfl
def C82_4 : ACode := .cond (.t 18) (.reg L82_12) C82_3
theorem u82_4 : VC C82_4.eq_1 := rfl
def C82_5 : ACode := .seq (.reg L82_9) C82_4
theorem u82_5 : VC C82_5.eq_1 := rfl
def C82_6 : ACode := .block 0 C82_5
theorem u82_6 : VC C82_6.eq_1 := rfl
def C82_7 : ACode := .seq (.reg L82_8) C82_6
theorem u82_7 : VC C82_7.eq_1 := rfl
def C82_8 : ACode := .seq (.reg L82_7) C82_7
theorem u82_8 : VC C82_8.eq_1 := rfl
def C82_9 : ACode := .cond (.t 10) C82_8 .skip
theorem u82_9 : VC C82_9.eq_1 := rfl
def C82_10 : ACode := .seq (.reg L82_4) C82_9
theorem u82_10 : VC C82_10.eq_1 := rfl
def C82_11 : ACode := .seq (.reg L82_23) .ret
theorem u82_11 : VC C82_11.eq_1 := rfl
def C82_12 : ACode := .seq C82_10 C82_11
theorem u82_12 : VC C82_12.eq_1 := rfl
def C82_13 : ACode := .seq (.reg L82_2) C82_12
theorem u82_13 : VC C82_13.eq_1 := rfl
def C82_14 : ACode := .seq (.reg L82_0) C82_13
theorem u82_14 : VC C82_14.eq_1 := rfl
def F82 : AFunc := ⟨43, [.cell 2 2 true], C82_14⟩
theorem cF82 : compB Try.prog 82 = some F82 := by kernel_rfl
attribute [local go_sem ↓] u82_0 u82_1 u82_2 u82_3 u82_4 u82_5 u82_6 u82_7 u82_8 u82_9 u82_10 u82_11 u82_12 u82_13 u82_14 v82_0 v82_1 v82_2 v82_3 v82_4 v82_5 v82_6 v82_7 v82_8 v82_9 v82_10 v82_11 v82_12 v82_13 v82_14 v82_15 v82_16 v82_17 v82_18 v82_19 v82_20 v82_21 v82_22 v82_23
theorem c_someHoles (b : Nat) (p : Int) (h : H) (r : Rd h b p) (hp : p ≤ 2 ^ 37) : callK (bm Try.prog 82 [.one (.ptr (some (b, 0)))] h) fun q h' => (∃ x y f, q = .agg [x, y] ∧ NwH h h' x y f ∧ miniH f) ∧ Drew b p 37 h h' := by
  refine bm_of cF82 ?_
  have hbn := r.lt
  simp +contextual (maxSteps := 2000000) only [go_sem, Nat.reduceEqDiff, reduceCtorEq, Nat.reduceAdd, Nat.reduceLeDiff, F82]
  refine wp_call (c_goodHoles b p h r (by omega)) ?_
  rintro q h1 ⟨⟨x, y, f, rfl, z1, tf⟩, d1⟩
  obtain ⟨p1, hp1, hp2, r1⟩ := d1.ex
  by_cases en : decide ((f.pl.length : Int) > 0) = false
  · have d1 := d1.more (show 33 ≤ 37 by omega)
    simp +contextual (maxSteps := 2000000) only [go_sem, Nat.reduceEqDiff, reduceCtorEq, Nat.reduceAdd, Nat.reduceLeDiff, z1.pl.length, en]
    exact gcK_drew r d1 ⟨⟨x, y, f, rfl, z1, tf.mini⟩, d1⟩
  rw [Bool.not_eq_false] at en
  have en2 : 0 < f.pl.length := by have := of_decide_eq_true en; omega
  simp +contextual (maxSteps := 2000000) only [go_sem, Nat.reduceEqDiff, reduceCtorEq, Nat.reduceAdd, Nat.reduceLeDiff, z1.pl.length, en]
  refine wp_call (c_pick b f.pl.length p1 h1 r1 (by omega)) ?_
  rintro q h2 ⟨⟨k, rfl, k0, k1⟩, d2⟩
  obtain ⟨k, rfl⟩ := Int.eq_ofNat_of_zero_le k0
  have hk : k < f.pl.length := by omega
  have z2 := z1.drew d2 hbn
  obtain ⟨p2, hq1, hq2, r2⟩ := d2.ex
  have d2 := d2.then d1.st (by omega) hp2
  simp +contextual (maxSteps := 2000000) only [go_sem, Nat.reduceEqDiff, reduceCtorEq, Nat.reduceAdd, Nat.reduceLeDiff]
  refine wp_call (c_pick b 20 p2 h2 r2 (by omega)) ?_
  rintro q h3 ⟨⟨e, rfl, _, _⟩, d3⟩
  have z3 := z2.drew d3 hbn
  obtain ⟨p3, hs1, hs2, r3⟩ := d3.ex
  have d3 := d3.then d2.st (by omega) (show p2 ≤ p + ((33 + 1 : Nat) : Int) by omega)
  by_cases e0 : e = 0
  · simp +contextual (maxSteps := 2000000) only [go_sem, Nat.reduceEqDiff, reduceCtorEq, Nat.reduceAdd, Nat.reduceLeDiff, decide_eq_true e0, z3.pl.iaddr hk]
    refine wp_setED (x := (⟨true, 3⟩ : Place)) lenL z3.pl hk rfl rfl d3.st.n ?_
    intro h4 n4 st4
    have z4 : NwH h h4 x y ⟨f.pl.set k ⟨true, 3⟩, f.nl⟩ := z3.appPl n4 st4 (fun j hj => .inl hj)
    have d4 := (d3.stay st4 (fun i hi => (z3.pl.lt hi).2) hbn).more (show 33 + 1 + 1 ≤ 37 by omega)
    simp +contextual (maxSteps := 2000000) only [go_sem, Nat.reduceEqDiff, reduceCtorEq, Nat.reduceAdd, Nat.reduceLeDiff]
    exact gcK_drew r d4 ⟨⟨x, y, _, rfl, z4, ⟨by have := tf.pl; simp; omega, by have := tf.nl; show f.nl.length ≤ _; omega, fun x hx => Nat.le_trans (tf.nm x hx) (by decide)⟩⟩, d4⟩
  by_cases e1 : e = 1
  · simp +contextual (maxSteps := 2000000) only [go_sem, Nat.reduceEqDiff, reduceCtorEq, Nat.reduceAdd, Nat.reduceLeDiff, decide_eq_false e0, decide_eq_true e1, z3.pl.iaddr hk]
    refine wp_setD (x := (⟨f.pl[k].hole, 100⟩ : Place)) (off := 1) (vs := [.int .i64 100]) lenL z3.pl hk rfl rfl (Nat.le_of_ble_eq_true rfl) d3.st.n ?_
    intro h4 n4 st4
    have z4 : NwH h h4 x y ⟨f.pl.set k ⟨f.pl[k].hole, 100⟩, f.nl⟩ := z3.appPl n4 st4 (fun j hj => .inl hj)
    have d4 := (d3.stay st4 (fun i hi => (z3.pl.lt hi).2) hbn).more (show 33 + 1 + 1 ≤ 37 by omega)
    simp +contextual (maxSteps := 2000000) only [go_sem, Nat.reduceEqDiff, reduceCtorEq, Nat.reduceAdd, Nat.reduceLeDiff]
    exact gcK_drew r d4 ⟨⟨x, y, _, rfl, z4, ⟨by have := tf.pl; simp; omega, by have := tf.nl; show f.nl.length ≤ _; omega, fun x hx => Nat.le_trans (tf.nm x hx) (by decide)⟩⟩, d4⟩
  by_cases e2 : e = 2
  · simp +contextual (maxSteps := 2000000) only [go_sem, Nat.reduceEqDiff, reduceCtorEq, Nat.reduceAdd, Nat.reduceLeDiff, decide_eq_false e0, decide_eq_false e1, decide_eq_true e2]
    refine wp_call (c_anyName b p3 h3 r3 (by omega)) ?_
    rintro q h4 ⟨⟨s, rfl, hs⟩, d4⟩
    have z4 := z3.drew d4 hbn
    have d4 := d4.then d3.st (by omega) (show p3 ≤ p + ((33 + 1 + 1 : Nat) : Int) by omega)
    simp +contextual (maxSteps := 2000000) only [go_sem, Nat.reduceEqDiff, reduceCtorEq, Nat.reduceAdd, Nat.reduceLeDiff]
    refine wp_lit (enc := encP) (k := 2) (l := [⟨s, 1⟩]) rfl rfl ?_
    intro h5 w5 g5 n5 b5
    have z5 := z4.grow g5
    simp +contextual (maxSteps := 2000000) only [go_sem, Nat.reduceEqDiff, reduceCtorEq, Nat.reduceAdd, Nat.reduceLeDiff]
    refine wp_appendD lenP z5.nl (n5.sl lenP) (Nat.le_trans d4.st.n g5.n) (by have := tf.nl; simp; omega) ?_
    intro h6 s6 n6 st6 hb6
    obtain ⟨c6, rfl⟩ := n6.one
    have z6 := z5.appNl n6 st6 hb6
    have d6 := ((d4.grow g5).stay st6 (fun i hi => (z5.nl.lt hi).2) hbn).more (show 33 + 1 + 1 + 2 ≤ 37 by omega)
    simp +contextual (maxSteps := 2000000) only [go_sem, Nat.reduceEqDiff, reduceCtorEq, Nat.reduceAdd, Nat.reduceLeDiff]
    refine gcK_drew r d6 ⟨⟨x, c6, _, rfl, z6, ⟨by have := tf.pl; show f.pl.length ≤ _; omega, by have := tf.nl; simp; omega, fun w hw => ?_⟩⟩, d6⟩
    rcases List.mem_append.1 hw with e | e
    · exact Nat.le_trans (tf.nm w e) (by decide)
    · rw [List.mem_singleton.1 e]; exact Nat.le_trans hs (by decide)
  · have d4 := d3.more (show 33 + 1 + 1 ≤ 37 by omega)
    simp +contextual (maxSteps := 2000000) only [go_sem, Nat.reduceEqDiff, reduceCtorEq, Nat.reduceAdd, Nat.reduceLeDiff, decide_eq_false e0, decide_eq_false e1, decide_eq_false e2]
    exact gcK_drew r d4 ⟨⟨x, y, f, rfl, z3, tf.mini⟩, d4⟩
end Go.Proofs.Ytnphlonhogcedaa.Am
