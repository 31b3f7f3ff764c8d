/- Contracts: partial calls that are drawn. -/
import Derived.Test.YtekkimfdcbgcoacDT
import Derived.Test.YtekkimfdcbgcoacBY
import Derived.Test.YtekkimfdcbgcoacK2
namespace Go.Proofs.Ytekkimfdcbgcoac.Am
open Go
attribute [local go_sem] loadL_agg
set_option maxRecDepth 100000
set_option maxHeartbeats 4000000
set_option linter.unusedSimpArgs false
set_option linter.unusedVariables false
attribute [local go_sem ↓] bv_t bv_c ev_t ev_c put_same put_ne put_none kill_at pro_at lb_same lb_ne start_zero start_succ wpC_seq wpC_reg wpC_cond wpC_block wpC_skip wpC_exit wpC_ret thenQ_normal thenQ_exit thenQ_ret inBlk_normal inBlk_exit inBlk_ret wpS_nil wpS_step wpS_again wpS_guard wpO_mov wpO_load wpO_faddr wpO_nilCheck wpO_pick wpO_build wpO_bin wpO_eqb wpO_eqst wpO_eqnil wpO_not wpO_conv wpO_bytesStr wpO_iaddr wpO_idxStr wpO_field wpO_extract wpO_len wpO_lenStr wpO_cap wpO_min wpO_slice wpO_sliceStr wpO_alloc wpO_box wpO_store wpO_call wpO_callv wpO_mkfn wpO_buildSlice wpO_mkslice wpO_append wpO_appz proA_nil proA_cons tmpX_nil tmpX_tmp tmpX_cell doneB_normal doneB_ret agK_cons agK_nil agK_guard agG_tt agG_ff agG_tf agG_ft agG_undef pureB_load results_one results_two results_nil resBs_cons resBs_nil resB_tmp resB_cell
attribute [local go_sem] kill_v kill_lp_ne kill_lp_same pro_v pro_lp_same pro_lp_ne av_v av_lp optB_some optX_some valX_eq ldX_lp ldX_v faX_lp faX_v ncX_lp ncX_ptr ncX_fn boxK_one boxK_agg stL_some stK_lp_one stK_lp_agg stK_v_one stK_v_agg proM_v proM_lp callG_mk callVG_mk callvK_fn fnG_mk ptrsA_nil ptrsA_cons callH_some whenA_true whenA_false guardH_tt guardH_ff guardH_tf guardH_ft guardH_undef agV_one agV_agg lenO_sl lenStrO_str notO_bool pickO_bool convO_int eqbO_bool eqnilO_sl extractO_tup capO_sl minO_int loadL_one loadL_all storeL_eq fillA_nil fillA_one fillA_agg nat_ge neg_ge nat_lt neg_lt buildO bin_add bin_sub bin_mul bin_eql bin_neq bin_lss bin_leq bin_gtr bin_geq str_eql str_neq str_lss str_leq str_gtr str_geq retK_some endK_mk gcK_same gcK_int gcK_bool tupO_one tupO_agg rdy_self ib ii Option.map_none Option.map_some Option.some.injEq exists_eq_left' exists_eq_left ne_eq not_false_eq_true if_true if_false List.map_cons List.map_nil List.getElem?_cons_zero List.getElem?_cons_succ List.length_cons List.length_nil List.take_succ_cons List.take_zero List.take_nil List.drop_succ_cons List.drop_zero List.drop_nil List.cons_append List.nil_append List.append_nil List.set_cons_zero List.set_cons_succ Nat.zero_add forall_const true_and and_true and_self Bool.false_eq_true false_implies true_implies implies_true Bool.not_true Bool.not_false Bool.not_eq_true' Bool.not_eq_false' beq_self_eq_true Bool.bne_true Bool.bne_false
attribute [local go_sem] lenI lenS lenP lenQ lenB lenL lenT encI_0 encS_0 encP_0 encP_1 encQ_0 encQ_1 encQ_2 encQ_3 encB_0 encB_1 encL_0 encL_1 encT_0 encT_1
attribute [local go_sem low] whenA_bool guardH_bool
/-- A flat call that is read, of a later time. -/
structure FrF (h0 h : H) (x y : CV) (f : Flat) : Prop where
  sl : SlF h x y f
  bx : ∀ j, baseOf (.one x) = some j → h0.n ≤ j
  bY : ∀ j, baseOf (.one y) = some j → h0.n ≤ j
theorem FrF.of {h0 h : H} {x y : CV} {f : Flat} (z : NwF h0 h x y f) : FrF h0 h x y f := ⟨z.sl, fun _ hj => (z.pl.lt hj).2, fun _ hj => (z.nl.lt hj).2⟩
theorem FrF.grow {h0 h h1 : H} {x y : CV} {f : Flat} (z : FrF h0 h x y f) (g : Grow h h1) : FrF h0 h1 x y f := ⟨z.sl.grow g, z.bx, z.bY⟩
theorem FrF.from {h0 h h1 : H} {x y : CV} {f : Flat} (z : FrF h1 h x y f) (g : h0.n ≤ h1.n) : FrF h0 h x y f := ⟨z.sl, fun j hj => Nat.le_trans g (z.bx j hj), fun j hj => Nat.le_trans g (z.bY j hj)⟩
theorem FrF.drew {h0 h h1 : H} {x y : CV} {f : Flat} {b c : Nat} {p : Int} (z : FrF h0 h x y f) (d : Drew b p c h h1) (hb : b < h0.n) : FrF h0 h1 x y f :=
  ⟨⟨z.sl.pl.of_stay d.st fun j hj e => by have := z.bx j hj; simp [bR, baseOf] at e; omega, z.sl.nl.of_stay d.st fun j hj e => by have := z.bY j hj; simp [bR, baseOf] at e; omega⟩, z.bx, z.bY⟩
theorem FrF.nil {h0 h : H} : FrF h0 h (.sl none 0 (some 0)) (.sl none 0 (some 0)) ⟨[], []⟩ := .of .nil
theorem Sl.takeB {α : Type} {enc : α → List CV} {k ty : Nat} {h : H} {v : AV} {l : List α} (hs : Sl enc k ty h v l) {i : Nat} (hi : i ≤ l.length) {kd : IntKind} : ∃ v', cutO ty k h v none (some (.one (.int kd i))) none = some v' ∧ Sl enc k ty h v' (l.take i) ∧ ∀ j, baseOf v' = some j → baseOf v = some j := by
  obtain ⟨v', h1, h2, h3⟩ := hs.cut (lo := 0) (hi := i) (alo := none) (ahi := some (.t 2)) (amx := none) (x := .t 0) (T := fun t => if t = 0 then v else if t = 1 then undefA else if t = 2 then .one (.int kd i) else undefA) rfl (Nat.zero_le _) hi (fun c hc => ⟨c, by
    have : i ≤ c.getD l.length := by cases c with | none => exact hi | some c => exact Nat.le_trans hi hc
    simp only [boundsA, maxA, highA, lowA]
    rw [boundA_at (i := i) (kd := kd) rfl this], by cases c with | none => trivial | some c => exact Nat.le_trans hi hc⟩)
  exact ⟨v', h1, by simpa using h2, h3⟩
/-- Something was drawn, or nothing was done. -/
def Dr0 (b : Nat) (p : Int) (c : Nat) (h h' : H) : Prop := Drew b p c h h' ∨ h' = h
theorem Dr0.ex {b c : Nat} {p : Int} {h h' : H} (d : Dr0 b p c h h') (r : Rd h b p) : Stay (bR b) h h' ∧ ∃ p', p ≤ p' ∧ p' ≤ p + c ∧ Rd h' b p' := by
  rcases d with d | rfl
  · obtain ⟨p1, a, b, c⟩ := d.ex
    exact ⟨d.st, p1, by omega, b, c⟩
  · exact ⟨(Grow.refl _).stay _, p, by omega, by omega, r⟩
theorem Dr0.more {b c c2 : Nat} {p : Int} {h h' : H} (d : Dr0 b p c h h') (hc : c ≤ c2) : Dr0 b p c2 h h' := d.imp (fun d => d.more hc) id
theorem gcK_dr0 {h h1 : H} {b c : Nat} {p : Int} {v : AV} {K : AV → H → Prop} (r : Rd h b p) (d : Dr0 b p c h h1) (hk : K v h1) : gcK h v (rdy h1) K := by
  rcases d with d | rfl
  · exact gcK_drew r d hk
  · rw [gcK_same]; exact hk
/-! spec.partFlat -/
def L94_0 : List AStep := [⟨.box 25 (.t 1), (some 3), none, []⟩, ⟨.alloc 29 [(.sl none 0 (some 0)), (.sl none 0 (some 0))], (some 4), none, []⟩]
theorem v94_0 : VS L94_0.eq_1 := rfl
def L94_1 : List AStep := [⟨.store 2 (.t 5) (.t 6), none, none, []⟩]
theorem v94_1 : VS L94_1.eq_1 := rfl
def L94_2 : List AStep := ⟨.build [(.sl none 0 (some 0)), (.sl none 0 (some 0))] [], (some 6), none, []⟩ :: ⟨.alloc 29 [(.sl none 0 (some 0)), (.sl none 0 (some 0))], (some 5), none, []⟩ :: L94_1
theorem v94_2 : VS L94_2.eq_1 := rfl
def L94_3 : List AStep := [⟨.load 1 true (.t 3), (some 7), none, []⟩, ⟨.call 126 [(.t 7)], (some 8), none, []⟩]
theorem v94_3 : VS L94_3.eq_1 := rfl
def L94_4 : List AStep := [⟨.call 118 [(.t 9), (.t 10)], (some 11), none, []⟩, ⟨.store 2 (.t 5) (.t 11), none, none, []⟩]
theorem v94_4 : VS L94_4.eq_1 := rfl
def L94_5 : List AStep := ⟨.mov (.t 0), (some 9), none, []⟩ :: ⟨.load 1 true (.t 3), (some 10), none, []⟩ :: L94_4
theorem v94_5 : VS L94_5.eq_1 := rfl
def L94_6 : List AStep := [⟨.pick (.t 16) (.t 19) (.c (.bool false)), (some 20), none, []⟩]
theorem v94_6 : VS L94_6.eq_1 := rfl
def L94_7 : List AStep := ⟨.call 92 [(.t 17), (.c (.int .i64 2))], (some 18), (some (16, true)), []⟩ :: ⟨.bin .eql (.t 18) (.c (.int .i64 0)), (some 19), (some (16, true)), []⟩ :: L94_6
theorem v94_7 : VS L94_7.eq_1 := rfl
def L94_8 : List AStep := ⟨.mov (.t 15), (some 16), none, []⟩ :: ⟨.mov (.t 0), (some 17), (some (16, true)), []⟩ :: L94_7
theorem v94_8 : VS L94_8.eq_1 := rfl
def L94_9 : List AStep := ⟨.len (.t 13), (some 14), none, []⟩ :: ⟨.bin .gtr (.t 14) (.c (.int .i64 0)), (some 15), none, []⟩ :: L94_8
theorem v94_9 : VS L94_9.eq_1 := rfl
def L94_10 : List AStep := ⟨.faddr 0 (.t 5), (some 12), none, []⟩ :: ⟨.load 1 false (.t 12), (some 13), none, []⟩ :: L94_9
theorem v94_10 : VS L94_10.eq_1 := rfl
def L94_11 : List AStep := [⟨.faddr 0 (.t 5), (some 29), none, []⟩, ⟨.store 1 (.t 29) (.t 28), none, none, []⟩]
theorem v94_11 : VS L94_11.eq_1 := rfl
def L94_12 : List AStep := ⟨.call 92 [(.t 23), (.t 26)], (some 27), none, [(.load 1 false (.t 21), (some 22), none)]⟩ :: ⟨.slice 3 1 (.t 22) none (some (.t 27)) none, (some 28), none, []⟩ :: L94_11
theorem v94_12 : VS L94_12.eq_1 := rfl
def L94_13 : List AStep := ⟨.load 1 false (.t 24), (some 25), none, []⟩ :: ⟨.len (.t 25), (some 26), none, []⟩ :: L94_12
theorem v94_13 : VS L94_13.eq_1 := rfl
def L94_14 : List AStep := ⟨.mov (.t 0), (some 23), none, []⟩ :: ⟨.faddr 0 (.t 5), (some 24), none, []⟩ :: L94_13
theorem v94_14 : VS L94_14.eq_1 := rfl
def L94_15 : List AStep := ⟨.faddr 0 (.t 5), (some 21), none, []⟩ :: ⟨.load 1 false (.t 21), (some 22), none, []⟩ :: L94_14
theorem v94_15 : VS L94_15.eq_1 := rfl
def L94_16 : List AStep := [⟨.pick (.t 34) (.t 37) (.c (.bool false)), (some 38), none, []⟩]
theorem v94_16 : VS L94_16.eq_1 := rfl
def L94_17 : List AStep := ⟨.call 92 [(.t 35), (.c (.int .i64 2))], (some 36), (some (34, true)), []⟩ :: ⟨.bin .eql (.t 36) (.c (.int .i64 0)), (some 37), (some (34, true)), []⟩ :: L94_16
theorem v94_17 : VS L94_17.eq_1 := rfl
def L94_18 : List AStep := ⟨.mov (.t 33), (some 34), none, []⟩ :: ⟨.mov (.t 0), (some 35), (some (34, true)), []⟩ :: L94_17
theorem v94_18 : VS L94_18.eq_1 := rfl
def L94_19 : List AStep := ⟨.len (.t 31), (some 32), none, []⟩ :: ⟨.bin .gtr (.t 32) (.c (.int .i64 0)), (some 33), none, []⟩ :: L94_18
theorem v94_19 : VS L94_19.eq_1 := rfl
def L94_20 : List AStep := ⟨.faddr 1 (.t 5), (some 30), none, []⟩ :: ⟨.load 1 false (.t 30), (some 31), none, []⟩ :: L94_19
theorem v94_20 : VS L94_20.eq_1 := rfl
def L94_21 : List AStep := [⟨.store 1 (.t 42) (.t 41), none, none, []⟩]
theorem v94_21 : VS L94_21.eq_1 := rfl
def L94_22 : List AStep := ⟨.slice 93 2 (.t 40) (some (.c (.int .i64 1))) none none, (some 41), none, []⟩ :: ⟨.faddr 1 (.t 5), (some 42), none, []⟩ :: L94_21
theorem v94_22 : VS L94_22.eq_1 := rfl
def L94_23 : List AStep := ⟨.faddr 1 (.t 5), (some 39), none, []⟩ :: ⟨.load 1 false (.t 39), (some 40), none, []⟩ :: L94_22
theorem v94_23 : VS L94_23.eq_1 := rfl
def L94_24 : List AStep := [⟨.load 2 true (.t 5), (some 43), none, []⟩, ⟨.store 2 (.t 4) (.t 43), none, none, []⟩]
theorem v94_24 : VS L94_24.eq_1 := rfl
def C94_0 : ACode := .cond (.t 8) (.reg L94_5) .skip
theorem u94_0 : VC C94_0.eq_1 := rfl
def C94_1 : ACode := .seq (.reg L94_3) C94_0
theorem u94_1 : VC C94_1.eq_1 := rfl
def C94_2 : ACode := .cond (.t 20) (.reg L94_15) .skip
theorem u94_2 : VC C94_2.eq_1 := rfl
def C94_3 : ACode := .seq (.reg L94_10) C94_2
theorem u94_3 : VC C94_3.eq_1 := rfl
def C94_4 : ACode := .cond (.t 38) (.reg L94_23) .skip
theorem u94_4 : VC C94_4.eq_1 := rfl
def C94_5 : ACode := .seq (.reg L94_20) C94_4
theorem u94_5 : VC C94_5.eq_1 := rfl
def C94_6 : ACode := .seq (.reg L94_24) .ret
theorem u94_6 : VC C94_6.eq_1 := rfl
def C94_7 : ACode := .seq C94_5 C94_6
theorem u94_7 : VC C94_7.eq_1 := rfl
def C94_8 : ACode := .seq C94_3 C94_7
theorem u94_8 : VC C94_8.eq_1 := rfl
def C94_9 : ACode := .seq C94_1 C94_8
theorem u94_9 : VC C94_9.eq_1 := rfl
def C94_10 : ACode := .seq (.reg L94_2) C94_9
theorem u94_10 : VC C94_10.eq_1 := rfl
def C94_11 : ACode := .seq (.reg L94_0) C94_10
theorem u94_11 : VC C94_11.eq_1 := rfl
def F94 : AFunc := ⟨44, [.cell 4 2 true], C94_11⟩
theorem cF94 : compB Try.prog 94 = some F94 := by kernel_rfl
attribute [local go_sem ↓] u94_0 u94_1 u94_2 u94_3 u94_4 u94_5 u94_6 u94_9 u94_10 u94_11 v94_0 v94_1 v94_2 v94_3 v94_4 v94_5 v94_6 v94_7 v94_8 v94_9 v94_10 v94_11 v94_12 v94_13 v94_14 v94_15 v94_16 v94_17 v94_18 v94_19 v94_20 v94_21 v94_22 v94_23 v94_24
theorem c_partFlat (b : Nat) (p : Int) (l : List Param) (u : CV) (h : H) (r : Rd h b p) (hp : p ≤ 2 ^ 37) (hq : SlQ h (.one u) l) (hub : baseOf (.one u) ≠ some b) (tl : tinyQ l) :
    callK (bm Try.prog 94 [.one (.ptr (some (b, 0))), .agg [u]] h) fun q h' => (∃ x y f, q = .agg [x, y] ∧ FrF h h' x y f ∧ miniF f) ∧ Dr0 b p 70 h h' := by
  refine bm_of cF94 ?_
  have hbn := r.lt
  have ev := c_validSignature l u h hq tl.mini.sm
  simp +contextual (maxSteps := 2000000) only [go_sem, Nat.reduceEqDiff, reduceCtorEq, Nat.reduceAdd, Nat.reduceLeDiff, F94]
  apply joinC (P := Try.prog) (c := C94_8) (M := fun T L h' => T 0 = .v (.one (.ptr (some (b, 0)))) ∧ T 4 = .lp 4 0 ∧ (L 4).2 = [.sl none 0 (some 0), .sl none 0 (some 0)] ∧ T 5 = .lp 5 0 ∧ (∃ x y f, (L 5).2 = [x, y] ∧ FrF h h' x y f ∧ miniF f) ∧ Dr0 b p 65 h h')
  · intro J
    cases eo : okSig l with
    | false =>
      simp +contextual (maxSteps := 2000000) only [go_sem, Nat.reduceEqDiff, reduceCtorEq, Nat.reduceAdd, Nat.reduceLeDiff, ev, eo]
      refine J _ _ _ ?_
      simp +contextual (maxSteps := 2000000) only [go_sem, Nat.reduceEqDiff, reduceCtorEq, Nat.reduceAdd, Nat.reduceLeDiff]
      exact ⟨⟨_, _, _, rfl, .nil, .nil⟩, .inr rfl⟩
    | true =>
      simp +contextual (maxSteps := 2000000) only [go_sem, Nat.reduceEqDiff, reduceCtorEq, Nat.reduceAdd, Nat.reduceLeDiff, ev, eo]
      refine wp_call (c_callFor b p l u h r (by omega) hq hub (okSig_len eo) tl.nm) ?_
      rintro q h1 ⟨⟨x, y, f, rfl, z, y1, y2, y3⟩, d⟩
      simp +contextual (maxSteps := 2000000) only [go_sem, Nat.reduceEqDiff, reduceCtorEq, Nat.reduceAdd, Nat.reduceLeDiff]
      refine J _ _ _ ?_
      simp +contextual (maxSteps := 2000000) only [go_sem, Nat.reduceEqDiff, reduceCtorEq, Nat.reduceAdd, Nat.reduceLeDiff]
      exact ⟨⟨x, y, f, rfl, .of z, ⟨Nat.le_trans y1 (by decide), Nat.le_trans y2 (by decide), fun a ha => Nat.le_trans (y3 a ha) (by decide)⟩⟩, .inl d⟩
  rintro T L h1 ⟨t0, t4, l4, t5, ⟨x, y, f, l5, z, mf⟩, d1⟩
  obtain ⟨st1, p1, hp1, hp2, r1⟩ := d1.ex r
  apply joinC (P := Try.prog) (c := C94_7) (M := fun T L h' => T 0 = .v (.one (.ptr (some (b, 0)))) ∧ T 4 = .lp 4 0 ∧ (L 4).2 = [.sl none 0 (some 0), .sl none 0 (some 0)] ∧ T 5 = .lp 5 0 ∧ (∃ x y f, (L 5).2 = [x, y] ∧ FrF h h' x y f ∧ miniF f) ∧ Dr0 b p 67 h h')
  · intro J
    cases en : decide ((f.pl.length : Int) > 0) with
    | false =>
      simp +contextual (maxSteps := 2000000) only [go_sem, Nat.reduceEqDiff, reduceCtorEq, Nat.reduceAdd, Nat.reduceLeDiff, ↓u94_8, t0, t4, l4, t5, l5, z.sl.pl.len, en]
      refine J _ _ _ ?_
      simp +contextual (maxSteps := 2000000) only [go_sem, Nat.reduceEqDiff, reduceCtorEq, Nat.reduceAdd, Nat.reduceLeDiff, t0, t4, l4, t5, l5]
      exact ⟨⟨x, y, f, rfl, z, mf⟩, d1.more (by omega)⟩
    | true =>
      simp +contextual (maxSteps := 2000000) only [go_sem, Nat.reduceEqDiff, reduceCtorEq, Nat.reduceAdd, Nat.reduceLeDiff, ↓u94_8, t0, t4, l4, t5, l5, z.sl.pl.len, en]
      refine wp_call (c_pick b 2 p1 h1 r1 (by omega)) ?_
      rintro q h2 ⟨⟨k, rfl, _, _⟩, d2⟩
      have z2 := z.drew d2 hbn
      obtain ⟨p2, hq1, hq2, r2⟩ := d2.ex
      have d2 := d2.then st1 hp1 hp2
      by_cases e0 : k = 0
      · simp +contextual (maxSteps := 2000000) only [go_sem, Nat.reduceEqDiff, reduceCtorEq, Nat.reduceAdd, Nat.reduceLeDiff, t0, t4, l4, t5, l5, decide_eq_true e0, z2.sl.pl.len]
        refine wp_call (c_pick b f.pl.length p2 h2 r2 (by omega)) ?_
        rintro q h3 ⟨⟨m, rfl, m0, m1⟩, d3⟩
        obtain ⟨m, rfl⟩ := Int.eq_ofNat_of_zero_le m0
        have z3 := z2.drew d3 hbn
        have d3 := d3.then d2.st (by omega) (show p2 ≤ p + ((65 + 1 : Nat) : Int) by omega)
        obtain ⟨w, ew, sw, bw⟩ := z3.sl.pl.takeB (i := m) (by omega) (kd := .i64)
        obtain ⟨w, rfl⟩ := sw.isOne
        have m3 : miniF ⟨f.pl.take m, f.nl⟩ := ⟨by have := mf.pl; simp; omega, mf.nl, mf.nm⟩
        simp +contextual (maxSteps := 2000000) only [go_sem, Nat.reduceEqDiff, reduceCtorEq, Nat.reduceAdd, Nat.reduceLeDiff, t0, t4, l4, t5, l5, ew]
        refine J _ _ _ ?_
        simp +contextual (maxSteps := 2000000) only [go_sem, Nat.reduceEqDiff, reduceCtorEq, Nat.reduceAdd, Nat.reduceLeDiff, t0, t4, l4, t5, l5]
        exact ⟨⟨w, y, ⟨f.pl.take m, f.nl⟩, rfl, ⟨⟨sw, z3.sl.nl⟩, fun j hj => z3.bx j (bw j hj), z3.bY⟩, m3⟩, .inl d3⟩
      · simp +contextual (maxSteps := 2000000) only [go_sem, Nat.reduceEqDiff, reduceCtorEq, Nat.reduceAdd, Nat.reduceLeDiff, t0, t4, l4, t5, l5, decide_eq_false e0]
        refine J _ _ _ ?_
        simp +contextual (maxSteps := 2000000) only [go_sem, Nat.reduceEqDiff, reduceCtorEq, Nat.reduceAdd, Nat.reduceLeDiff, t0, t4, l4, t5, l5]
        exact ⟨⟨x, y, f, rfl, z2, mf⟩, .inl (d2.more (by omega))⟩
  rintro T L h2 ⟨t0, t4, l4, t5, ⟨x, y, f, l5, z, mf⟩, d2⟩
  obtain ⟨st2, p2, hq1, hq2, r2⟩ := d2.ex r
  cases en : decide ((f.nl.length : Int) > 0) with
  | false =>
    simp +contextual (maxSteps := 2000000) only [go_sem, Nat.reduceEqDiff, reduceCtorEq, Nat.reduceAdd, Nat.reduceLeDiff, ↓u94_7, t0, t4, l4, t5, l5, z.sl.nl.len, en]
    exact gcK_dr0 r (d2.more (show 67 ≤ 70 by omega)) ⟨⟨x, y, f, rfl, z, mf⟩, d2.more (by omega)⟩
  | true =>
    have hn : 1 ≤ f.nl.length := by have := of_decide_eq_true en; omega
    simp +contextual (maxSteps := 2000000) only [go_sem, Nat.reduceEqDiff, reduceCtorEq, Nat.reduceAdd, Nat.reduceLeDiff, ↓u94_7, t0, t4, l4, t5, l5, z.sl.nl.len, en]
    refine wp_call (c_pick b 2 p2 h2 r2 (by omega)) ?_
    rintro q h3 ⟨⟨k, rfl, _, _⟩, d3⟩
    have z3 := z.drew d3 hbn
    have d3 := (d3.then st2 hq1 hq2).more (show 67 + 1 ≤ 70 by omega)
    by_cases e0 : k = 0
    · obtain ⟨w, ew, sw, bw⟩ := z3.sl.nl.dropB hn (kd := .i64)
      obtain ⟨w, rfl⟩ := sw.isOne
      have ew : cutO 93 2 h3 (.one y) (some (.one (.int .i64 1))) none none = some (.one w) := ew
      have m3 : miniF ⟨f.pl, f.nl.drop 1⟩ := ⟨mf.pl, by have := mf.nl; simp; omega, fun a ha => mf.nm a (List.mem_of_mem_drop ha)⟩
      simp +contextual (maxSteps := 2000000) only [go_sem, Nat.reduceEqDiff, reduceCtorEq, Nat.reduceAdd, Nat.reduceLeDiff, t0, t4, l4, t5, l5, decide_eq_true e0, ew]
      exact gcK_drew r d3 ⟨⟨x, w, ⟨f.pl, f.nl.drop 1⟩, rfl, ⟨⟨z3.sl.pl, sw⟩, z3.bx, fun j hj => z3.bY j (bw j hj)⟩, m3⟩, .inl d3⟩
    · simp +contextual (maxSteps := 2000000) only [go_sem, Nat.reduceEqDiff, reduceCtorEq, Nat.reduceAdd, Nat.reduceLeDiff, t0, t4, l4, t5, l5, decide_eq_false e0]
      exact gcK_drew r d3 ⟨⟨x, y, f, rfl, z3, mf⟩, .inl d3⟩
/-! spec.somePartial -/
def L47_0 : List AStep := [⟨.alloc 31 [(.sl none 0 (some 0)), (.sl none 0 (some 0)), (.sl none 0 (some 0))], (some 2), none, []⟩]
theorem v47_0 : VS L47_0.eq_1 := rfl
def L47_1 : List AStep := [⟨.alloc 25 [(.sl none 0 (some 0))], (some 3), none, []⟩, ⟨.store 1 (.t 3) (.t 5), none, none, []⟩]
theorem v47_1 : VS L47_1.eq_1 := rfl
def L47_2 : List AStep := ⟨.mov (.t 0), (some 4), none, []⟩ :: ⟨.call 91 [(.t 4)], (some 5), none, []⟩ :: L47_1
theorem v47_2 : VS L47_2.eq_1 := rfl
def L47_3 : List AStep := [⟨.bin .eql (.t 7) (.c (.int .i64 0)), (some 8), none, []⟩]
theorem v47_3 : VS L47_3.eq_1 := rfl
def L47_4 : List AStep := ⟨.mov (.t 0), (some 6), none, []⟩ :: ⟨.call 92 [(.t 6), (.c (.int .i64 10))], (some 7), none, []⟩ :: L47_3
theorem v47_4 : VS L47_4.eq_1 := rfl
def L47_5 : List AStep := [⟨.store 3 (.t 2) (.t 12), none, none, []⟩]
theorem v47_5 : VS L47_5.eq_1 := rfl
def L47_6 : List AStep := ⟨.call 93 [(.t 10)], (some 11), none, [(.load 1 true (.t 3), (some 9), none)]⟩ :: ⟨.build [(.sl none 0 (some 0)), (.sl none 0 (some 0)), (.sl none 0 (some 0))] [(0, 1, (.t 9)), (1, 2, (.t 11))], (some 12), none, []⟩ :: L47_5
theorem v47_6 : VS L47_6.eq_1 := rfl
def L47_7 : List AStep := ⟨.load 1 true (.t 3), (some 9), none, []⟩ :: ⟨.mov (.t 0), (some 10), none, []⟩ :: L47_6
theorem v47_7 : VS L47_7.eq_1 := rfl
def L47_8 : List AStep := [⟨.build [(.sl none 0 (some 0)), (.sl none 0 (some 0)), (.sl none 0 (some 0))] [(0, 1, (.t 13)), (1, 2, (.t 16))], (some 17), none, []⟩, ⟨.store 3 (.t 2) (.t 17), none, none, []⟩]
theorem v47_8 : VS L47_8.eq_1 := rfl
def L47_9 : List AStep := ⟨.load 1 true (.t 3), (some 15), none, []⟩ :: ⟨.call 94 [(.t 14), (.t 15)], (some 16), none, [(.load 1 true (.t 3), (some 13), none)]⟩ :: L47_8
theorem v47_9 : VS L47_9.eq_1 := rfl
def L47_10 : List AStep := ⟨.load 1 true (.t 3), (some 13), none, []⟩ :: ⟨.mov (.t 0), (some 14), none, []⟩ :: L47_9
theorem v47_10 : VS L47_10.eq_1 := rfl
def C47_0 : ACode := .seq (.reg L47_7) .ret
theorem u47_0 : VC C47_0.eq_1 := rfl
def C47_1 : ACode := .cond (.t 8) C47_0 .skip
theorem u47_1 : VC C47_1.eq_1 := rfl
def C47_2 : ACode := .seq (.reg L47_4) C47_1
theorem u47_2 : VC C47_2.eq_1 := rfl
def C47_3 : ACode := .seq (.reg L47_10) .ret
theorem u47_3 : VC C47_3.eq_1 := rfl
def C47_4 : ACode := .seq C47_2 C47_3
theorem u47_4 : VC C47_4.eq_1 := rfl
def C47_5 : ACode := .seq (.reg L47_2) C47_4
theorem u47_5 : VC C47_5.eq_1 := rfl
def C47_6 : ACode := .seq (.reg L47_0) C47_5
theorem u47_6 : VC C47_6.eq_1 := rfl
def F47 : AFunc := ⟨18, [.cell 2 3 true], C47_6⟩
theorem cF47 : compB Try.prog 47 = some F47 := by kernel_rfl
attribute [local go_sem ↓] u47_0 u47_1 u47_2 u47_3 u47_4 u47_5 u47_6 v47_0 v47_1 v47_2 v47_3 v47_4 v47_5 v47_6 v47_7 v47_8 v47_9 v47_10
theorem c_somePartial (b : Nat) (p : Int) (h : H) (r : Rd h b p) (hp : p ≤ 2 ^ 36) : callK (bm Try.prog 47 [.one (.ptr (some (b, 0)))] h) fun q h' => (∃ u x y l f, q = .agg [u, x, y] ∧ NwQ h h' (.one u) l ∧ FrF h h' x y f ∧ tinyQ l ∧ miniF f) ∧ Drew b p 117 h h' := by
  refine bm_of cF47 ?_
  have hbn := r.lt
  simp +contextual (maxSteps := 2000000) only [go_sem, Nat.reduceEqDiff, reduceCtorEq, Nat.reduceAdd, Nat.reduceLeDiff, F47]
  refine wp_call (c_someSignature b p h r (by omega)) ?_
  rintro q h1 ⟨⟨u, l, rfl, z1, tl⟩, d1⟩
  obtain ⟨p1, hp1, hp2, r1⟩ := d1.ex
  simp +contextual (maxSteps := 2000000) only [go_sem, Nat.reduceEqDiff, reduceCtorEq, Nat.reduceAdd, Nat.reduceLeDiff]
  refine wp_call (c_pick b 10 p1 h1 r1 (by omega)) ?_
  rintro q h2 ⟨⟨k, rfl, _, _⟩, d2⟩
  have z2 := z1.drew d2 hbn
  obtain ⟨p2, hq1, hq2, r2⟩ := d2.ex
  have d2 := d2.then d1.st (by omega) hp2
  have hx : baseOf (.one u) ≠ some b := fun e => by have := (z2.lt e).2; omega
  by_cases e0 : k = 0
  · simp +contextual (maxSteps := 2000000) only [go_sem, Nat.reduceEqDiff, reduceCtorEq, Nat.reduceAdd, Nat.reduceLeDiff, decide_eq_true e0]
    refine wp_call (c_someFlat b p2 h2 r2 (by omega)) ?_
    rintro q h3 ⟨⟨x, y, f, rfl, z3, mf⟩, d3⟩
    have zq := z2.drew d3 hbn
    have z3 := (FrF.of z3).from d2.st.n
    have d3 := (d3.then d2.st (by omega) (show p2 ≤ p + ((46 + 1 : Nat) : Int) by omega)).more (show 46 + 1 + 21 ≤ 117 by omega)
    simp +contextual (maxSteps := 2000000) only [go_sem, Nat.reduceEqDiff, reduceCtorEq, Nat.reduceAdd, Nat.reduceLeDiff]
    exact gcK_drew r d3 ⟨⟨u, x, y, l, f, rfl, zq, z3, tl, mf⟩, d3⟩
  · simp +contextual (maxSteps := 2000000) only [go_sem, Nat.reduceEqDiff, reduceCtorEq, Nat.reduceAdd, Nat.reduceLeDiff, decide_eq_false e0]
    refine wp_call (c_partFlat b p2 l u h2 r2 (by omega) (z2.sl lenQ) hx tl) ?_
    rintro q h3 ⟨⟨x, y, f, rfl, z3, mf⟩, d3⟩
    obtain ⟨st3, p3, hs1, hs2, r3⟩ := d3.ex r2
    have zq : NwQ h h3 (.one u) l := z2.stay st3 fun i hi e => by have := (z2.lt hi).2; simp [bR, baseOf] at e; omega
    have z3 := z3.from d2.st.n
    have d3 : Drew b p 117 h h3 := ⟨d2.st.trans st3, p3, by omega, by omega, r3⟩
    simp +contextual (maxSteps := 2000000) only [go_sem, Nat.reduceEqDiff, reduceCtorEq, Nat.reduceAdd, Nat.reduceLeDiff]
    exact gcK_drew r d3 ⟨⟨u, x, y, l, f, rfl, zq, z3, tl, mf⟩, d3⟩
theorem part_out {h h1 : H} {u x y : CV} {l : List Param} {f : Flat} (zq : SlQ h1 (.one u) l) (zf : SlF h1 x y f) (hs : (AV.agg [u, x, y]).scalar = true) : SlQ h (.one u) l ∧ SlF h x y f := by
  simp [AV.scalar] at hs
  exact ⟨zq.scalar hs.1 h, zf.pl.scalar hs.2.1 h, zf.nl.scalar hs.2.2 h⟩
end Go.Proofs.Ytekkimfdcbgcoac.Am
