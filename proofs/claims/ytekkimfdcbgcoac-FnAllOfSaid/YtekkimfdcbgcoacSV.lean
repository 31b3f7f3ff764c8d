/- Contracts: sets of signatures that are drawn. -/
import Derived.Test.YtekkimfdcbgcoacDZ
import Derived.Test.YtekkimfdcbgcoacK3
namespace Go.Proofs.Ytekkimfdcbgcoac.Am
open Go
attribute [local go_sem] loadL_agg
set_option maxRecDepth 100000
set_option maxHeartbeats 4000000
set_option linter.unusedSimpArgs false
set_option linter.unusedVariables false
attribute [local go_sem ↓] bv_t bv_c ev_t ev_c put_same put_ne put_none kill_at pro_at lb_same lb_ne start_zero start_succ wpC_seq wpC_reg wpC_cond wpC_block wpC_skip wpC_exit wpC_ret thenQ_normal thenQ_exit thenQ_ret inBlk_normal inBlk_exit inBlk_ret wpS_nil wpS_step wpS_again wpS_guard wpO_mov wpO_load wpO_faddr wpO_nilCheck wpO_pick wpO_build wpO_bin wpO_eqb wpO_eqst wpO_eqnil wpO_not wpO_conv wpO_bytesStr wpO_iaddr wpO_idxStr wpO_field wpO_extract wpO_len wpO_lenStr wpO_cap wpO_min wpO_slice wpO_sliceStr wpO_alloc wpO_box wpO_store wpO_call wpO_callv wpO_mkfn wpO_buildSlice wpO_mkslice wpO_append wpO_appz proA_nil proA_cons tmpX_nil tmpX_tmp tmpX_cell doneB_normal doneB_ret agK_cons agK_nil agK_guard agG_tt agG_ff agG_tf agG_ft agG_undef pureB_load results_one results_two results_nil resBs_cons resBs_nil resB_tmp resB_cell
attribute [local go_sem] kill_v kill_lp_ne kill_lp_same pro_v pro_lp_same pro_lp_ne av_v av_lp optB_some optX_some valX_eq ldX_lp ldX_v faX_lp faX_v ncX_lp ncX_ptr ncX_fn boxK_one boxK_agg stL_some stK_lp_one stK_lp_agg stK_v_one stK_v_agg proM_v proM_lp callG_mk callVG_mk callvK_fn fnG_mk ptrsA_nil ptrsA_cons callH_some whenA_true whenA_false guardH_tt guardH_ff guardH_tf guardH_ft guardH_undef agV_one agV_agg lenO_sl lenStrO_str notO_bool pickO_bool convO_int eqbO_bool eqnilO_sl extractO_tup capO_sl minO_int loadL_one loadL_all storeL_eq fillA_nil fillA_one fillA_agg nat_ge neg_ge nat_lt neg_lt buildO bin_add bin_sub bin_mul bin_eql bin_neq bin_lss bin_leq bin_gtr bin_geq str_eql str_neq str_lss str_leq str_gtr str_geq retK_some endK_mk gcK_same gcK_int gcK_bool tupO_one tupO_agg rdy_self ib ii Option.map_none Option.map_some Option.some.injEq exists_eq_left' exists_eq_left ne_eq not_false_eq_true if_true if_false List.map_cons List.map_nil List.getElem?_cons_zero List.getElem?_cons_succ List.length_cons List.length_nil List.take_succ_cons List.take_zero List.take_nil List.drop_succ_cons List.drop_zero List.drop_nil List.cons_append List.nil_append List.append_nil List.set_cons_zero List.set_cons_succ Nat.zero_add forall_const true_and and_true and_self Bool.false_eq_true false_implies true_implies implies_true Bool.not_true Bool.not_false Bool.not_eq_true' Bool.not_eq_false' beq_self_eq_true Bool.bne_true Bool.bne_false
attribute [local go_sem] lenI lenS lenP lenQ lenB lenL lenT encI_0 encS_0 encP_0 encP_1 encQ_0 encQ_1 encQ_2 encQ_3 encB_0 encB_1 encL_0 encL_1 encT_0 encT_1
attribute [local go_sem low] whenA_bool guardH_bool
attribute [local go_sem] lenV encV_0
structure tinyV (l : List Sg) : Prop where
  len : l.length ≤ 6
  el : ∀ a ∈ l, tinyQ a.params
theorem tinyV.mini {l : List Sg} (t : tinyV l) : miniV l := by
  have hl := t.len
  refine ⟨by omega, fun a ha => Nat.le_trans (t.el a ha).len (by decide), fun a ha x hx => Nat.le_trans ((t.el a ha).nm x hx) (by decide), ?_⟩
  have := wsum_bound (f := cellsEV) (B := 40) (l := l) (fun a ha => by have := (t.el a ha).len; unfold cellsEV; omega)
  unfold cellsV
  omega
/-- A set under way. -/
structure SetW (h h' : H) (w : CV) (rs : List RSg) (l : List Sg) : Prop where
  out : Nw encV 1 25 h h' (.one w) rs
  len : rs.length = l.length
  el : ∀ i (hi : i < rs.length), NwQ h h' (.one rs[i].qv) (getV l i).params
  sep : ∀ i (hi : i < rs.length), SepC w rs[i].qv
theorem SetW.grow {h h1 h2 : H} {w : CV} {rs : List RSg} {l : List Sg} (x : SetW h h1 w rs l) (g : Grow h1 h2) : SetW h h2 w rs l := ⟨x.out.grow g, x.len, fun i hi => (x.el i hi).grow g, x.sep⟩
theorem SetW.drew {h h1 h2 : H} {w : CV} {rs : List RSg} {l : List Sg} {b c : Nat} {p : Int} (x : SetW h h1 w rs l) (d : Drew b p c h1 h2) (hb : b < h.n) : SetW h h2 w rs l := ⟨x.out.drew d hb, x.len, fun i hi => (x.el i hi).drew d hb, x.sep⟩
theorem SetW.sl {h h1 : H} {w : CV} {rs : List RSg} {l : List Sg} (x : SetW h h1 w rs l) : SlV h1 w l := ⟨rs, x.out.sl lenV, x.len, fun i hi => ⟨(x.el i hi).sl lenQ⟩⟩
theorem SetW.push {h h3 h4 : H} {w s c : CV} {rs : List RSg} {l : List Sg} {m : List Param} (x : SetW h h3 w rs l) (z : NwQ h h3 (.one c) m) (sc : SepC w c) (n : Nw encV 1 25 h h4 (.one s) (rs ++ [⟨c⟩])) (st : Stay (.one w) h3 h4)
    (hb : ∀ i, baseOf (.one s) = some i → baseOf (.one w) = some i ∨ h3.n ≤ i) : SetW h h4 s (rs ++ [⟨c⟩]) (l ++ [⟨m⟩]) := by
  have hl := x.len
  refine ⟨n, by simp [hl], fun i hi => ?_, fun i hi => ?_⟩
  · by_cases e : i < rs.length
    · rw [getV_eq (by simp; omega), List.getElem_append_left e, List.getElem_append_left (show i < l.length by omega)]
      have := (x.el i e).stay st (x.sep i e).symm
      rwa [getV_eq (by omega)] at this
    · have : i = rs.length := by simp at hi; omega
      rw [getV_eq (by simp; omega), List.getElem_append_right (by omega), List.getElem_append_right (by omega)]
      simp only [List.getElem_singleton]
      exact z.stay st sc.symm
  · by_cases e : i < rs.length
    · rw [List.getElem_append_left e]
      intro j hj hk
      rcases hb j hj with d | d
      · exact x.sep i e j d hk
      · have := ((x.el i e).lt hk).1; omega
    · rw [List.getElem_append_right (by omega)]
      simp only [List.getElem_singleton]
      intro j hj hk
      rcases hb j hj with d | d
      · exact sc j d hk
      · have := (z.lt hk).1; omega
/-! spec.someSet -/
def L125_0 : List AStep := [⟨.mov (.c (.sl none 0 (some 0))), (some 2), none, []⟩]
theorem v125_0 : VS L125_0.eq_1 := rfl
def L125_1 : List AStep := [⟨.buildSlice 25 0 [(.sl none 0 (some 0))] [], (some 5), none, []⟩, ⟨.mov (.t 5), (some 3), none, []⟩]
theorem v125_1 : VS L125_1.eq_1 := rfl
def L125_2 : List AStep := [⟨.call 134 [(.t 6), (.t 7)], (some 8), none, []⟩, ⟨.mov (.t 8), (some 4), none, []⟩]
theorem v125_2 : VS L125_2.eq_1 := rfl
def L125_3 : List AStep := ⟨.mov (.t 0), (some 6), none, []⟩ :: ⟨.buildSlice 3 6 [(.int .i64 0)] [(0, 1, (.c (.int .i64 3))), (1, 1, (.c (.int .i64 2))), (2, 1, (.c (.int .i64 4))), (3, 1, (.c (.int .i64 1))), (4, 1, (.c (.int .i64 0))), (5, 1, (.c (.int .i64 5)))], (some 7), none, []⟩ :: L125_2
theorem v125_3 : VS L125_3.eq_1 := rfl
def L125_4 : List AStep := [⟨.mov (.t 4), (some 9), none, []⟩, ⟨.bin .gtr (.t 9) (.c (.int .i64 0)), (some 10), none, []⟩]
theorem v125_4 : VS L125_4.eq_1 := rfl
def L125_5 : List AStep := [⟨.bin .eql (.t 18) (.c (.int .i64 0)), (some 19), (some (16, true)), []⟩, ⟨.pick (.t 16) (.t 19) (.c (.bool false)), (some 20), none, []⟩]
theorem v125_5 : VS L125_5.eq_1 := rfl
def L125_6 : List AStep := ⟨.mov (.t 0), (some 17), (some (16, true)), []⟩ :: ⟨.call 92 [(.t 17), (.c (.int .i64 2))], (some 18), (some (16, true)), []⟩ :: L125_5
theorem v125_6 : VS L125_6.eq_1 := rfl
def L125_7 : List AStep := ⟨.bin .gtr (.t 14) (.c (.int .i64 0)), (some 15), none, []⟩ :: ⟨.mov (.t 15), (some 16), none, []⟩ :: L125_6
theorem v125_7 : VS L125_7.eq_1 := rfl
def L125_8 : List AStep := ⟨.mov (.t 3), (some 13), none, []⟩ :: ⟨.len (.t 13), (some 14), none, []⟩ :: L125_7
theorem v125_8 : VS L125_8.eq_1 := rfl
def L125_9 : List AStep := [⟨.mov (.t 32), (some 3), none, []⟩]
theorem v125_9 : VS L125_9.eq_1 := rfl
def L125_10 : List AStep := ⟨.buildSlice 25 1 [(.sl none 0 (some 0))] [(0, 1, (.t 30))], (some 31), none, []⟩ :: ⟨.append 25 1 24 (.t 21) (.t 31), (some 32), none, []⟩ :: L125_9
theorem v125_10 : VS L125_10.eq_1 := rfl
def L125_11 : List AStep := ⟨.load 1 true (.t 28), (some 29), none, []⟩ :: ⟨.call 147 [(.t 22), (.t 29)], (some 30), none, []⟩ :: L125_10
theorem v125_11 : VS L125_11.eq_1 := rfl
def L125_12 : List AStep := ⟨.call 92 [(.t 24), (.t 26)], (some 27), none, []⟩ :: ⟨.iaddr 1 (.t 23) (.t 27), (some 28), none, []⟩ :: L125_11
theorem v125_12 : VS L125_12.eq_1 := rfl
def L125_13 : List AStep := ⟨.mov (.t 3), (some 25), none, []⟩ :: ⟨.len (.t 25), (some 26), none, []⟩ :: L125_12
theorem v125_13 : VS L125_13.eq_1 := rfl
def L125_14 : List AStep := ⟨.mov (.t 3), (some 23), none, []⟩ :: ⟨.mov (.t 0), (some 24), none, []⟩ :: L125_13
theorem v125_14 : VS L125_14.eq_1 := rfl
def L125_15 : List AStep := ⟨.mov (.t 3), (some 21), none, []⟩ :: ⟨.mov (.t 0), (some 22), none, []⟩ :: L125_14
theorem v125_15 : VS L125_15.eq_1 := rfl
def L125_16 : List AStep := [⟨.append 25 1 24 (.t 33) (.t 36), (some 37), none, []⟩, ⟨.mov (.t 37), (some 3), none, []⟩]
theorem v125_16 : VS L125_16.eq_1 := rfl
def L125_17 : List AStep := ⟨.call 132 [(.t 34)], (some 35), none, []⟩ :: ⟨.buildSlice 25 1 [(.sl none 0 (some 0))] [(0, 1, (.t 35))], (some 36), none, []⟩ :: L125_16
theorem v125_17 : VS L125_17.eq_1 := rfl
def L125_18 : List AStep := ⟨.mov (.t 3), (some 33), none, []⟩ :: ⟨.mov (.t 0), (some 34), none, []⟩ :: L125_17
theorem v125_18 : VS L125_18.eq_1 := rfl
def L125_19 : List AStep := [⟨.mov (.t 12), (some 4), none, []⟩]
theorem v125_19 : VS L125_19.eq_1 := rfl
def L125_20 : List AStep := ⟨.mov (.t 4), (some 11), none, []⟩ :: ⟨.bin .sub (.t 11) (.c (.int .i64 1)), (some 12), none, []⟩ :: L125_19
theorem v125_20 : VS L125_20.eq_1 := rfl
def L125_21 : List AStep := [⟨.bin .eql (.t 39) (.c (.int .i64 0)), (some 40), none, []⟩]
theorem v125_21 : VS L125_21.eq_1 := rfl
def L125_22 : List AStep := ⟨.mov (.t 0), (some 38), none, []⟩ :: ⟨.call 92 [(.t 38), (.c (.int .i64 24))], (some 39), none, []⟩ :: L125_21
theorem v125_22 : VS L125_22.eq_1 := rfl
def L125_23 : List AStep := [⟨.append 25 1 24 (.t 41) (.t 44), (some 45), none, []⟩, ⟨.mov (.t 45), (some 3), none, []⟩]
theorem v125_23 : VS L125_23.eq_1 := rfl
def L125_24 : List AStep := ⟨.call 91 [(.t 42)], (some 43), none, []⟩ :: ⟨.buildSlice 25 1 [(.sl none 0 (some 0))] [(0, 1, (.t 43))], (some 44), none, []⟩ :: L125_23
theorem v125_24 : VS L125_24.eq_1 := rfl
def L125_25 : List AStep := ⟨.mov (.t 3), (some 41), none, []⟩ :: ⟨.mov (.t 0), (some 42), none, []⟩ :: L125_24
theorem v125_25 : VS L125_25.eq_1 := rfl
def L125_26 : List AStep := [⟨.mov (.t 3), (some 46), none, []⟩, ⟨.mov (.t 46), (some 2), none, []⟩]
theorem v125_26 : VS L125_26.eq_1 := rfl
def C125_0 : ACode := .cond (.t 10) .skip (.exit 0)
theorem u125_0 : VC C125_0.eq_1 := rfl
def C125_1 : ACode := .seq (.reg L125_4) C125_0
theorem u125_1 : VC C125_1.eq_1 := rfl
def C125_2 : ACode := .cond (.t 20) (.reg L125_15) (.reg L125_18)
theorem u125_2 : VC C125_2.eq_1 := rfl
def C125_3 : ACode := .seq (.reg L125_8) C125_2
theorem u125_3 : VC C125_3.eq_1 := rfl
def C125_4 : ACode := .block 1 C125_3
theorem u125_4 : VC C125_4.eq_1 := rfl
def C125_5 : ACode := .seq C125_4 (.reg L125_20)
theorem u125_5 : VC C125_5.eq_1 := rfl
def C125_6 : ACode := .seq C125_1 C125_5
theorem u125_6 : VC C125_6.eq_1 := rfl
def C125_7 : ACode := .block 0 (.loop C125_6)
theorem u125_7 : VC C125_7.eq_1 := rfl
def C125_8 : ACode := .seq (.reg L125_3) C125_7
theorem u125_8 : VC C125_8.eq_1 := rfl
def C125_9 : ACode := .cond (.t 40) (.reg L125_25) .skip
theorem u125_9 : VC C125_9.eq_1 := rfl
def C125_10 : ACode := .seq (.reg L125_22) C125_9
theorem u125_10 : VC C125_10.eq_1 := rfl
def C125_11 : ACode := .seq (.reg L125_26) .ret
theorem u125_11 : VC C125_11.eq_1 := rfl
def C125_12 : ACode := .seq C125_10 C125_11
theorem u125_12 : VC C125_12.eq_1 := rfl
def C125_13 : ACode := .seq C125_8 C125_12
theorem u125_13 : VC C125_13.eq_1 := rfl
def C125_14 : ACode := .seq (.reg L125_1) C125_13
theorem u125_14 : VC C125_14.eq_1 := rfl
def C125_15 : ACode := .seq (.reg L125_0) C125_14
theorem u125_15 : VC C125_15.eq_1 := rfl
def F125 : AFunc := ⟨47, [.tmp 2], C125_15⟩
theorem cF125 : compB Try.prog 125 = some F125 := by kernel_rfl
attribute [local go_sem ↓] u125_0 u125_1 u125_2 u125_3 u125_4 u125_5 u125_6 u125_7 u125_8 u125_9 u125_10 u125_11 u125_12 u125_13 u125_14 u125_15 v125_0 v125_1 v125_2 v125_3 v125_4 v125_5 v125_6 v125_7 v125_8 v125_9 v125_10 v125_11 v125_12 v125_13 v125_14 v125_15 v125_16 v125_17 v125_18 v125_19 v125_20 v125_21 v125_22 v125_23 v125_24 v125_25 v125_26
theorem c_someSet (b : Nat) (p : Int) (h : H) (r : Rd h b p) (hp : p ≤ 2 ^ 36) : callK (bm Try.prog 125 [.one (.ptr (some (b, 0)))] h) fun q h' => (∃ w rs l, q = .one w ∧ SetW h h' w rs l ∧ tinyV l) ∧ Drew b p 263 h h' := by
  refine bm_of cF125 ?_
  have hbn := r.lt
  simp +contextual (maxSteps := 2000000) only [go_sem, Nat.reduceEqDiff, reduceCtorEq, Nat.reduceAdd, Nat.reduceLeDiff, F125]
  refine wp_lit (enc := encV) (k := 1) (l := []) rfl rfl ?_
  intro h1 w1 g1 n1 b1
  obtain ⟨c1, rfl⟩ := n1.one
  simp +contextual (maxSteps := 2000000) only [go_sem, Nat.reduceEqDiff, reduceCtorEq, Nat.reduceAdd, Nat.reduceLeDiff]
  refine wp_lit (enc := encI) (k := 1) (l := [3, 2, 4, 1, 0, 5]) rfl rfl ?_
  intro h2 w2 g2 n2 b2
  have g12 := g1.trans g2
  simp +contextual (maxSteps := 2000000) only [go_sem, Nat.reduceEqDiff, reduceCtorEq, Nat.reduceAdd, Nat.reduceLeDiff]
  refine wp_call (c_one b p _ w2 h2 (r.grow g12) (by omega) (n2.sl lenI) (fun i hi => Nat.lt_of_lt_of_le hbn (Nat.le_trans g1.n (b2 i hi))) (by decide) (by decide)) ?_
  rintro q h3 ⟨⟨m, hm, rfl⟩, d3⟩
  have hm8 : 0 ≤ m ∧ m ≤ 5 := by simp at hm; omega
  obtain ⟨m, rfl⟩ := Int.eq_ofNat_of_zero_le hm8.1
  have x3 : SetW h h3 c1 [] [] := SetW.drew (SetW.grow ⟨n1, rfl, fun i hi => absurd hi (Nat.not_lt_zero _), fun i hi => absurd hi (Nat.not_lt_zero _)⟩ g2) d3 hbn
  have d3 := d3.pre g12
  have hz : decide (((0 : Nat) : Int) > 0) = false := rfl
  simp +contextual (maxSteps := 2000000) only [go_sem, Nat.reduceEqDiff, reduceCtorEq, Nat.reduceAdd, Nat.reduceLeDiff]
  refine wpC_loop (fun k T L h' => T 0 = .v (.one (.ptr (some (b, 0)))) ∧ (∃ w rs l, T 3 = .v (.one w) ∧ SetW h h' w rs l ∧ l.length ≤ k ∧ ∀ a ∈ l, tinyQ a.params) ∧ T 4 = .v (.one (.int .i64 ((m - k : Nat) : Int))) ∧ Drew b p (1 + 43 * k) h h') m ?_ ?_ (Nat.zero_le _) ?_
  · rintro k T L h' hk ⟨t0, ⟨w, rs, l, t3, x, hl1, hl2⟩, t4, d⟩
    obtain ⟨j, hj⟩ : ∃ j, m - k = j + 1 := ⟨m - k - 1, by omega⟩
    rw [hj] at t4
    have ej : m - (k + 1) = j := by omega
    have a3 : decide (((j + 1 : Nat) : Int) > 0) = true := decide_eq_true (by omega)
    obtain ⟨p', hp1, hp2, r'⟩ := d.ex
    have hlen := x.len
    have wlen : lenO (.one w) = some (ii l.length) := by rw [x.out.length, hlen]
    have hN := d.st.n
    have good : ∀ {h5 : H} {p5 : Int} {c : Nat}, SetW h h5 w rs l → Drew b p c h h5 → Rd h5 b p5 → p < p5 → p5 ≤ p + (c : Int) → c ≤ 1 + 43 * k + 1 → callK (bm Try.prog 132 [.one (.ptr (some (b, 0)))] h5) fun q h6 => ∃ u m, q = .agg [u] ∧ SetW h h6 w rs l ∧ NwQ h h6 (.one u) m ∧ SepC w u ∧ tinyQ m ∧ Drew b p (1 + 43 * k + 43) h h6 := fun x d r h1 h2 h3 => by
      refine callK_mono (c_goodSignature b _ _ r (by omega)) ?_
      rintro q h6 ⟨⟨u, m, rfl, z, tm⟩, d6⟩
      exact ⟨u, m, rfl, x.drew d6 hbn, z.from d.st.n, Sep.new (fun i hi => (x.out.lt hi).1) (fun i hi => (z.lt hi).2), tm, (d6.then d.st (by omega) h2).more (by omega)⟩
    cases c0 : decide ((l.length : Int) > 0) with
    | false =>
      simp +contextual (maxSteps := 2000000) only [go_sem, Nat.reduceEqDiff, reduceCtorEq, Nat.reduceAdd, Nat.reduceLeDiff, t0, t3, t4, a3, wlen, c0]
      refine wp_call (good x d r' hp1 hp2 (by omega)) ?_
      rintro q h6 ⟨u, mq, rfl, x6, z6, sc, tm, d6⟩
      simp +contextual (maxSteps := 2000000) only [go_sem, Nat.reduceEqDiff, reduceCtorEq, Nat.reduceAdd, Nat.reduceLeDiff, t0, t3, t4]
      refine wp_lit (enc := encV) (k := 1) (l := [⟨u⟩]) rfl rfl ?_
      intro h7 w7 g7 n7 b7
      have x7 := x6.grow g7
      simp +contextual (maxSteps := 2000000) only [go_sem, Nat.reduceEqDiff, reduceCtorEq, Nat.reduceAdd, Nat.reduceLeDiff, t0, t3, t4]
      refine wp_appendD lenV x7.out (n7.sl lenV) (Nat.le_trans d6.st.n g7.n) (by simp; omega) ?_
      intro h8 s8 n8 st8 hb8
      obtain ⟨c8, rfl⟩ := n8.one
      have x8 := x7.push (z6.grow g7) sc n8 st8 hb8
      have d8 := (d6.grow g7).stay st8 (fun i hi => (x7.out.lt hi).2) hbn
      simp +contextual (maxSteps := 2000000) only [go_sem, Nat.reduceEqDiff, reduceCtorEq, Nat.reduceAdd, Nat.reduceLeDiff, t0, t3, t4, wrap_pred (show j < 2 ^ 62 by omega)]
      refine ⟨⟨c8, _, _, rfl, x8, by simp; omega, fun a ha => ?_⟩, by rw [ej], d8.more (by omega)⟩
      rcases List.mem_append.1 ha with ha | ha
      · exact hl2 a ha
      · rw [List.mem_singleton.1 ha]; exact tm
    | true =>
    have h0 : 0 < l.length := by have := of_decide_eq_true c0; omega
    simp +contextual (maxSteps := 2000000) only [go_sem, Nat.reduceEqDiff, reduceCtorEq, Nat.reduceAdd, Nat.reduceLeDiff, t0, t3, t4, a3, wlen, c0]
    refine wp_call (c_pick b 2 p' h' r' (by omega)) ?_
    rintro q h5 ⟨⟨e, rfl, _, _⟩, d5⟩
    have x5 := x.drew d5 hbn
    obtain ⟨p5, hq1, hq2, r5⟩ := d5.ex
    have d5 := d5.then d.st (by omega) hp2
    by_cases e0 : e = 0
    · simp +contextual (maxSteps := 2000000) only [go_sem, Nat.reduceEqDiff, reduceCtorEq, Nat.reduceAdd, Nat.reduceLeDiff, t0, t3, t4, decide_eq_true e0, wlen]
      refine wp_call (c_pick b l.length p5 h5 r5 (by omega)) ?_
      rintro q h6 ⟨⟨kk, rfl, kk0, kk1⟩, d6⟩
      obtain ⟨kk, rfl⟩ := Int.eq_ofNat_of_zero_le kk0
      have hkk : kk < rs.length := by omega
      have hkl : kk < l.length := by omega
      have x6 := x5.drew d6 hbn
      obtain ⟨p6, hs1, hs2, r6⟩ := d6.ex
      have d6 := d6.then d5.st (by omega) (show p5 ≤ p + ((1 + 43 * k + 1 : Nat) : Int) by omega)
      have zk := x6.el kk hkk
      rw [getV_eq hkl] at zk
      have ewh : loadO 1 true h6 (.one (.ptr (some (elem 1 (.one w) kk)))) = some (.agg [rs[kk].qv]) := (x6.out.sl lenV).whole hkk
      simp +contextual (maxSteps := 2000000) only [go_sem, Nat.reduceEqDiff, reduceCtorEq, Nat.reduceAdd, Nat.reduceLeDiff, t0, t3, t4, x6.out.iaddr hkk, ewh]
      refine wp_call (c_near b p6 l[kk].params rs[kk].qv h6 r6 (by omega) (zk.sl lenQ) (hl2 _ (List.getElem_mem hkl))) ?_
      rintro q h7 ⟨⟨u, mq, rfl, z7, tm⟩, d7⟩
      have x7 := x6.drew d7 hbn
      have sc : SepC w u := Sep.new (fun i hi => (x6.out.lt hi).1) (fun i hi => (z7.lt hi).2)
      have z7 := z7.from d6.st.n
      have d7 := d7.then d6.st (by omega) (show p6 ≤ p + ((1 + 43 * k + 1 + 1 : Nat) : Int) by omega)
      simp +contextual (maxSteps := 2000000) only [go_sem, Nat.reduceEqDiff, reduceCtorEq, Nat.reduceAdd, Nat.reduceLeDiff, t0, t3, t4]
      refine wp_lit (enc := encV) (k := 1) (l := [⟨u⟩]) rfl rfl ?_
      intro h8 w8 g8 n8 b8
      have x8 := x7.grow g8
      simp +contextual (maxSteps := 2000000) only [go_sem, Nat.reduceEqDiff, reduceCtorEq, Nat.reduceAdd, Nat.reduceLeDiff, t0, t3, t4]
      refine wp_appendD lenV x8.out (n8.sl lenV) (Nat.le_trans d7.st.n g8.n) (by simp; omega) ?_
      intro h9 s9 n9 st9 hb9
      obtain ⟨c9, rfl⟩ := n9.one
      have x9 := x8.push (z7.grow g8) sc n9 st9 hb9
      have d9 := (d7.grow g8).stay st9 (fun i hi => (x8.out.lt hi).2) hbn
      simp +contextual (maxSteps := 2000000) only [go_sem, Nat.reduceEqDiff, reduceCtorEq, Nat.reduceAdd, Nat.reduceLeDiff, t0, t3, t4, wrap_pred (show j < 2 ^ 62 by omega)]
      refine ⟨⟨c9, _, _, rfl, x9, by simp; omega, fun a ha => ?_⟩, by rw [ej], d9.more (by omega)⟩
      rcases List.mem_append.1 ha with ha | ha
      · exact hl2 a ha
      · rw [List.mem_singleton.1 ha]; exact tm
    · simp +contextual (maxSteps := 2000000) only [go_sem, Nat.reduceEqDiff, reduceCtorEq, Nat.reduceAdd, Nat.reduceLeDiff, t0, t3, t4, decide_eq_false e0]
      refine wp_call (good x5 d5 r5 (by omega) (by omega) (by omega)) ?_
      rintro q h6 ⟨u, mq, rfl, x6, z6, sc, tm, d6⟩
      simp +contextual (maxSteps := 2000000) only [go_sem, Nat.reduceEqDiff, reduceCtorEq, Nat.reduceAdd, Nat.reduceLeDiff, t0, t3, t4]
      refine wp_lit (enc := encV) (k := 1) (l := [⟨u⟩]) rfl rfl ?_
      intro h7 w7 g7 n7 b7
      have x7 := x6.grow g7
      simp +contextual (maxSteps := 2000000) only [go_sem, Nat.reduceEqDiff, reduceCtorEq, Nat.reduceAdd, Nat.reduceLeDiff, t0, t3, t4]
      refine wp_appendD lenV x7.out (n7.sl lenV) (Nat.le_trans d6.st.n g7.n) (by simp; omega) ?_
      intro h8 s8 n8 st8 hb8
      obtain ⟨c8, rfl⟩ := n8.one
      have x8 := x7.push (z6.grow g7) sc n8 st8 hb8
      have d8 := (d6.grow g7).stay st8 (fun i hi => (x7.out.lt hi).2) hbn
      simp +contextual (maxSteps := 2000000) only [go_sem, Nat.reduceEqDiff, reduceCtorEq, Nat.reduceAdd, Nat.reduceLeDiff, t0, t3, t4, wrap_pred (show j < 2 ^ 62 by omega)]
      refine ⟨⟨c8, _, _, rfl, x8, by simp; omega, fun a ha => ?_⟩, by rw [ej], d8.more (by omega)⟩
      rcases List.mem_append.1 ha with ha | ha
      · exact hl2 a ha
      · rw [List.mem_singleton.1 ha]; exact tm
  · rintro T L h' ⟨t0, ⟨w, rs, l, t3, x, hl1, hl2⟩, t4, d⟩
    rw [Nat.sub_self] at t4
    have d := d.more (show 1 + 43 * m ≤ 216 by omega)
    obtain ⟨p', hp1, hp2, r'⟩ := d.ex
    have hlen := x.len
    simp +contextual (maxSteps := 2000000) only [go_sem, Nat.reduceEqDiff, reduceCtorEq, Nat.reduceAdd, Nat.reduceLeDiff, t0, t3, t4, hz]
    refine wp_call (c_pick b 24 p' h' r' (by omega)) ?_
    rintro q h5 ⟨⟨e, rfl, _, _⟩, d5⟩
    have x5 := x.drew d5 hbn
    obtain ⟨p5, hq1, hq2, r5⟩ := d5.ex
    have d5 := d5.then d.st (by omega) hp2
    by_cases e0 : e = 0
    · simp +contextual (maxSteps := 2000000) only [go_sem, Nat.reduceEqDiff, reduceCtorEq, Nat.reduceAdd, Nat.reduceLeDiff, t0, t3, t4, decide_eq_true e0]
      refine wp_call (c_someSignature b p5 h5 r5 (by omega)) ?_
      rintro q h6 ⟨⟨u, mq, rfl, z6, tm⟩, d6⟩
      have x6 := x5.drew d6 hbn
      have sc : SepC w u := Sep.new (fun i hi => (x5.out.lt hi).1) (fun i hi => (z6.lt hi).2)
      have z6 := z6.from d5.st.n
      have d6 := d6.then d5.st (by omega) (show p5 ≤ p + ((216 + 1 : Nat) : Int) by omega)
      simp +contextual (maxSteps := 2000000) only [go_sem, Nat.reduceEqDiff, reduceCtorEq, Nat.reduceAdd, Nat.reduceLeDiff, t0, t3, t4]
      refine wp_lit (enc := encV) (k := 1) (l := [⟨u⟩]) rfl rfl ?_
      intro h7 w7 g7 n7 b7
      have x7 := x6.grow g7
      simp +contextual (maxSteps := 2000000) only [go_sem, Nat.reduceEqDiff, reduceCtorEq, Nat.reduceAdd, Nat.reduceLeDiff, t0, t3, t4]
      refine wp_appendD lenV x7.out (n7.sl lenV) (Nat.le_trans d6.st.n g7.n) (by simp; omega) ?_
      intro h8 s8 n8 st8 hb8
      obtain ⟨c8, rfl⟩ := n8.one
      have x8 := x7.push (z6.grow g7) sc n8 st8 hb8
      have d8 := (d6.grow g7).stay st8 (fun i hi => (x7.out.lt hi).2) hbn
      simp +contextual (maxSteps := 2000000) only [go_sem, Nat.reduceEqDiff, reduceCtorEq, Nat.reduceAdd, Nat.reduceLeDiff, t0, t3, t4]
      refine gcK_drew r d8 ⟨⟨c8, _, _, rfl, x8, ⟨by simp; omega, fun a ha => ?_⟩⟩, d8⟩
      rcases List.mem_append.1 ha with ha | ha
      · exact hl2 a ha
      · rw [List.mem_singleton.1 ha]; exact tm
    · have d := d5.more (show 216 + 1 ≤ 263 by omega)
      simp +contextual (maxSteps := 2000000) only [go_sem, Nat.reduceEqDiff, reduceCtorEq, Nat.reduceAdd, Nat.reduceLeDiff, t0, t3, t4, decide_eq_false e0]
      exact gcK_drew r d ⟨⟨w, rs, l, rfl, x5, ⟨by omega, hl2⟩⟩, d⟩
  · simp +contextual (maxSteps := 2000000) only [go_sem, Nat.reduceEqDiff, reduceCtorEq, Nat.reduceAdd, Nat.reduceLeDiff]
    exact ⟨⟨c1, [], [], rfl, x3, Nat.le_refl 0, fun a ha => by simp at ha⟩, rfl, d3⟩
/-! spec.setCall -/
def L84_0 : List AStep := [⟨.mov (.c (.sl none 0 (some 0))), (some 2), none, []⟩, ⟨.alloc 29 [(.sl none 0 (some 0)), (.sl none 0 (some 0))], (some 3), none, []⟩]
theorem v84_0 : VS L84_0.eq_1 := rfl
def L84_1 : List AStep := [⟨.mov (.t 7), (some 4), none, []⟩]
theorem v84_1 : VS L84_1.eq_1 := rfl
def L84_2 : List AStep := ⟨.mov (.t 0), (some 6), none, []⟩ :: ⟨.call 125 [(.t 6)], (some 7), none, []⟩ :: L84_1
theorem v84_2 : VS L84_2.eq_1 := rfl
def L84_3 : List AStep := [⟨.bin .gtr (.t 13) (.c (.int .i64 0)), (some 14), (some (11, true)), []⟩, ⟨.pick (.t 11) (.t 14) (.c (.bool false)), (some 15), none, []⟩]
theorem v84_3 : VS L84_3.eq_1 := rfl
def L84_4 : List AStep := ⟨.mov (.t 0), (some 12), (some (11, true)), []⟩ :: ⟨.call 92 [(.t 12), (.c (.int .i64 5))], (some 13), (some (11, true)), []⟩ :: L84_3
theorem v84_4 : VS L84_4.eq_1 := rfl
def L84_5 : List AStep := ⟨.bin .gtr (.t 9) (.c (.int .i64 0)), (some 10), none, []⟩ :: ⟨.mov (.t 10), (some 11), none, []⟩ :: L84_4
theorem v84_5 : VS L84_5.eq_1 := rfl
def L84_6 : List AStep := ⟨.mov (.t 4), (some 8), none, []⟩ :: ⟨.len (.t 8), (some 9), none, []⟩ :: L84_5
theorem v84_6 : VS L84_6.eq_1 := rfl
def L84_7 : List AStep := [⟨.store 1 (.t 5) (.t 22), none, none, []⟩]
theorem v84_7 : VS L84_7.eq_1 := rfl
def L84_8 : List AStep := ⟨.load 1 true (.t 21), (some 22), none, []⟩ :: ⟨.alloc 25 [(.sl none 0 (some 0))], (some 5), none, []⟩ :: L84_7
theorem v84_8 : VS L84_8.eq_1 := rfl
def L84_9 : List AStep := ⟨.call 92 [(.t 17), (.t 19)], (some 20), none, []⟩ :: ⟨.iaddr 1 (.t 16) (.t 20), (some 21), none, []⟩ :: L84_8
theorem v84_9 : VS L84_9.eq_1 := rfl
def L84_10 : List AStep := ⟨.mov (.t 4), (some 18), none, []⟩ :: ⟨.len (.t 18), (some 19), none, []⟩ :: L84_9
theorem v84_10 : VS L84_10.eq_1 := rfl
def L84_11 : List AStep := ⟨.mov (.t 4), (some 16), none, []⟩ :: ⟨.mov (.t 0), (some 17), none, []⟩ :: L84_10
theorem v84_11 : VS L84_11.eq_1 := rfl
def L84_12 : List AStep := [⟨.load 1 true (.t 5), (some 23), none, []⟩, ⟨.call 126 [(.t 23)], (some 24), none, []⟩]
theorem v84_12 : VS L84_12.eq_1 := rfl
def L84_13 : List AStep := [⟨.mov (.t 25), (some 2), none, []⟩, ⟨.store 2 (.t 3) (.t 28), none, none, []⟩]
theorem v84_13 : VS L84_13.eq_1 := rfl
def L84_14 : List AStep := ⟨.load 1 true (.t 5), (some 27), none, []⟩ :: ⟨.call 118 [(.t 26), (.t 27)], (some 28), none, []⟩ :: L84_13
theorem v84_14 : VS L84_14.eq_1 := rfl
def L84_15 : List AStep := ⟨.mov (.t 4), (some 25), none, []⟩ :: ⟨.mov (.t 0), (some 26), none, []⟩ :: L84_14
theorem v84_15 : VS L84_15.eq_1 := rfl
def L84_16 : List AStep := [⟨.store 2 (.t 3) (.t 31), none, none, []⟩]
theorem v84_16 : VS L84_16.eq_1 := rfl
def L84_17 : List AStep := ⟨.call 93 [(.t 30)], (some 31), none, []⟩ :: ⟨.mov (.t 29), (some 2), none, []⟩ :: L84_16
theorem v84_17 : VS L84_17.eq_1 := rfl
def L84_18 : List AStep := ⟨.mov (.t 4), (some 29), none, []⟩ :: ⟨.mov (.t 0), (some 30), none, []⟩ :: L84_17
theorem v84_18 : VS L84_18.eq_1 := rfl
def C84_0 : ACode := .seq (.reg L84_15) .ret
theorem u84_0 : VC C84_0.eq_1 := rfl
def C84_1 : ACode := .cond (.t 24) C84_0 .skip
theorem u84_1 : VC C84_1.eq_1 := rfl
def C84_2 : ACode := .seq (.reg L84_12) C84_1
theorem u84_2 : VC C84_2.eq_1 := rfl
def C84_3 : ACode := .seq (.reg L84_11) C84_2
theorem u84_3 : VC C84_3.eq_1 := rfl
def C84_4 : ACode := .cond (.t 15) C84_3 .skip
theorem u84_4 : VC C84_4.eq_1 := rfl
def C84_5 : ACode := .seq (.reg L84_6) C84_4
theorem u84_5 : VC C84_5.eq_1 := rfl
def C84_6 : ACode := .seq (.reg L84_18) .ret
theorem u84_6 : VC C84_6.eq_1 := rfl
def C84_7 : ACode := .seq C84_5 C84_6
theorem u84_7 : VC C84_7.eq_1 := rfl
def C84_8 : ACode := .seq (.reg L84_2) C84_7
theorem u84_8 : VC C84_8.eq_1 := rfl
def C84_9 : ACode := .seq (.reg L84_0) C84_8
theorem u84_9 : VC C84_9.eq_1 := rfl
def F84 : AFunc := ⟨32, [.tmp 2, .cell 3 2 true], C84_9⟩
theorem cF84 : compB Try.prog 84 = some F84 := by kernel_rfl
attribute [local go_sem ↓] u84_0 u84_1 u84_2 u84_3 u84_4 u84_5 u84_6 u84_7 u84_8 u84_9 v84_0 v84_1 v84_2 v84_3 v84_4 v84_5 v84_6 v84_7 v84_8 v84_9 v84_10 v84_11 v84_12 v84_13 v84_14 v84_15 v84_16 v84_17 v84_18
theorem c_setCall (b : Nat) (p : Int) (h : H) (r : Rd h b p) (hp : p ≤ 2 ^ 35) : callK (bm Try.prog 84 [.one (.ptr (some (b, 0)))] h) fun q h' => (∃ w u x l f, q = .tup [.one w, .agg [u, x]] ∧ SlV h' w l ∧ SlF h' u x f ∧ tinyV l ∧ miniF f) ∧ Drew b p 330 h h' := by
  refine bm_of cF84 ?_
  have hbn := r.lt
  simp +contextual (maxSteps := 2000000) only [go_sem, Nat.reduceEqDiff, reduceCtorEq, Nat.reduceAdd, Nat.reduceLeDiff, F84]
  refine wp_call (c_someSet b p h r (by omega)) ?_
  rintro q h1 ⟨⟨w, rs, l, rfl, x1, tv⟩, d1⟩
  obtain ⟨p1, hp1, hp2, r1⟩ := d1.ex
  have hlen := x1.len
  have hl6 := tv.len
  have wlen : lenO (.one w) = some (ii l.length) := by rw [x1.out.length, hlen]
  have other : ∀ {h5 : H} {p' : Int} {c : Nat}, SetW h h5 w rs l → Drew b p c h h5 → Rd h5 b p' → p < p' → p' ≤ p + (c : Int) → c ≤ 265 → callK (bm Try.prog 93 [.one (.ptr (some (b, 0)))] h5) fun q h' => ∃ u x f, q = .agg [u, x] ∧ SetW h h' w rs l ∧ SlF h' u x f ∧ miniF f ∧ Drew b p 330 h h' := fun xs d r h1 h2 h3 => by
    refine callK_mono (c_someFlat b _ _ r (by omega)) ?_
    rintro q h4 ⟨⟨u, x, f, rfl, z4, mf⟩, d4⟩
    exact ⟨u, x, f, rfl, xs.drew d4 hbn, z4.sl, mf, (d4.then d.st (by omega) h2).more (by omega)⟩
  cases c0 : decide ((l.length : Int) > 0) with
  | false =>
    simp +contextual (maxSteps := 2000000) only [go_sem, Nat.reduceEqDiff, reduceCtorEq, Nat.reduceAdd, Nat.reduceLeDiff, wlen, c0]
    refine wp_call (other x1 d1 r1 hp1 hp2 (by omega)) ?_
    rintro q h2 ⟨u, x, f, rfl, xs, zf, mf, d2⟩
    simp +contextual (maxSteps := 2000000) only [go_sem, Nat.reduceEqDiff, reduceCtorEq, Nat.reduceAdd, Nat.reduceLeDiff]
    exact gcK_drew r d2 ⟨⟨w, u, x, l, f, rfl, xs.sl, zf, tv, mf⟩, d2⟩
  | true =>
  have h0 : 0 < l.length := by have := of_decide_eq_true c0; omega
  simp +contextual (maxSteps := 2000000) only [go_sem, Nat.reduceEqDiff, reduceCtorEq, Nat.reduceAdd, Nat.reduceLeDiff, wlen, c0]
  refine wp_call (c_pick b 5 p1 h1 r1 (by omega)) ?_
  rintro q h2 ⟨⟨e, rfl, _, _⟩, d2⟩
  have x2 := x1.drew d2 hbn
  obtain ⟨p2, hq1, hq2, r2⟩ := d2.ex
  have d2 := d2.then d1.st (by omega) hp2
  by_cases e0 : e > 0
  · simp +contextual (maxSteps := 2000000) only [go_sem, Nat.reduceEqDiff, reduceCtorEq, Nat.reduceAdd, Nat.reduceLeDiff, decide_eq_true e0, wlen]
    refine wp_call (c_pick b l.length p2 h2 r2 (by omega)) ?_
    rintro q h3 ⟨⟨kk, rfl, kk0, kk1⟩, d3⟩
    obtain ⟨kk, rfl⟩ := Int.eq_ofNat_of_zero_le kk0
    have hkk : kk < rs.length := by omega
    have hkl : kk < l.length := by omega
    have x3 := x2.drew d3 hbn
    obtain ⟨p3, hs1, hs2, r3⟩ := d3.ex
    have d3 := d3.then d2.st (by omega) (show p2 ≤ p + ((263 + 1 : Nat) : Int) by omega)
    have zk := x3.el kk hkk
    rw [getV_eq hkl] at zk
    have tk := tv.el _ (List.getElem_mem hkl)
    have ewh : loadO 1 true h3 (.one (.ptr (some (elem 1 (.one w) kk)))) = some (.agg [rs[kk].qv]) := (x3.out.sl lenV).whole hkk
    have ev := c_validSignature l[kk].params rs[kk].qv h3 (zk.sl lenQ) tk.mini.sm
    have hx : baseOf (.one rs[kk].qv) ≠ some b := fun e => by have := (zk.lt e).2; omega
    cases eo : okSig l[kk].params with
    | true =>
      simp +contextual (maxSteps := 2000000) only [go_sem, Nat.reduceEqDiff, reduceCtorEq, Nat.reduceAdd, Nat.reduceLeDiff, x3.out.iaddr hkk, ewh, ev, eo]
      refine wp_call (c_callFor b p3 l[kk].params rs[kk].qv h3 r3 (by omega) (zk.sl lenQ) hx (okSig_len eo) tk.nm) ?_
      rintro q h4 ⟨⟨u, x, f, rfl, z4, y1, y2, y3⟩, d4⟩
      have x4 := x3.drew d4 hbn
      have d4 := (d4.then d3.st (by omega) (show p3 ≤ p + ((263 + 1 + 1 : Nat) : Int) by omega)).more (show 263 + 1 + 1 + 65 ≤ 330 by omega)
      simp +contextual (maxSteps := 2000000) only [go_sem, Nat.reduceEqDiff, reduceCtorEq, Nat.reduceAdd, Nat.reduceLeDiff]
      exact gcK_drew r d4 ⟨⟨w, u, x, l, f, rfl, x4.sl, z4.sl, tv, ⟨Nat.le_trans y1 (by decide), Nat.le_trans y2 (by decide), fun a ha => Nat.le_trans (y3 a ha) (by decide)⟩⟩, d4⟩
    | false =>
      simp +contextual (maxSteps := 2000000) only [go_sem, Nat.reduceEqDiff, reduceCtorEq, Nat.reduceAdd, Nat.reduceLeDiff, x3.out.iaddr hkk, ewh, ev, eo]
      refine wp_call (other x3 d3 r3 (by omega) (by omega) (by omega)) ?_
      rintro q h4 ⟨u, x, f, rfl, xs, zf, mf, d4⟩
      simp +contextual (maxSteps := 2000000) only [go_sem, Nat.reduceEqDiff, reduceCtorEq, Nat.reduceAdd, Nat.reduceLeDiff]
      exact gcK_drew r d4 ⟨⟨w, u, x, l, f, rfl, xs.sl, zf, tv, mf⟩, d4⟩
  · simp +contextual (maxSteps := 2000000) only [go_sem, Nat.reduceEqDiff, reduceCtorEq, Nat.reduceAdd, Nat.reduceLeDiff, decide_eq_false e0]
    refine wp_call (other x2 d2 r2 (by omega) (by omega) (by omega)) ?_
    rintro q h3 ⟨u, x, f, rfl, xs, zf, mf, d3⟩
    simp +contextual (maxSteps := 2000000) only [go_sem, Nat.reduceEqDiff, reduceCtorEq, Nat.reduceAdd, Nat.reduceLeDiff]
    exact gcK_drew r d3 ⟨⟨w, u, x, l, f, rfl, xs.sl, zf, tv, mf⟩, d3⟩
theorem SlV.scalar {h : H} {v : CV} {l : List Sg} (x : SlV h v l) (hs : v.scalar = true) (h2 : H) : SlV h2 v l := by
  obtain ⟨rs, y⟩ := x.ex
  have e : rs = [] := by
    cases hr : rs with
    | nil => rfl
    | cons a t =>
      obtain ⟨a, c, e, _⟩ := y.out.base (i := 0) (by simp [hr])
      have e := AV.one.inj e
      subst e
      simp [CV.scalar] at hs
  exact ⟨rs, y.out.scalar (by simpa [AV.scalar] using hs) h2, y.len, fun i hi => absurd hi (by simp [e])⟩
/-! spec.DrawAllOf -/
def L39_0 : List AStep := [⟨.mov (.c (.sl none 0 (some 0))), (some 2), none, []⟩, ⟨.alloc 29 [(.sl none 0 (some 0)), (.sl none 0 (some 0))], (some 3), none, []⟩]
theorem v39_0 : VS L39_0.eq_1 := rfl
def L39_1 : List AStep := [⟨.store 2 (.t 3) (.t 8), none, none, []⟩]
theorem v39_1 : VS L39_1.eq_1 := rfl
def L39_2 : List AStep := ⟨.extract (.t 6) 1, (some 8), none, []⟩ :: ⟨.mov (.t 7), (some 2), none, []⟩ :: L39_1
theorem v39_2 : VS L39_2.eq_1 := rfl
def L39_3 : List AStep := ⟨.call 84 [(.t 5)], (some 6), none, []⟩ :: ⟨.extract (.t 6) 0, (some 7), none, []⟩ :: L39_2
theorem v39_3 : VS L39_3.eq_1 := rfl
def L39_4 : List AStep := ⟨.mov (.t 0), (some 4), none, []⟩ :: ⟨.call 48 [(.t 4)], (some 5), none, []⟩ :: L39_3
theorem v39_4 : VS L39_4.eq_1 := rfl
def C39_0 : ACode := .seq (.reg L39_4) .ret
theorem u39_0 : VC C39_0.eq_1 := rfl
def C39_1 : ACode := .seq (.reg L39_0) C39_0
theorem u39_1 : VC C39_1.eq_1 := rfl
def F39 : AFunc := ⟨9, [.tmp 2, .cell 3 2 true], C39_1⟩
theorem cF39 : compB Try.prog 39 = some F39 := by kernel_rfl
attribute [local go_sem ↓] u39_0 u39_1 v39_0 v39_1 v39_2 v39_3 v39_4
theorem c_drawAllOf (code : List Int) (v : CV) (h : H) (hl : Sl encBy 1 5 h (.one v) code) (hc : ∀ x ∈ code, 0 ≤ x ∧ x ≤ 255) : callK (bm Try.prog 39 [.one v] h) fun q h' => Grow h h' ∧ ∃ w u x l f, q = .tup [.one w, .agg [u, x]] ∧ SlV h' w l ∧ SlF h' u x f ∧ tinyV l ∧ miniF f := by
  refine bm_of cF39 ?_
  simp +contextual (maxSteps := 2000000) only [go_sem, Nat.reduceEqDiff, reduceCtorEq, Nat.reduceAdd, Nat.reduceLeDiff, F39]
  refine wp_call (c_newReader code v h hl hc) ?_
  rintro q h1 ⟨g1, b, rfl, r1, hb⟩
  simp +contextual (maxSteps := 2000000) only [go_sem, Nat.reduceEqDiff, reduceCtorEq, Nat.reduceAdd, Nat.reduceLeDiff]
  refine wp_call (c_setCall b 0 h1 r1 (by decide)) ?_
  rintro q h2 ⟨⟨w, u, x, l, f, rfl, sv, sf, tv, mf⟩, d2⟩
  have G := d2.out g1 hb
  simp +contextual (maxSteps := 2000000) only [go_sem, Nat.reduceEqDiff, reduceCtorEq, Nat.reduceAdd, Nat.reduceLeDiff]
  exact gcK_of ⟨G, w, u, x, l, f, rfl, sv, sf, tv, mf⟩ (fun hs _ => by
    simp [AV.scalar, AV.scalars] at hs
    exact ⟨Grow.refl h, w, u, x, l, f, rfl, sv.scalar hs.1 h, ⟨sf.pl.scalar hs.2.1 h, sf.nl.scalar hs.2.2 h⟩, tv, mf⟩)
end Go.Proofs.Ytekkimfdcbgcoac.Am
