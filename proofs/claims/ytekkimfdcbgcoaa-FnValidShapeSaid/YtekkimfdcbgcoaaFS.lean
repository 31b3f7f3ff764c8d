/- Contracts: sorted flat calls, of both sides. -/
import Derived.Test.YtekkimfdcbgcoaaSG
import Derived.Test.YtekkimfdcbgcoaaSE
import Derived.Test.YtekkimfdcbgcoaaB2
namespace Go.Proofs.Ytekkimfdcbgcoaa.Am
open Go
set_option maxRecDepth 100000
set_option maxHeartbeats 4000000
set_option linter.unusedSimpArgs false
set_option linter.unusedVariables false
attribute [local go_sem ↓] bv_t bv_c ev_t ev_c put_same put_ne put_none kill_at pro_at lb_same lb_ne start_zero start_succ wpC_seq wpC_reg wpC_cond wpC_block wpC_skip wpC_exit wpC_ret thenQ_normal thenQ_exit thenQ_ret inBlk_normal inBlk_exit inBlk_ret wpS_nil wpS_step wpS_again wpS_guard wpO_mov wpO_load wpO_faddr wpO_nilCheck wpO_pick wpO_build wpO_bin wpO_eqb wpO_eqst wpO_eqnil wpO_not wpO_conv wpO_bytesStr wpO_iaddr wpO_idxStr wpO_field wpO_extract wpO_len wpO_lenStr wpO_cap wpO_min wpO_slice wpO_sliceStr wpO_alloc wpO_box wpO_store wpO_call wpO_callv wpO_mkfn wpO_buildSlice wpO_mkslice wpO_append wpO_appz proA_nil proA_cons tmpX_nil tmpX_tmp tmpX_cell doneB_normal doneB_ret agK_cons agK_nil agK_guard agG_tt agG_ff agG_tf agG_ft agG_undef pureB_load results_one results_two results_nil resBs_cons resBs_nil resB_tmp resB_cell
attribute [local go_sem] kill_v kill_lp_ne kill_lp_same pro_v pro_lp_same pro_lp_ne av_v av_lp optB_some optX_some valX_eq ldX_lp ldX_v faX_lp faX_v ncX_lp ncX_ptr ncX_fn boxK_one boxK_agg stL_some stK_lp_one stK_lp_agg stK_v_one stK_v_agg proM_v proM_lp callG_mk callVG_mk callvK_fn fnG_mk ptrsA_nil ptrsA_cons callH_some whenA_true whenA_false guardH_tt guardH_ff guardH_tf guardH_ft guardH_undef agV_one agV_agg lenO_sl lenStrO_str notO_bool pickO_bool convO_int eqbO_bool eqnilO_sl extractO_tup capO_sl minO_int loadL_one loadL_all storeL_eq fillA_nil fillA_one fillA_agg nat_ge neg_ge nat_lt neg_lt buildO bin_add bin_sub bin_mul bin_eql bin_neq bin_lss bin_leq bin_gtr bin_geq str_eql str_neq str_lss str_leq str_gtr str_geq retK_some endK_mk gcK_same gcK_int gcK_bool tupO_one tupO_agg rdy_self ib ii Option.map_none Option.map_some Option.some.injEq exists_eq_left' exists_eq_left ne_eq not_false_eq_true if_true if_false List.map_cons List.map_nil List.getElem?_cons_zero List.getElem?_cons_succ List.length_cons List.length_nil List.take_succ_cons List.take_zero List.take_nil List.drop_succ_cons List.drop_zero List.drop_nil List.cons_append List.nil_append List.append_nil List.set_cons_zero List.set_cons_succ Nat.zero_add forall_const true_and and_true and_self Bool.false_eq_true false_implies true_implies implies_true Bool.not_true Bool.not_false Bool.not_eq_true' Bool.not_eq_false' beq_self_eq_true Bool.bne_true Bool.bne_false
attribute [local go_sem] lenI lenS lenP lenQ lenB lenL lenT encI_0 encS_0 encP_0 encP_1 encQ_0 encQ_1 encQ_2 encQ_3 encB_0 encB_1 encL_0 encL_1 encT_0 encT_1
attribute [local go_sem low] whenA_bool guardH_bool
theorem cut_later {ty k : Nat} {h h1 : H} {v v' : AV} {lo hi mx : Option AV} (e : cutO ty k h v lo hi mx = some v') (hb : ∀ i, baseOf v = some i → i < h.n → i < h1.n ∧ (h1.f i).ty = (h.f i).ty) : cutO ty k h1 v lo hi mx = some v' := by
  unfold cutO at e ⊢
  simp only [pureA, AX.ev] at e ⊢
  split at e
  · exact e
  · rename_i a n c hv
    split at e
    · rename_i l h' m hm
      split at e
      · rename_i hc
        obtain ⟨h2, h3⟩ := hb a.1 (by
          have hv : v = .one (.sl (some a) n c) := hv
          rw [hv]; rfl) hc.1
        rw [if_pos ⟨h2, by rw [h3]; exact hc.2⟩]
        exact e
      · simp at e
    · simp at e
  · simp at e
theorem Sl.ltB {α : Type} {enc : α → List CV} {k ty : Nat} {h : H} {v : AV} {l : List α} (hs : Sl enc k ty h v l) {j : Nat} (hj : baseOf v = some j) : j < h.n := by
  obtain ⟨b, c, rfl, _⟩ := hs.form
  cases b with
  | none => simp [baseOf] at hj
  | some a =>
    simp [baseOf] at hj
    subst hj
    exact (hs.own a _ c rfl).1
theorem pureB_cut {T : Tb} {L : Lb} {h : H} {ty k : Nat} {x : AX} {lo hi mx : Option AX} : pureB (.slice ty k x lo hi mx) T L h = (cutO ty k h (x.ev T.av) (lo.map (·.ev T.av)) (hi.map (·.ev T.av)) (mx.map (·.ev T.av))).map .v := by
  rw [pureB_slice, cutO_eq]
theorem Sl.isOne {α : Type} {enc : α → List CV} {k ty : Nat} {h : H} {v : AV} {l : List α} (hs : Sl enc k ty h v l) : ∃ c, v = .one c := by
  obtain ⟨b, c, rfl, _⟩ := hs.form
  exact ⟨_, rfl⟩
theorem cut_stay {ty k : Nat} {h h1 : H} {s v v' : AV} {lo hi mx : Option AV} (e : cutO ty k h v lo hi mx = some v') (st : Stay s h h1) (hs : Sep v s) : cutO ty k h1 v lo hi mx = some v' :=
  cut_later e fun i hi hn => ⟨Nat.lt_of_lt_of_le hn st.n, by rw [st.f i hn (hs i hi)]⟩
/-! spec.sortedPairs -/
def L73_0 : List AStep := [⟨.mov (.c (.sl none 0 (some 0))), (some 2), none, []⟩]
theorem v73_0 : VS L73_0.eq_1 := rfl
def L73_1 : List AStep := [⟨.buildSlice 53 0 [(.str (strOfNums [])), (.int .i64 0)] [], (some 6), none, []⟩, ⟨.mov (.t 6), (some 3), none, []⟩]
theorem v73_1 : VS L73_1.eq_1 := rfl
def L73_2 : List AStep := [⟨.mov (.c (.int .i64 0)), (some 4), none, []⟩]
theorem v73_2 : VS L73_2.eq_1 := rfl
def L73_3 : List AStep := [⟨.len (.t 8), (some 9), none, []⟩, ⟨.bin .lss (.t 7) (.t 9), (some 10), none, []⟩]
theorem v73_3 : VS L73_3.eq_1 := rfl
def L73_4 : List AStep := ⟨.mov (.t 4), (some 7), none, []⟩ :: ⟨.mov (.t 0), (some 8), none, []⟩ :: L73_3
theorem v73_4 : VS L73_4.eq_1 := rfl
def L73_5 : List AStep := [⟨.mov (.c (.int .i64 0)), (some 5), none, []⟩]
theorem v73_5 : VS L73_5.eq_1 := rfl
def L73_6 : List AStep := [⟨.pick (.t 17) (.t 28) (.c (.bool false)), (some 29), none, []⟩]
theorem v73_6 : VS L73_6.eq_1 := rfl
def L73_7 : List AStep := ⟨.load 1 false (.t 26), (some 27), (some (17, true)), []⟩ :: ⟨.bin .lss (.t 22) (.t 27), (some 28), (some (17, true)), []⟩ :: L73_6
theorem v73_7 : VS L73_7.eq_1 := rfl
def L73_8 : List AStep := ⟨.iaddr 2 (.t 23) (.t 24), (some 25), (some (17, true)), []⟩ :: ⟨.faddr 0 (.t 25), (some 26), (some (17, true)), []⟩ :: L73_7
theorem v73_8 : VS L73_8.eq_1 := rfl
def L73_9 : List AStep := ⟨.mov (.t 0), (some 23), (some (17, true)), []⟩ :: ⟨.mov (.t 4), (some 24), (some (17, true)), []⟩ :: L73_8
theorem v73_9 : VS L73_9.eq_1 := rfl
def L73_10 : List AStep := ⟨.faddr 0 (.t 20), (some 21), (some (17, true)), []⟩ :: ⟨.load 1 false (.t 21), (some 22), (some (17, true)), []⟩ :: L73_9
theorem v73_10 : VS L73_10.eq_1 := rfl
def L73_11 : List AStep := ⟨.mov (.t 5), (some 19), (some (17, true)), []⟩ :: ⟨.iaddr 2 (.t 18) (.t 19), (some 20), (some (17, true)), []⟩ :: L73_10
theorem v73_11 : VS L73_11.eq_1 := rfl
def L73_12 : List AStep := ⟨.mov (.t 16), (some 17), none, []⟩ :: ⟨.mov (.t 3), (some 18), (some (17, true)), []⟩ :: L73_11
theorem v73_12 : VS L73_12.eq_1 := rfl
def L73_13 : List AStep := ⟨.len (.t 14), (some 15), none, []⟩ :: ⟨.bin .lss (.t 13) (.t 15), (some 16), none, []⟩ :: L73_12
theorem v73_13 : VS L73_13.eq_1 := rfl
def L73_14 : List AStep := ⟨.mov (.t 5), (some 13), none, []⟩ :: ⟨.mov (.t 3), (some 14), none, []⟩ :: L73_13
theorem v73_14 : VS L73_14.eq_1 := rfl
def L73_15 : List AStep := [⟨.mov (.t 31), (some 5), none, []⟩]
theorem v73_15 : VS L73_15.eq_1 := rfl
def L73_16 : List AStep := ⟨.mov (.t 5), (some 30), none, []⟩ :: ⟨.bin .add (.t 30) (.c (.int .i64 1)), (some 31), none, []⟩ :: L73_15
theorem v73_16 : VS L73_16.eq_1 := rfl
def L73_17 : List AStep := [⟨.append 53 2 24 (.t 42) (.t 45), (some 46), none, []⟩, ⟨.mov (.t 46), (some 3), none, []⟩]
theorem v73_17 : VS L73_17.eq_1 := rfl
def L73_18 : List AStep := ⟨.append 53 2 24 (.t 32) (.t 35), (some 36), none, [(.load 2 true (.t 39), (some 40), none), (.slice 53 2 (.t 43) (some (.t 44)) none none, (some 45), none)]⟩ :: ⟨.append 53 2 24 (.t 36) (.t 41), (some 42), none, [(.slice 53 2 (.t 43) (some (.t 44)) none none, (some 45), none)]⟩ :: L73_17
theorem v73_18 : VS L73_18.eq_1 := rfl
def L73_19 : List AStep := ⟨.mov (.t 5), (some 44), none, []⟩ :: ⟨.slice 53 2 (.t 43) (some (.t 44)) none none, (some 45), none, []⟩ :: L73_18
theorem v73_19 : VS L73_19.eq_1 := rfl
def L73_20 : List AStep := ⟨.buildSlice 53 1 [(.str (strOfNums [])), (.int .i64 0)] [(0, 2, (.t 40))], (some 41), none, []⟩ :: ⟨.mov (.t 3), (some 43), none, []⟩ :: L73_19
theorem v73_20 : VS L73_20.eq_1 := rfl
def L73_21 : List AStep := ⟨.iaddr 2 (.t 37) (.t 38), (some 39), none, []⟩ :: ⟨.load 2 true (.t 39), (some 40), none, []⟩ :: L73_20
theorem v73_21 : VS L73_21.eq_1 := rfl
def L73_22 : List AStep := ⟨.mov (.t 0), (some 37), none, []⟩ :: ⟨.mov (.t 4), (some 38), none, []⟩ :: L73_21
theorem v73_22 : VS L73_22.eq_1 := rfl
def L73_23 : List AStep := ⟨.mov (.t 5), (some 34), none, []⟩ :: ⟨.slice 53 2 (.t 33) none (some (.t 34)) none, (some 35), none, []⟩ :: L73_22
theorem v73_23 : VS L73_23.eq_1 := rfl
def L73_24 : List AStep := ⟨.buildSlice 53 0 [(.str (strOfNums [])), (.int .i64 0)] [], (some 32), none, []⟩ :: ⟨.mov (.t 3), (some 33), none, []⟩ :: L73_23
theorem v73_24 : VS L73_24.eq_1 := rfl
def L73_25 : List AStep := [⟨.mov (.t 12), (some 4), none, []⟩]
theorem v73_25 : VS L73_25.eq_1 := rfl
def L73_26 : List AStep := ⟨.mov (.t 4), (some 11), none, []⟩ :: ⟨.bin .add (.t 11) (.c (.int .i64 1)), (some 12), none, []⟩ :: L73_25
theorem v73_26 : VS L73_26.eq_1 := rfl
def L73_27 : List AStep := [⟨.mov (.t 3), (some 47), none, []⟩, ⟨.mov (.t 47), (some 2), none, []⟩]
theorem v73_27 : VS L73_27.eq_1 := rfl
def C73_0 : ACode := .cond (.t 10) .skip (.exit 0)
theorem u73_0 : VC C73_0.eq_1 := rfl
def C73_1 : ACode := .seq (.reg L73_4) C73_0
theorem u73_1 : VC C73_1.eq_1 := rfl
def C73_2 : ACode := .cond (.t 29) .skip (.exit 2)
theorem u73_2 : VC C73_2.eq_1 := rfl
def C73_3 : ACode := .seq (.reg L73_14) C73_2
theorem u73_3 : VC C73_3.eq_1 := rfl
def C73_4 : ACode := .block 3 (.reg L73_16)
theorem u73_4 : VC C73_4.eq_1 := rfl
def C73_5 : ACode := .seq C73_3 C73_4
theorem u73_5 : VC C73_5.eq_1 := rfl
def C73_6 : ACode := .block 2 (.loop C73_5)
theorem u73_6 : VC C73_6.eq_1 := rfl
def C73_7 : ACode := .seq C73_6 (.reg L73_24)
theorem u73_7 : VC C73_7.eq_1 := rfl
def C73_8 : ACode := .seq (.reg L73_5) C73_7
theorem u73_8 : VC C73_8.eq_1 := rfl
def C73_9 : ACode := .block 1 C73_8
theorem u73_9 : VC C73_9.eq_1 := rfl
def C73_10 : ACode := .seq C73_9 (.reg L73_26)
theorem u73_10 : VC C73_10.eq_1 := rfl
def C73_11 : ACode := .seq C73_1 C73_10
theorem u73_11 : VC C73_11.eq_1 := rfl
def C73_12 : ACode := .block 0 (.loop C73_11)
theorem u73_12 : VC C73_12.eq_1 := rfl
def C73_13 : ACode := .seq (.reg L73_2) C73_12
theorem u73_13 : VC C73_13.eq_1 := rfl
def C73_14 : ACode := .seq (.reg L73_27) .ret
theorem u73_14 : VC C73_14.eq_1 := rfl
def C73_15 : ACode := .seq C73_13 C73_14
theorem u73_15 : VC C73_15.eq_1 := rfl
def C73_16 : ACode := .seq (.reg L73_1) C73_15
theorem u73_16 : VC C73_16.eq_1 := rfl
def C73_17 : ACode := .seq (.reg L73_0) C73_16
theorem u73_17 : VC C73_17.eq_1 := rfl
def F73 : AFunc := ⟨48, [.tmp 2], C73_17⟩
theorem cF73 : compB Try.prog 73 = some F73 := by kernel_rfl
attribute [local go_sem ↓] u73_0 u73_1 u73_2 u73_3 u73_4 u73_5 u73_6 u73_7 u73_8 u73_9 u73_10 u73_11 u73_12 u73_13 u73_14 u73_15 u73_16 u73_17 v73_0 v73_1 v73_2 v73_3 v73_4 v73_5 v73_6 v73_7 v73_8 v73_9 v73_10 v73_11 v73_12 v73_13 v73_14 v73_15 v73_16 v73_17 v73_18 v73_19 v73_20 v73_21 v73_22 v73_23 v73_24 v73_25 v73_26 v73_27
theorem c_sortedPairs (l : List Pair) (v : AV) (h : H) (hl : SlP h v l) (hn : l.length ≤ 100) : callK (bm Try.prog 73 [v] h) fun r h' => Grow h h' ∧ NwP h h' r (insAll l l.length) := by
  refine bm_of cF73 ?_
  simp +contextual (maxSteps := 2000000) only [go_sem, Nat.reduceEqDiff, reduceCtorEq, Nat.reduceAdd, Nat.reduceLeDiff, F73]
  refine wp_lit (enc := encP) (k := 2) (l := []) rfl rfl ?_
  intro h1 w1 g1 n1 b1
  simp +contextual (maxSteps := 2000000) only [go_sem, Nat.reduceEqDiff, reduceCtorEq, Nat.reduceAdd, Nat.reduceLeDiff]
  refine wpC_loop (fun i T L h' => Grow h h' ∧ T 0 = .v v ∧ (∃ s, T 3 = .v s ∧ NwP h h' s (insAll l i)) ∧ T 4 = .v (.one (.int .i64 i))) l.length ?_ ?_ (Nat.zero_le _) ?_
  · rintro i T L h' hi ⟨g, t0, ⟨s, t3, ns⟩, t4⟩
    have hl' := hl.grow g
    have hil := insAll_len (l := l) (i := i) (by omega)
    have hle := insAt_le (out := insAll l i) (p := l[i])
    simp +contextual (maxSteps := 2000000) only [go_sem, Nat.reduceEqDiff, reduceCtorEq, Nat.reduceAdd, Nat.reduceLeDiff, t0, t3, t4, hl'.len, lt_true hi]
    refine wpC_loop (fun k T L h2 => h2 = h' ∧ T 0 = .v v ∧ T 3 = .v s ∧ T 4 = .v (.one (.int .i64 i)) ∧ T 5 = .v (.one (.int .i64 k))) (insAt (insAll l i) l[i]) ?_ ?_ (Nat.zero_le _) ?_
    · rintro k T L h2 hk ⟨rfl, t0, t3, t4, t5⟩
      have hkl : k < (insAll l i).length := by omega
      have e1 : sLess (insAll l i)[k].name l[i].name = true := insAt_below _ (by rw [List.mem_take_iff_getElem]; exact ⟨k, by omega, rfl⟩)
      have sl := ns.sl lenP
      simp +contextual (maxSteps := 2000000) only [go_sem, Nat.reduceEqDiff, reduceCtorEq, Nat.reduceAdd, Nat.reduceLeDiff, t0, t3, t4, t5, sl.len, hl'.len, lt_true hkl, sl.iaddr hkl, hl'.iaddr hi, sl.fieldO hkl, hl'.fieldO hi, e1]
      rw [wrap_next hkl (by omega)]
    · rintro T L h2 ⟨rfl, t0, t3, t4, t5⟩
      have sl := ns.sl lenP
      obtain ⟨p1, ep1, sp1⟩ := sl.takeO hle (kd := .i64)
      obtain ⟨p2, ep2, sp2⟩ := sl.dropO hle (kd := .i64)
      obtain ⟨p1, rfl⟩ := sp1.isOne
      obtain ⟨p2, rfl⟩ := sp2.isOne
      have hcase : insAt (insAll l i) l[i] = (insAll l i).length ∨ ∃ hk : insAt (insAll l i) l[i] < (insAll l i).length, sLess (insAll l i)[insAt (insAll l i) l[i]].name l[i].name = false := by
        by_cases e : insAt (insAll l i) l[i] < (insAll l i).length
        · exact .inr ⟨e, insAt_stop e⟩
        · exact .inl (by omega)
      rcases hcase with e1 | ⟨hk, e1⟩
      case' inl => have e2 : decide (((insAt (insAll l i) l[i] : Nat) : Int) < ((insAll l i).length : Int)) = false := decide_eq_false (by omega)
      case' inl => simp +contextual (maxSteps := 2000000) only [go_sem, Nat.reduceEqDiff, reduceCtorEq, Nat.reduceAdd, Nat.reduceLeDiff, t0, t3, t4, t5, sl.len, hl'.len, e2]
      case' inr => simp +contextual (maxSteps := 2000000) only [go_sem, Nat.reduceEqDiff, reduceCtorEq, Nat.reduceAdd, Nat.reduceLeDiff, t0, t3, t4, t5, sl.len, hl'.len, lt_true hk, sl.iaddr hk, hl'.iaddr hi, sl.fieldO hk, hl'.fieldO hi, e1]
      all_goals
        refine wp_lit (enc := encP) (k := 2) (l := []) rfl rfl ?_
        intro h3 w3 g3 n3 b3
        have sl3 := sl.grow g3
        have hl3 := hl'.grow g3
        have ep1' := cut_stay ep1 (g3.stay (.tup [])) (fun i hi h => by simp [baseOf] at h)
        simp +contextual (maxSteps := 2000000) only [go_sem, Nat.reduceEqDiff, reduceCtorEq, Nat.reduceAdd, Nat.reduceLeDiff, t0, t3, t4, t5, ep1', hl3.iaddr hi, hl3.whole hi]
        refine wp_lit (enc := encP) (k := 2) (l := [l[i]]) rfl rfl ?_
        intro h4 w4 g4 n4 b4
        have g34 := g3.trans g4
        have ep2' := cut_stay ep2 (g34.stay (.tup [])) (fun i hi h => by simp [baseOf] at h)
        simp +contextual (maxSteps := 2000000) only [go_sem, Nat.reduceEqDiff, reduceCtorEq, Nat.reduceAdd, Nat.reduceLeDiff, t0, t3, t4, t5, ep2']
        refine wp_append lenP (n3.grow g4) ((sp1.grow g3).grow g4) g34 (by simp; omega) ?_
        intro h5 s5 g5 n5 st5 hb5
        have sep5 : ∀ {w : AV}, (∀ j, baseOf w = some j → j < h2.n) → Sep w w3 := fun hw j hj e => by have := hw j hj; have := b3 j e; omega
        have hbs : ∀ j, baseOf s = some j → j < h2.n := fun j hj => (ns.lt hj).1
        have hbv : ∀ j, baseOf v = some j → j < h2.n := fun j hj => hl'.ltB hj
        have ep25 := cut_stay ep2' st5 (sep5 hbs)
        have hl5 := (hl3.grow g4).of_stay st5 (fun j hj e => by have := hbv j hj; have := b3 j e; omega)
        simp +contextual (maxSteps := 2000000) only [go_sem, Nat.reduceEqDiff, reduceCtorEq, Nat.reduceAdd, Nat.reduceLeDiff, t0, t3, t4, t5, ↓pureB_cut, ep25, hl5.iaddr hi, hl5.whole hi]
        refine wp_append lenP n5 (((n4.sl lenP).of_stay st5 fun j hj e => by have := b4 j hj; have := n3.lt e; omega)) g5 (by simp; omega) ?_
        intro h6 s6 g6 n6 st6 hb6
        have sep6 : ∀ {w : AV}, (∀ j, baseOf w = some j → j < h2.n) → Sep w s5 := fun hw j hj e => by have := hw j hj; have := (n5.lt e).2; omega
        have ep26 := cut_stay ep25 st6 (sep6 hbs)
        simp +contextual (maxSteps := 2000000) only [go_sem, Nat.reduceEqDiff, reduceCtorEq, Nat.reduceAdd, Nat.reduceLeDiff, t0, t3, t4, t5, ↓pureB_cut, ep26]
        have sq := ((sp2.grow g3).grow g4).of_stay st5 (sep5 fun j hj => sp2.ltB hj)
        refine wp_append lenP n6 (sq.of_stay st6 (sep6 fun j hj => sp2.ltB hj)) g6 (by simp; omega) ?_
        intro h7 s7 g7 n7 st7 hb7
        simp +contextual (maxSteps := 2000000) only [go_sem, Nat.reduceEqDiff, reduceCtorEq, Nat.reduceAdd, Nat.reduceLeDiff, t0, t3, t4, t5]
        exact ⟨g.trans g7, ⟨s7, rfl, by rw [insAll_next hi]; exact n7.from g.n⟩, by rw [wrap_next hi (by omega)]⟩
    · simp +contextual (maxSteps := 2000000) only [go_sem, Nat.reduceEqDiff, reduceCtorEq, Nat.reduceAdd, Nat.reduceLeDiff, t0, t3, t4]
      rfl
  · rintro T L h' ⟨g, t0, ⟨s, t3, ns⟩, t4⟩
    simp +contextual (maxSteps := 2000000) only [go_sem, Nat.reduceEqDiff, reduceCtorEq, Nat.reduceAdd, Nat.reduceLeDiff, t0, t3, t4, (hl.grow g).len, lt_false]
    exact gcK_of ⟨g, ns⟩ (fun hs _ => ⟨Grow.refl h, ns.scalar hs h⟩)
  · simp +contextual (maxSteps := 2000000) only [go_sem, Nat.reduceEqDiff, reduceCtorEq, Nat.reduceAdd, Nat.reduceLeDiff]
    exact ⟨g1, ⟨w1, rfl, n1⟩, rfl⟩
/-! impl.SortFlat -/
def L23_0 : List AStep := [⟨.box 27 (.t 0), (some 1), none, []⟩, ⟨.alloc 27 [(.sl none 0 (some 0)), (.sl none 0 (some 0))], (some 2), none, []⟩]
theorem v23_0 : VS L23_0.eq_1 := rfl
def L23_1 : List AStep := [⟨.not (.t 4), (some 5), none, []⟩]
theorem v23_1 : VS L23_1.eq_1 := rfl
def L23_2 : List AStep := ⟨.load 2 true (.t 1), (some 3), none, []⟩ :: ⟨.call 17 [(.t 3)], (some 4), none, []⟩ :: L23_1
theorem v23_2 : VS L23_2.eq_1 := rfl
def L23_3 : List AStep := [⟨.build [(.sl none 0 (some 0)), (.sl none 0 (some 0))] [], (some 6), none, []⟩, ⟨.store 2 (.t 2) (.t 6), none, none, []⟩]
theorem v23_3 : VS L23_3.eq_1 := rfl
def L23_4 : List AStep := [⟨.build [(.sl none 0 (some 0)), (.sl none 0 (some 0))] [(0, 1, (.t 9)), (1, 1, (.t 12))], (some 13), none, []⟩, ⟨.store 2 (.t 2) (.t 13), none, none, []⟩]
theorem v23_4 : VS L23_4.eq_1 := rfl
def L23_5 : List AStep := ⟨.call 71 [(.t 8)], (some 9), none, [(.load 1 false (.t 10), (some 11), none)]⟩ :: ⟨.call 72 [(.t 11)], (some 12), none, []⟩ :: L23_4
theorem v23_5 : VS L23_5.eq_1 := rfl
def L23_6 : List AStep := ⟨.faddr 1 (.t 1), (some 10), none, []⟩ :: ⟨.load 1 false (.t 10), (some 11), none, []⟩ :: L23_5
theorem v23_6 : VS L23_6.eq_1 := rfl
def L23_7 : List AStep := ⟨.faddr 0 (.t 1), (some 7), none, []⟩ :: ⟨.load 1 false (.t 7), (some 8), none, []⟩ :: L23_6
theorem v23_7 : VS L23_7.eq_1 := rfl
def C23_0 : ACode := .seq (.reg L23_3) .ret
theorem u23_0 : VC C23_0.eq_1 := rfl
def C23_1 : ACode := .cond (.t 5) C23_0 .skip
theorem u23_1 : VC C23_1.eq_1 := rfl
def C23_2 : ACode := .seq (.reg L23_2) C23_1
theorem u23_2 : VC C23_2.eq_1 := rfl
def C23_3 : ACode := .seq (.reg L23_7) .ret
theorem u23_3 : VC C23_3.eq_1 := rfl
def C23_4 : ACode := .seq C23_2 C23_3
theorem u23_4 : VC C23_4.eq_1 := rfl
def C23_5 : ACode := .seq (.reg L23_0) C23_4
theorem u23_5 : VC C23_5.eq_1 := rfl
def F23 : AFunc := ⟨14, [.cell 2 2 true], C23_5⟩
theorem cF23 : compB Try.prog 23 = some F23 := by kernel_rfl
attribute [local go_sem ↓] u23_0 u23_1 u23_2 u23_3 u23_4 u23_5 v23_0 v23_1 v23_2 v23_3 v23_4 v23_5 v23_6 v23_7
theorem k_iSortFlat (f : Flat) (p n : CV) (h : H) (hf : SlF h p n f) (hm : miniF f) : callK (bm Try.prog 23 [.agg [p, n]] h) fun r h' => Grow h h' ∧ ∃ p' n', r = .agg [p', n'] ∧ NwF h h' p' n' (sortF f) := by
  refine bm_of cF23 ?_
  cases b : okFlat f with
  | false =>
    rw [show sortF f = ⟨[], []⟩ by unfold sortF; rw [b]; rfl]
    simp +contextual (maxSteps := 2000000) only [go_sem, Nat.reduceEqDiff, reduceCtorEq, Nat.reduceAdd, Nat.reduceLeDiff, F23, c_ValidFlat _ _ _ _ hf.pl hf.nl hm.sm, b]
    exact ⟨Grow.refl h, _, _, rfl, NwF.nil⟩
  | true =>
    have h8 := (okFlat_sm b).2.1
    rw [sortF_ok b]
    simp +contextual (maxSteps := 2000000) only [go_sem, Nat.reduceEqDiff, reduceCtorEq, Nat.reduceAdd, Nat.reduceLeDiff, F23, c_ValidFlat _ _ _ _ hf.pl hf.nl hm.sm, b]
    refine wp_call (c_cloneI f.pl (.one p) h hf.pl hm.sm.pl) ?_
    rintro r h1 ⟨g1, n1⟩
    obtain ⟨c1, rfl⟩ := n1.one
    simp +contextual (maxSteps := 2000000) only [go_sem, Nat.reduceEqDiff, reduceCtorEq, Nat.reduceAdd, Nat.reduceLeDiff]
    refine wp_call (k_byName f.nl (.one n) h1 (hf.nl.grow g1) (by omega)) ?_
    rintro r h2 ⟨g2, n2⟩
    obtain ⟨c2, rfl⟩ := n2.one
    simp +contextual (maxSteps := 2000000) only [go_sem, Nat.reduceEqDiff, reduceCtorEq, Nat.reduceAdd, Nat.reduceLeDiff]
    have y : NwF h h2 c1 c2 ⟨f.pl, isort ltP f.nl⟩ := ⟨n1.grow g2, n2.from g1.n, n1.apart n2⟩
    exact gcK_of ⟨g1.trans g2, _, _, rfl, y⟩ (fun hs _ => ⟨Grow.refl h, _, _, rfl, y.scalar hs h⟩)
/-! spec.SortFlat -/
def L24_0 : List AStep := [⟨.box 27 (.t 0), (some 1), none, []⟩, ⟨.alloc 27 [(.sl none 0 (some 0)), (.sl none 0 (some 0))], (some 2), none, []⟩]
theorem v24_0 : VS L24_0.eq_1 := rfl
def L24_1 : List AStep := [⟨.not (.t 4), (some 5), none, []⟩]
theorem v24_1 : VS L24_1.eq_1 := rfl
def L24_2 : List AStep := ⟨.load 2 true (.t 1), (some 3), none, []⟩ :: ⟨.call 58 [(.t 3)], (some 4), none, []⟩ :: L24_1
theorem v24_2 : VS L24_2.eq_1 := rfl
def L24_3 : List AStep := [⟨.build [(.sl none 0 (some 0)), (.sl none 0 (some 0))] [], (some 6), none, []⟩, ⟨.store 2 (.t 2) (.t 6), none, none, []⟩]
theorem v24_3 : VS L24_3.eq_1 := rfl
def L24_4 : List AStep := [⟨.store 2 (.t 2) (.t 14), none, none, []⟩]
theorem v24_4 : VS L24_4.eq_1 := rfl
def L24_5 : List AStep := ⟨.call 73 [(.t 12)], (some 13), none, []⟩ :: ⟨.build [(.sl none 0 (some 0)), (.sl none 0 (some 0))] [(0, 1, (.t 10)), (1, 1, (.t 13))], (some 14), none, []⟩ :: L24_4
theorem v24_5 : VS L24_5.eq_1 := rfl
def L24_6 : List AStep := ⟨.load 1 false (.t 11), (some 12), none, []⟩ :: ⟨.append 3 1 8 (.t 7) (.t 9), (some 10), none, [(.load 1 false (.t 11), (some 12), none)]⟩ :: L24_5
theorem v24_6 : VS L24_6.eq_1 := rfl
def L24_7 : List AStep := ⟨.load 1 false (.t 8), (some 9), none, []⟩ :: ⟨.faddr 1 (.t 1), (some 11), none, []⟩ :: L24_6
theorem v24_7 : VS L24_7.eq_1 := rfl
def L24_8 : List AStep := ⟨.buildSlice 3 0 [(.int .i64 0)] [], (some 7), none, []⟩ :: ⟨.faddr 0 (.t 1), (some 8), none, []⟩ :: L24_7
theorem v24_8 : VS L24_8.eq_1 := rfl
def C24_0 : ACode := .seq (.reg L24_3) .ret
theorem u24_0 : VC C24_0.eq_1 := rfl
def C24_1 : ACode := .cond (.t 5) C24_0 .skip
theorem u24_1 : VC C24_1.eq_1 := rfl
def C24_2 : ACode := .seq (.reg L24_2) C24_1
theorem u24_2 : VC C24_2.eq_1 := rfl
def C24_3 : ACode := .seq (.reg L24_8) .ret
theorem u24_3 : VC C24_3.eq_1 := rfl
def C24_4 : ACode := .seq C24_2 C24_3
theorem u24_4 : VC C24_4.eq_1 := rfl
def C24_5 : ACode := .seq (.reg L24_0) C24_4
theorem u24_5 : VC C24_5.eq_1 := rfl
def F24 : AFunc := ⟨15, [.cell 2 2 true], C24_5⟩
theorem cF24 : compB Try.prog 24 = some F24 := by kernel_rfl
attribute [local go_sem ↓] u24_0 u24_1 u24_2 u24_3 u24_4 u24_5 v24_0 v24_1 v24_2 v24_3 v24_4 v24_5 v24_6 v24_7 v24_8
theorem k_sSortFlat (f : Flat) (p n : CV) (h : H) (hf : SlF h p n f) (hm : miniF f) : callK (bm Try.prog 24 [.agg [p, n]] h) fun r h' => Grow h h' ∧ ∃ p' n', r = .agg [p', n'] ∧ NwF h h' p' n' (sortF f) := by
  refine bm_of cF24 ?_
  cases b : okFlat f with
  | false =>
    rw [show sortF f = ⟨[], []⟩ by unfold sortF; rw [b]; rfl]
    simp +contextual (maxSteps := 2000000) only [go_sem, Nat.reduceEqDiff, reduceCtorEq, Nat.reduceAdd, Nat.reduceLeDiff, F24, c_validFlat _ _ _ _ hf.pl hf.nl hm.sm, b]
    exact ⟨Grow.refl h, _, _, rfl, NwF.nil⟩
  | true =>
    obtain ⟨h8, h9, _⟩ := okFlat_sm b
    rw [sortF_ok b]
    simp +contextual (maxSteps := 2000000) only [go_sem, Nat.reduceEqDiff, reduceCtorEq, Nat.reduceAdd, Nat.reduceLeDiff, F24, c_validFlat _ _ _ _ hf.pl hf.nl hm.sm, b]
    refine wp_lit (enc := encI) (k := 1) (l := []) rfl rfl ?_
    intro h1 w1 g1 n1 b1
    simp +contextual (maxSteps := 2000000) only [go_sem, Nat.reduceEqDiff, reduceCtorEq, Nat.reduceAdd, Nat.reduceLeDiff]
    refine wp_append lenI n1 (hf.pl.grow g1) g1 (by simp; omega) ?_
    intro h2 s2 g2 n2 st2 hb2
    obtain ⟨c2, rfl⟩ := n2.one
    have hl2 := (hf.nl.grow g1).of_stay st2 (fun j hj e => by have := hf.nl.ltB hj; have := b1 j e; omega)
    simp +contextual (maxSteps := 2000000) only [go_sem, Nat.reduceEqDiff, reduceCtorEq, Nat.reduceAdd, Nat.reduceLeDiff]
    refine wp_call (c_sortedPairs f.nl (.one n) h2 hl2 (by omega)) ?_
    rintro r h3 ⟨g3, n3⟩
    obtain ⟨c3, rfl⟩ := n3.one
    rw [insAll_eq (okFlat_apart b)] at n3
    simp +contextual (maxSteps := 2000000) only [go_sem, Nat.reduceEqDiff, reduceCtorEq, Nat.reduceAdd, Nat.reduceLeDiff]
    have y : NwF h h3 c2 c3 ⟨f.pl, isort ltP f.nl⟩ := ⟨n2.grow g3, n3.from g2.n, n2.apart n3⟩
    exact gcK_of ⟨g2.trans g3, _, _, rfl, y⟩ (fun hs _ => ⟨Grow.refl h, _, _, rfl, y.scalar hs h⟩)
end Go.Proofs.Ytekkimfdcbgcoaa.Am
