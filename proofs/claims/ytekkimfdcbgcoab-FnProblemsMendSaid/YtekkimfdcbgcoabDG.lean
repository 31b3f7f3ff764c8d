/- Contracts: what is drawn: numbers, names, flat calls. -/
import Derived.Test.YtekkimfdcbgcoabDR
import Derived.Test.YtekkimfdcbgcoabB2
import Derived.Test.YtekkimfdcbgcoabBY
namespace Go.Proofs.Ytekkimfdcbgcoab.Am
open Go
set_option maxRecDepth 100000
set_option maxHeartbeats 4000000
set_option linter.unusedSimpArgs false
set_option linter.unusedVariables false
attribute [local go_sem ↓] bv_t bv_c ev_t ev_c put_same put_ne put_none kill_at pro_at lb_same lb_ne start_zero start_succ wpC_seq wpC_reg wpC_cond wpC_block wpC_skip wpC_exit wpC_ret thenQ_normal thenQ_exit thenQ_ret inBlk_normal inBlk_exit inBlk_ret wpS_nil wpS_step wpS_again wpS_guard wpO_mov wpO_load wpO_faddr wpO_nilCheck wpO_pick wpO_build wpO_bin wpO_eqb wpO_eqst wpO_eqnil wpO_not wpO_conv wpO_bytesStr wpO_iaddr wpO_idxStr wpO_field wpO_extract wpO_len wpO_lenStr wpO_cap wpO_min wpO_slice wpO_sliceStr wpO_alloc wpO_box wpO_store wpO_call wpO_callv wpO_mkfn wpO_buildSlice wpO_mkslice wpO_append wpO_appz proA_nil proA_cons tmpX_nil tmpX_tmp tmpX_cell doneB_normal doneB_ret agK_cons agK_nil agK_guard agG_tt agG_ff agG_tf agG_ft agG_undef pureB_load results_one results_two results_nil resBs_cons resBs_nil resB_tmp resB_cell
attribute [local go_sem] kill_v kill_lp_ne kill_lp_same pro_v pro_lp_same pro_lp_ne av_v av_lp optB_some optX_some valX_eq ldX_lp ldX_v faX_lp faX_v ncX_lp ncX_ptr ncX_fn boxK_one boxK_agg stL_some stK_lp_one stK_lp_agg stK_v_one stK_v_agg proM_v proM_lp callG_mk callVG_mk callvK_fn fnG_mk ptrsA_nil ptrsA_cons callH_some whenA_true whenA_false guardH_tt guardH_ff guardH_tf guardH_ft guardH_undef agV_one agV_agg lenO_sl lenStrO_str notO_bool pickO_bool convO_int eqbO_bool eqnilO_sl extractO_tup capO_sl minO_int loadL_one loadL_all storeL_eq fillA_nil fillA_one fillA_agg nat_ge neg_ge nat_lt neg_lt buildO bin_add bin_sub bin_mul bin_eql bin_neq bin_lss bin_leq bin_gtr bin_geq str_eql str_neq str_lss str_leq str_gtr str_geq retK_some endK_mk gcK_same gcK_int gcK_bool tupO_one tupO_agg rdy_self ib ii Option.map_none Option.map_some Option.some.injEq exists_eq_left' exists_eq_left ne_eq not_false_eq_true if_true if_false List.map_cons List.map_nil List.getElem?_cons_zero List.getElem?_cons_succ List.length_cons List.length_nil List.take_succ_cons List.take_zero List.take_nil List.drop_succ_cons List.drop_zero List.drop_nil List.cons_append List.nil_append List.append_nil List.set_cons_zero List.set_cons_succ Nat.zero_add forall_const true_and and_true and_self Bool.false_eq_true false_implies true_implies implies_true Bool.not_true Bool.not_false Bool.not_eq_true' Bool.not_eq_false' beq_self_eq_true Bool.bne_true Bool.bne_false
attribute [local go_sem] lenI lenS lenP lenQ lenB lenL lenT encI_0 encS_0 encP_0 encP_1 encQ_0 encQ_1 encQ_2 encQ_3 encB_0 encB_1 encL_0 encL_1 encT_0 encT_1
attribute [local go_sem low] whenA_bool guardH_bool
def H.cut (h : H) (n : Nat) : H := ⟨n, h.f⟩
theorem H.cut_grow {h : H} {n : Nat} (hn : n ≤ h.n) : Grow (h.cut n) h := ⟨hn, fun _ _ => rfl⟩
def pR (b : Nat) : AV := .one (.ptr (some (b, 0)))
theorem Drew.pre {h h1 h2 : H} {b c : Nat} {p : Int} (d : Drew b p c h1 h2) (g : Grow h h1) : Drew b p c h h2 := ⟨(g.stay _).trans d.st, d.ex⟩
theorem Nw.drew {α : Type} {enc : α → List CV} {k ty b c : Nat} {p : Int} {h0 h1 h2 : H} {v : AV} {l : List α} (z : Nw enc k ty h0 h1 v l) (d : Drew b p c h1 h2) (hb : b < h0.n) : Nw enc k ty h0 h2 v l :=
  z.stay d.st fun i hi e => by have := (z.lt hi).2; simp [bR, baseOf] at e; omega
theorem NwF.drew {b c : Nat} {p : Int} {h0 h1 h2 : H} {x y : CV} {f : Flat} (z : NwF h0 h1 x y f) (d : Drew b p c h1 h2) (hb : b < h0.n) : NwF h0 h2 x y f := ⟨z.pl.drew d hb, z.nl.drew d hb, z.sep⟩
theorem wp_appendD {α : Type} {enc : α → List CV} {k ty b : Nat} {T : Tb} {L : Lb} {K : Post} {h0 h : H} {s x : AV} {l m : List α} {d : Option Nat} (he : ∀ x, (enc x).length = k) (hs : Nw enc k ty h0 h s l) (hx : Sl enc k ty h x m) (hn : h0.n ≤ h.n) (hb : (l.length + m.length) * b ≤ 140737488355328)
    (hk : ∀ h1 s', Nw enc k ty h0 h1 s' (l ++ m) → Stay s h h1 → (∀ i, baseOf s' = some i → baseOf s = some i ∨ h.n ≤ i) → K (T.put d (.v s')) L (rdy h1)) : apK ty k b s x d T L h K :=
  wp_append he (hs.from (h0 := h.cut h0.n) (Nat.le_refl _)) hx (H.cut_grow hn) hb fun h1 s' _ n st hb4 => hk h1 s' (n.from (h0 := h0) (Nat.le_refl _)) st hb4
theorem putP_in {l : List Pair} {x y : Pair} (h : y ∈ putP l x) : y ∈ l ∨ y = x := by
  unfold putP at h
  split at h
  · rcases List.mem_or_eq_of_mem_set h with e | e
    · exact .inl e
    · exact .inr e
  · rcases List.mem_append.1 h with e | e
    · exact .inl e
    · exact .inr (by simpa using e)
theorem putP_short {l : List Pair} {x : Pair} : (putP l x).length ≤ l.length + 1 := by
  unfold putP
  split
  · simp
  · simp
/-- Small: what is drawn. -/
structure tinyF (f : Flat) : Prop where
  pl : f.pl.length ≤ 10
  nl : f.nl.length ≤ 10
  nm : ∀ x ∈ f.nl, x.name.size ≤ 10
theorem tinyF.mini {f : Flat} (t : tinyF f) : miniF f := ⟨Nat.le_trans t.pl (by decide), Nat.le_trans t.nl (by decide), fun x hx => Nat.le_trans (t.nm x hx) (by decide)⟩
/-! spec.aNumber -/
def L89_0 : List AStep := [⟨.mov (.c (.int .i64 0)), (some 2), none, []⟩]
theorem v89_0 : VS L89_0.eq_1 := rfl
def L89_1 : List AStep := [⟨.call 108 [(.t 3), (.t 4)], (some 5), none, []⟩, ⟨.mov (.t 5), (some 2), none, []⟩]
theorem v89_1 : VS L89_1.eq_1 := rfl
def L89_2 : List AStep := ⟨.mov (.t 0), (some 3), none, []⟩ :: ⟨.buildSlice 3 9 [(.int .i64 0)] [(0, 1, (.c (.int .i64 1))), (1, 1, (.c (.int .i64 2))), (2, 1, (.c (.int .i64 3))), (3, 1, (.c (.int .i64 0))), (4, 1, (.c (.int .i64 5))), (5, 1, (.c (.int .i64 (-1)))), (6, 1, (.c (.int .i64 7))), (7, 1, (.c (.int .i64 99))), (8, 1, (.c (.int .i64 (-99))))], (some 4), none, []⟩ :: L89_1
theorem v89_2 : VS L89_2.eq_1 := rfl
def C89_0 : ACode := .seq (.reg L89_2) .ret
theorem u89_0 : VC C89_0.eq_1 := rfl
def C89_1 : ACode := .seq (.reg L89_0) C89_0
theorem u89_1 : VC C89_1.eq_1 := rfl
def F89 : AFunc := ⟨6, [.tmp 2], C89_1⟩
theorem cF89 : compB Try.prog 89 = some F89 := by kernel_rfl
attribute [local go_sem ↓] u89_0 u89_1 v89_0 v89_1 v89_2
theorem c_aNumber (b : Nat) (p : Int) (h : H) (r : Rd h b p) (hp : p ≤ 2 ^ 40) : callK (bm Try.prog 89 [.one (.ptr (some (b, 0)))] h) fun q h' => (∃ n, q = ii n) ∧ Drew b p 1 h h' := by
  refine bm_of cF89 ?_
  simp +contextual (maxSteps := 2000000) only [go_sem, Nat.reduceEqDiff, reduceCtorEq, Nat.reduceAdd, Nat.reduceLeDiff, F89]
  refine wp_lit (enc := encI) (k := 1) (l := [1, 2, 3, 0, 5, -1, 7, 99, -99]) rfl rfl ?_
  intro h1 w g1 n1 b1
  simp +contextual (maxSteps := 2000000) only [go_sem, Nat.reduceEqDiff, reduceCtorEq, Nat.reduceAdd, Nat.reduceLeDiff]
  refine wp_call (c_one b p _ w h1 (r.grow g1) hp (n1.sl lenI) (fun i hi => Nat.lt_of_lt_of_le r.lt (b1 i hi)) (by decide) (by decide)) ?_
  rintro q h2 ⟨⟨n, _, rfl⟩, d⟩
  have d := d.pre g1
  simp +contextual (maxSteps := 2000000) only [go_sem, Nat.reduceEqDiff, reduceCtorEq, Nat.reduceAdd, Nat.reduceLeDiff]
  exact gcK_drew r d ⟨⟨_, rfl⟩, d⟩
/-! spec.aName -/
def L88_0 : List AStep := [⟨.mov (.c (.str (strOfNums []))), (some 2), none, []⟩]
theorem v88_0 : VS L88_0.eq_1 := rfl
def L88_1 : List AStep := [⟨.call 129 [(.t 3), (.t 4)], (some 5), none, []⟩, ⟨.mov (.t 5), (some 2), none, []⟩]
theorem v88_1 : VS L88_1.eq_1 := rfl
def L88_2 : List AStep := ⟨.mov (.t 0), (some 3), none, []⟩ :: ⟨.buildSlice 9 9 [(.str (strOfNums []))] [(0, 1, (.c (.str (strOfNums [97])))), (1, 1, (.c (.str (strOfNums [98])))), (2, 1, (.c (.str (strOfNums [99])))), (3, 1, (.c (.str (strOfNums [100])))), (4, 1, (.c (.str (strOfNums [120])))), (5, 1, (.c (.str (strOfNums [121])))), (6, 1, (.c (.str (strOfNums [97])))), (7, 1, (.c (.str (strOfNums [98])))), (8, 1, (.c (.str (strOfNums [99]))))], (some 4), none, []⟩ :: L88_1
theorem v88_2 : VS L88_2.eq_1 := rfl
def C88_0 : ACode := .seq (.reg L88_2) .ret
theorem u88_0 : VC C88_0.eq_1 := rfl
def C88_1 : ACode := .seq (.reg L88_0) C88_0
theorem u88_1 : VC C88_1.eq_1 := rfl
def F88 : AFunc := ⟨6, [.tmp 2], C88_1⟩
theorem cF88 : compB Try.prog 88 = some F88 := by kernel_rfl
attribute [local go_sem ↓] u88_0 u88_1 v88_0 v88_1 v88_2
theorem c_aName (b : Nat) (p : Int) (h : H) (r : Rd h b p) (hp : p ≤ 2 ^ 40) : callK (bm Try.prog 88 [.one (.ptr (some (b, 0)))] h) fun q h' => (∃ s, q = .one (.str s) ∧ s.size ≤ 10) ∧ Drew b p 1 h h' := by
  refine bm_of cF88 ?_
  simp +contextual (maxSteps := 2000000) only [go_sem, Nat.reduceEqDiff, reduceCtorEq, Nat.reduceAdd, Nat.reduceLeDiff, F88]
  refine wp_lit (enc := encS) (k := 1) (l := [strOfNums [97], strOfNums [98], strOfNums [99], strOfNums [100], strOfNums [120], strOfNums [121], strOfNums [97], strOfNums [98], strOfNums [99]]) rfl rfl ?_
  intro h1 w g1 n1 b1
  simp +contextual (maxSteps := 2000000) only [go_sem, Nat.reduceEqDiff, reduceCtorEq, Nat.reduceAdd, Nat.reduceLeDiff]
  refine wp_call (c_of b p _ w h1 (r.grow g1) hp (n1.sl lenS) (fun i hi => Nat.lt_of_lt_of_le r.lt (b1 i hi)) (by decide) (by decide)) ?_
  rintro q h2 ⟨⟨s, hs, rfl⟩, d⟩
  have d := d.pre g1
  simp +contextual (maxSteps := 2000000) only [go_sem, Nat.reduceEqDiff, reduceCtorEq, Nat.reduceAdd, Nat.reduceLeDiff]
  exact gcK_drew r d ⟨⟨_, rfl, by
    simp only [List.mem_cons, List.not_mem_nil, or_false] at hs
    rcases hs with rfl | rfl | rfl | rfl | rfl | rfl | rfl | rfl | rfl <;> exact Nat.le_of_ble_eq_true rfl⟩, d⟩
/-! spec.goodFlat -/
def L100_0 : List AStep := [⟨.alloc 29 [(.sl none 0 (some 0)), (.sl none 0 (some 0))], (some 2), none, []⟩]
theorem v100_0 : VS L100_0.eq_1 := rfl
def L100_1 : List AStep := [⟨.store 2 (.t 3) (.t 8), none, none, []⟩]
theorem v100_1 : VS L100_1.eq_1 := rfl
def L100_2 : List AStep := ⟨.build [(.sl none 0 (some 0)), (.sl none 0 (some 0))] [(0, 1, (.t 6)), (1, 1, (.t 7))], (some 8), none, []⟩ :: ⟨.alloc 29 [(.sl none 0 (some 0)), (.sl none 0 (some 0))], (some 3), none, []⟩ :: L100_1
theorem v100_2 : VS L100_2.eq_1 := rfl
def L100_3 : List AStep := ⟨.buildSlice 3 0 [(.int .i64 0)] [], (some 6), none, []⟩ :: ⟨.buildSlice 64 0 [(.str (strOfNums [])), (.int .i64 0)] [], (some 7), none, []⟩ :: L100_2
theorem v100_3 : VS L100_3.eq_1 := rfl
def L100_4 : List AStep := [⟨.call 108 [(.t 9), (.t 10)], (some 11), none, []⟩, ⟨.mov (.t 11), (some 4), none, []⟩]
theorem v100_4 : VS L100_4.eq_1 := rfl
def L100_5 : List AStep := ⟨.mov (.t 0), (some 9), none, []⟩ :: ⟨.buildSlice 3 6 [(.int .i64 0)] [(0, 1, (.c (.int .i64 2))), (1, 1, (.c (.int .i64 1))), (2, 1, (.c (.int .i64 3))), (3, 1, (.c (.int .i64 0))), (4, 1, (.c (.int .i64 4))), (5, 1, (.c (.int .i64 8)))], (some 10), none, []⟩ :: L100_4
theorem v100_5 : VS L100_5.eq_1 := rfl
def L100_6 : List AStep := [⟨.mov (.t 4), (some 12), none, []⟩, ⟨.bin .gtr (.t 12) (.c (.int .i64 0)), (some 13), none, []⟩]
theorem v100_6 : VS L100_6.eq_1 := rfl
def L100_7 : List AStep := [⟨.faddr 0 (.t 3), (some 22), none, []⟩, ⟨.store 1 (.t 22) (.t 21), none, none, []⟩]
theorem v100_7 : VS L100_7.eq_1 := rfl
def L100_8 : List AStep := ⟨.buildSlice 3 1 [(.int .i64 0)] [(0, 1, (.t 19))], (some 20), none, []⟩ :: ⟨.append 3 1 8 (.t 17) (.t 20), (some 21), none, []⟩ :: L100_7
theorem v100_8 : VS L100_8.eq_1 := rfl
def L100_9 : List AStep := ⟨.mov (.t 0), (some 18), none, []⟩ :: ⟨.call 89 [(.t 18)], (some 19), none, [(.load 1 false (.t 16), (some 17), none)]⟩ :: L100_8
theorem v100_9 : VS L100_9.eq_1 := rfl
def L100_10 : List AStep := ⟨.faddr 0 (.t 3), (some 16), none, []⟩ :: ⟨.load 1 false (.t 16), (some 17), none, []⟩ :: L100_9
theorem v100_10 : VS L100_10.eq_1 := rfl
def L100_11 : List AStep := [⟨.mov (.t 15), (some 4), none, []⟩]
theorem v100_11 : VS L100_11.eq_1 := rfl
def L100_12 : List AStep := ⟨.mov (.t 4), (some 14), none, []⟩ :: ⟨.bin .sub (.t 14) (.c (.int .i64 1)), (some 15), none, []⟩ :: L100_11
theorem v100_12 : VS L100_12.eq_1 := rfl
def L100_13 : List AStep := [⟨.call 108 [(.t 23), (.t 24)], (some 25), none, []⟩, ⟨.mov (.t 25), (some 5), none, []⟩]
theorem v100_13 : VS L100_13.eq_1 := rfl
def L100_14 : List AStep := ⟨.mov (.t 0), (some 23), none, []⟩ :: ⟨.buildSlice 3 5 [(.int .i64 0)] [(0, 1, (.c (.int .i64 1))), (1, 1, (.c (.int .i64 2))), (2, 1, (.c (.int .i64 0))), (3, 1, (.c (.int .i64 3))), (4, 1, (.c (.int .i64 0)))], (some 24), none, []⟩ :: L100_13
theorem v100_14 : VS L100_14.eq_1 := rfl
def L100_15 : List AStep := [⟨.mov (.t 5), (some 26), none, []⟩, ⟨.bin .gtr (.t 26) (.c (.int .i64 0)), (some 27), none, []⟩]
theorem v100_15 : VS L100_15.eq_1 := rfl
def L100_16 : List AStep := [⟨.faddr 1 (.t 3), (some 38), none, []⟩, ⟨.store 1 (.t 38) (.t 37), none, none, []⟩]
theorem v100_16 : VS L100_16.eq_1 := rfl
def L100_17 : List AStep := ⟨.build [(.str (strOfNums [])), (.int .i64 0)] [(0, 1, (.t 33)), (1, 1, (.t 35))], (some 36), none, []⟩ :: ⟨.call 87 [(.t 31), (.t 36)], (some 37), none, []⟩ :: L100_16
theorem v100_17 : VS L100_17.eq_1 := rfl
def L100_18 : List AStep := ⟨.call 88 [(.t 32)], (some 33), none, [(.load 1 false (.t 30), (some 31), none)]⟩ :: ⟨.call 89 [(.t 34)], (some 35), none, [(.load 1 false (.t 30), (some 31), none)]⟩ :: L100_17
theorem v100_18 : VS L100_18.eq_1 := rfl
def L100_19 : List AStep := ⟨.mov (.t 0), (some 32), none, []⟩ :: ⟨.mov (.t 0), (some 34), none, []⟩ :: L100_18
theorem v100_19 : VS L100_19.eq_1 := rfl
def L100_20 : List AStep := ⟨.faddr 1 (.t 3), (some 30), none, []⟩ :: ⟨.load 1 false (.t 30), (some 31), none, []⟩ :: L100_19
theorem v100_20 : VS L100_20.eq_1 := rfl
def L100_21 : List AStep := [⟨.mov (.t 29), (some 5), none, []⟩]
theorem v100_21 : VS L100_21.eq_1 := rfl
def L100_22 : List AStep := ⟨.mov (.t 5), (some 28), none, []⟩ :: ⟨.bin .sub (.t 28) (.c (.int .i64 1)), (some 29), none, []⟩ :: L100_21
theorem v100_22 : VS L100_22.eq_1 := rfl
def L100_23 : List AStep := [⟨.load 2 true (.t 3), (some 39), none, []⟩, ⟨.store 2 (.t 2) (.t 39), none, none, []⟩]
theorem v100_23 : VS L100_23.eq_1 := rfl
def C100_0 : ACode := .cond (.t 13) .skip (.exit 0)
theorem u100_0 : VC C100_0.eq_1 := rfl
def C100_1 : ACode := .seq (.reg L100_6) C100_0
theorem u100_1 : VC C100_1.eq_1 := rfl
def C100_2 : ACode := .block 1 (.reg L100_10)
theorem u100_2 : VC C100_2.eq_1 := rfl
def C100_3 : ACode := .seq C100_2 (.reg L100_12)
theorem u100_3 : VC C100_3.eq_1 := rfl
def C100_4 : ACode := .seq C100_1 C100_3
theorem u100_4 : VC C100_4.eq_1 := rfl
def C100_5 : ACode := .block 0 (.loop C100_4)
theorem u100_5 : VC C100_5.eq_1 := rfl
def C100_6 : ACode := .seq (.reg L100_5) C100_5
theorem u100_6 : VC C100_6.eq_1 := rfl
def C100_7 : ACode := .cond (.t 27) .skip (.exit 2)
theorem u100_7 : VC C100_7.eq_1 := rfl
def C100_8 : ACode := .seq (.reg L100_15) C100_7
theorem u100_8 : VC C100_8.eq_1 := rfl
def C100_9 : ACode := .block 3 (.reg L100_20)
theorem u100_9 : VC C100_9.eq_1 := rfl
def C100_10 : ACode := .seq C100_9 (.reg L100_22)
theorem u100_10 : VC C100_10.eq_1 := rfl
def C100_11 : ACode := .seq C100_8 C100_10
theorem u100_11 : VC C100_11.eq_1 := rfl
def C100_12 : ACode := .block 2 (.loop C100_11)
theorem u100_12 : VC C100_12.eq_1 := rfl
def C100_13 : ACode := .seq (.reg L100_14) C100_12
theorem u100_13 : VC C100_13.eq_1 := rfl
def C100_14 : ACode := .seq (.reg L100_23) .ret
theorem u100_14 : VC C100_14.eq_1 := rfl
def C100_15 : ACode := .seq C100_13 C100_14
theorem u100_15 : VC C100_15.eq_1 := rfl
def C100_16 : ACode := .seq C100_6 C100_15
theorem u100_16 : VC C100_16.eq_1 := rfl
def C100_17 : ACode := .seq (.reg L100_3) C100_16
theorem u100_17 : VC C100_17.eq_1 := rfl
def C100_18 : ACode := .seq (.reg L100_0) C100_17
theorem u100_18 : VC C100_18.eq_1 := rfl
def F100 : AFunc := ⟨40, [.cell 2 2 true], C100_18⟩
theorem cF100 : compB Try.prog 100 = some F100 := by kernel_rfl
attribute [local go_sem ↓] u100_0 u100_1 u100_2 u100_3 u100_4 u100_5 u100_6 u100_7 u100_8 u100_9 u100_10 u100_11 u100_12 u100_13 u100_14 u100_15 u100_16 u100_17 u100_18 v100_0 v100_1 v100_2 v100_3 v100_4 v100_5 v100_6 v100_7 v100_8 v100_9 v100_10 v100_11 v100_12 v100_13 v100_14 v100_15 v100_16 v100_17 v100_18 v100_19 v100_20 v100_21 v100_22 v100_23
theorem c_goodFlat (b : Nat) (p : Int) (h : H) (r : Rd h b p) (hp : p ≤ 2 ^ 39) : callK (bm Try.prog 100 [.one (.ptr (some (b, 0)))] h) fun q h' => (∃ x y f, q = .agg [x, y] ∧ NwF h h' x y f ∧ tinyF f) ∧ Drew b p 16 h h' := by
  refine bm_of cF100 ?_
  have hbn := r.lt
  simp +contextual (maxSteps := 2000000) only [go_sem, Nat.reduceEqDiff, reduceCtorEq, Nat.reduceAdd, Nat.reduceLeDiff, F100]
  refine wp_lit (enc := encI) (k := 1) (l := []) rfl rfl ?_
  intro h1 w1 g1 n1 b1
  obtain ⟨c1, rfl⟩ := n1.one
  simp +contextual (maxSteps := 2000000) only [go_sem, Nat.reduceEqDiff, reduceCtorEq, Nat.reduceAdd, Nat.reduceLeDiff]
  refine wp_lit (enc := encP) (k := 2) (l := []) rfl rfl ?_
  intro h2 w2 g2 n2 b2
  obtain ⟨c2, rfl⟩ := n2.one
  simp +contextual (maxSteps := 2000000) only [go_sem, Nat.reduceEqDiff, reduceCtorEq, Nat.reduceAdd, Nat.reduceLeDiff]
  have y2 : NwF h h2 c1 c2 ⟨[], []⟩ := ⟨n1.grow g2, n2.from g1.n, n1.apart n2⟩
  refine wp_lit (enc := encI) (k := 1) (l := [2, 1, 3, 0, 4, 8]) rfl rfl ?_
  intro h3 w3 g3 n3 b3
  simp +contextual (maxSteps := 2000000) only [go_sem, Nat.reduceEqDiff, reduceCtorEq, Nat.reduceAdd, Nat.reduceLeDiff]
  have g13 := (g1.trans g2).trans g3
  refine wp_call (c_one b p _ w3 h3 (r.grow g13) (by omega) (n3.sl lenI) (fun i hi => Nat.lt_of_lt_of_le hbn (Nat.le_trans (g1.trans g2).n (b3 i hi))) (by decide) (by decide)) ?_
  rintro q h4 ⟨⟨m, hm, rfl⟩, d4⟩
  have hm8 : 0 ≤ m ∧ m ≤ 8 := by simp at hm; omega
  obtain ⟨m, rfl⟩ := Int.eq_ofNat_of_zero_le hm8.1
  have y4 := (y2.grow g3).drew d4 hbn
  have d4 := d4.pre g13
  simp +contextual (maxSteps := 2000000) only [go_sem, Nat.reduceEqDiff, reduceCtorEq, Nat.reduceAdd, Nat.reduceLeDiff]
  refine wpC_loop (fun k T L h' => T 0 = .v (.one (.ptr (some (b, 0)))) ∧ T 2 = .lp 2 0 ∧ (L 2).2 = [.sl none 0 (some 0), .sl none 0 (some 0)] ∧ T 3 = .lp 3 0 ∧ (∃ x y f, (L 3).2 = [x, y] ∧ NwF h h' x y f ∧ f.pl.length ≤ k ∧ f.nl = []) ∧ T 4 = .v (.one (.int .i64 ((m - k : Nat) : Int))) ∧ Drew b p (1 + k) h h') m ?_ ?_ (Nat.zero_le _) ?_
  · rintro k T L h' hk ⟨t0, t2, l2, t3, ⟨x, y, f, l3, z, z1, z2⟩, t4, d⟩
    obtain ⟨j, hj⟩ : ∃ j, m - k = j + 1 := ⟨m - k - 1, by omega⟩
    rw [hj] at t4
    have a3 : decide (((j + 1 : Nat) : Int) > 0) = true := decide_eq_true (by omega)
    obtain ⟨p', hp1, hp2, r'⟩ := d.ex
    simp +contextual (maxSteps := 2000000) only [go_sem, Nat.reduceEqDiff, reduceCtorEq, Nat.reduceAdd, Nat.reduceLeDiff, t0, t2, l2, t3, l3, t4, a3]
    refine wp_call (c_aNumber b p' h' r' (by omega)) ?_
    rintro q h5 ⟨⟨n, rfl⟩, d5⟩
    have z5 := z.drew d5 hbn
    have d5 := d5.then d.st (by omega) hp2
    simp +contextual (maxSteps := 2000000) only [go_sem, Nat.reduceEqDiff, reduceCtorEq, Nat.reduceAdd, Nat.reduceLeDiff, t0, t2, l2, t3, l3, t4]
    refine wp_lit (enc := encI) (k := 1) (l := [n]) rfl rfl ?_
    intro h6 w6 g6 n6 b6
    have z6 := z5.grow g6
    simp +contextual (maxSteps := 2000000) only [go_sem, Nat.reduceEqDiff, reduceCtorEq, Nat.reduceAdd, Nat.reduceLeDiff, t0, t2, l2, t3, l3, t4]
    refine wp_appendD lenI z6.pl (n6.sl lenI) (Nat.le_trans d5.st.n g6.n) (by simp; omega) ?_
    intro h7 s7 n7 st7 hb7
    obtain ⟨c7, rfl⟩ := n7.one
    have z7 := z6.appPl n7 st7 hb7
    have d7 := (d5.grow g6).stay st7 (fun i hi => (z6.pl.lt hi).2) hbn
    simp +contextual (maxSteps := 2000000) only [go_sem, Nat.reduceEqDiff, reduceCtorEq, Nat.reduceAdd, Nat.reduceLeDiff, t0, t2, l2, t3, l3, t4, wrap_pred (show j < 2 ^ 62 by omega)]
    exact ⟨⟨c7, y, _, rfl, z7, by simp; omega, z2⟩, by rw [show m - (k + 1) = j by omega], d7⟩
  · rintro T L h' ⟨t0, t2, l2, t3, ⟨x, y, f, l3, z, z1, z2⟩, t4, d⟩
    rw [Nat.sub_self] at t4
    have hz : decide (((0 : Nat) : Int) > 0) = false := rfl
    obtain ⟨p', hp1, hp2, r'⟩ := d.ex
    simp +contextual (maxSteps := 2000000) only [go_sem, Nat.reduceEqDiff, reduceCtorEq, Nat.reduceAdd, Nat.reduceLeDiff, t0, t2, l2, t3, l3, t4, hz]
    refine wp_lit (enc := encI) (k := 1) (l := [1, 2, 0, 3, 0]) rfl rfl ?_
    intro h5 w5 g5 n5 b5
    simp +contextual (maxSteps := 2000000) only [go_sem, Nat.reduceEqDiff, reduceCtorEq, Nat.reduceAdd, Nat.reduceLeDiff, t0, t2, l2, t3, l3, t4]
    refine wp_call (c_one b p' _ w5 h5 (r'.grow g5) (by omega) (n5.sl lenI) (fun i hi => Nat.lt_of_lt_of_le r'.lt (b5 i hi)) (by decide) (by decide)) ?_
    rintro q h6 ⟨⟨v, hv, rfl⟩, d6⟩
    have hv8 : 0 ≤ v ∧ v ≤ 3 := by simp at hv; omega
    obtain ⟨v, rfl⟩ := Int.eq_ofNat_of_zero_le hv8.1
    have z6 := (z.grow g5).drew d6 hbn
    have d6 := (d6.pre g5).then d.st (by omega) hp2
    simp +contextual (maxSteps := 2000000) only [go_sem, Nat.reduceEqDiff, reduceCtorEq, Nat.reduceAdd, Nat.reduceLeDiff, t0, t2, l2, t3, l3, t4]
    refine wpC_loop (fun k T L h' => T 0 = .v (.one (.ptr (some (b, 0)))) ∧ T 2 = .lp 2 0 ∧ (L 2).2 = [.sl none 0 (some 0), .sl none 0 (some 0)] ∧ T 3 = .lp 3 0 ∧ (∃ x y f, (L 3).2 = [x, y] ∧ NwF h h' x y f ∧ f.pl.length ≤ m ∧ f.nl.length ≤ k ∧ ∀ x ∈ f.nl, x.name.size ≤ 10) ∧ T 5 = .v (.one (.int .i64 ((v - k : Nat) : Int))) ∧ Drew b p (1 + m + 1 + 2 * k) h h') v ?_ ?_ (Nat.zero_le _) ?_
    · rintro k T L h' hk ⟨t0, t2, l2, t3, ⟨x, y, f, l3, z, z1, z2, z3⟩, t5, d⟩
      obtain ⟨j, hj⟩ : ∃ j, v - k = j + 1 := ⟨v - k - 1, by omega⟩
      rw [hj] at t5
      have a3 : decide (((j + 1 : Nat) : Int) > 0) = true := decide_eq_true (by omega)
      obtain ⟨p', hp1, hp2, r'⟩ := d.ex
      simp +contextual (maxSteps := 2000000) only [go_sem, Nat.reduceEqDiff, reduceCtorEq, Nat.reduceAdd, Nat.reduceLeDiff, t0, t2, l2, t3, l3, t5, a3]
      refine wp_call (c_aName b p' h' r' (by omega)) ?_
      rintro q h5 ⟨⟨s, rfl, hs⟩, d5⟩
      have z5 := z.drew d5 hbn
      obtain ⟨p2, hq1, hq2, r2⟩ := d5.ex
      have d5 := d5.then d.st (by omega) hp2
      simp +contextual (maxSteps := 2000000) only [go_sem, Nat.reduceEqDiff, reduceCtorEq, Nat.reduceAdd, Nat.reduceLeDiff, t0, t2, l2, t3, l3, t5]
      refine wp_call (c_aNumber b p2 h5 r2 (by omega)) ?_
      rintro q h6 ⟨⟨n, rfl⟩, d6⟩
      have z6 := z5.drew d6 hbn
      have d6 := d6.then d5.st (by omega) (show p2 ≤ p + ((1 + m + 1 + 2 * k + 1 : Nat) : Int) by omega)
      simp +contextual (maxSteps := 2000000) only [go_sem, Nat.reduceEqDiff, reduceCtorEq, Nat.reduceAdd, Nat.reduceLeDiff, t0, t2, l2, t3, l3, t5]
      refine wp_call (c_putPair f.nl (.one y) ⟨s, n⟩ h6 z6.sl.nl ⟨by unfold big; omega, fun x hx => Nat.le_trans (z3 x hx) (by decide)⟩) ?_
      rintro q h7 ⟨g7, n7⟩
      obtain ⟨c7, rfl⟩ := n7.one
      have z7 : NwF h h7 x c7 ⟨f.pl, putP f.nl ⟨s, n⟩⟩ := ⟨z6.pl.grow g7, n7.from d6.st.n, z6.pl.apart n7⟩
      simp +contextual (maxSteps := 2000000) only [go_sem, Nat.reduceEqDiff, reduceCtorEq, Nat.reduceAdd, Nat.reduceLeDiff, t0, t2, l2, t3, l3, t5, wrap_pred (show j < 2 ^ 62 by omega)]
      refine ⟨⟨x, c7, _, rfl, z7, z1, Nat.le_trans putP_short (by omega), fun w hw => ?_⟩, by rw [show v - (k + 1) = j by omega], d6.grow g7⟩
      rcases putP_in hw with e | e
      · exact z3 w e
      · rw [e]; exact hs
    · rintro T L h' ⟨t0, t2, l2, t3, ⟨x, y, f, l3, z, z1, z2, z3⟩, t5, d⟩
      rw [Nat.sub_self] at t5
      simp +contextual (maxSteps := 2000000) only [go_sem, Nat.reduceEqDiff, reduceCtorEq, Nat.reduceAdd, Nat.reduceLeDiff, t0, t2, l2, t3, l3, t5, hz]
      have d := d.more (show 1 + m + 1 + 2 * v ≤ 16 by omega)
      exact gcK_drew r d ⟨⟨x, y, f, rfl, z, ⟨by omega, by omega, z3⟩⟩, d⟩
    · simp +contextual (maxSteps := 2000000) only [go_sem, Nat.reduceEqDiff, reduceCtorEq, Nat.reduceAdd, Nat.reduceLeDiff, t0, t2, l2, t3, l3, t4]
      exact ⟨⟨x, y, f, rfl, z6, z1, by rw [z2]; exact Nat.le_refl 0, by rw [z2]; simp⟩, rfl, d6.more (by omega)⟩
  · simp +contextual (maxSteps := 2000000) only [go_sem, Nat.reduceEqDiff, reduceCtorEq, Nat.reduceAdd, Nat.reduceLeDiff]
    exact ⟨⟨c1, c2, ⟨[], []⟩, rfl, y4, Nat.le_refl 0, rfl⟩, rfl, d4⟩
/-! spec.anyName -/
def L107_0 : List AStep := [⟨.mov (.c (.str (strOfNums []))), (some 2), none, []⟩]
theorem v107_0 : VS L107_0.eq_1 := rfl
def L107_1 : List AStep := [⟨.bin .eql (.t 4) (.c (.int .i64 0)), (some 5), none, []⟩]
theorem v107_1 : VS L107_1.eq_1 := rfl
def L107_2 : List AStep := ⟨.mov (.t 0), (some 3), none, []⟩ :: ⟨.call 69 [(.t 3), (.c (.int .i64 16))], (some 4), none, []⟩ :: L107_1
theorem v107_2 : VS L107_2.eq_1 := rfl
def L107_3 : List AStep := [⟨.call 129 [(.t 6), (.t 7)], (some 8), none, []⟩, ⟨.mov (.t 8), (some 2), none, []⟩]
theorem v107_3 : VS L107_3.eq_1 := rfl
def L107_4 : List AStep := ⟨.mov (.t 0), (some 6), none, []⟩ :: ⟨.buildSlice 9 5 [(.str (strOfNums []))] [(0, 1, (.c (.str (strOfNums [])))), (1, 1, (.c (.str (strOfNums [65])))), (2, 1, (.c (.str (strOfNums [116, 111, 111, 108, 111, 110, 103])))), (3, 1, (.c (.str (strOfNums [97, 49])))), (4, 1, (.c (.str (strOfNums [97, 98, 99, 100, 101, 102]))))], (some 7), none, []⟩ :: L107_3
theorem v107_4 : VS L107_4.eq_1 := rfl
def L107_5 : List AStep := [⟨.mov (.t 10), (some 2), none, []⟩]
theorem v107_5 : VS L107_5.eq_1 := rfl
def L107_6 : List AStep := ⟨.mov (.t 0), (some 9), none, []⟩ :: ⟨.call 88 [(.t 9)], (some 10), none, []⟩ :: L107_5
theorem v107_6 : VS L107_6.eq_1 := rfl
def C107_0 : ACode := .seq (.reg L107_4) .ret
theorem u107_0 : VC C107_0.eq_1 := rfl
def C107_1 : ACode := .cond (.t 5) C107_0 .skip
theorem u107_1 : VC C107_1.eq_1 := rfl
def C107_2 : ACode := .seq (.reg L107_2) C107_1
theorem u107_2 : VC C107_2.eq_1 := rfl
def C107_3 : ACode := .seq (.reg L107_6) .ret
theorem u107_3 : VC C107_3.eq_1 := rfl
def C107_4 : ACode := .seq C107_2 C107_3
theorem u107_4 : VC C107_4.eq_1 := rfl
def C107_5 : ACode := .seq (.reg L107_0) C107_4
theorem u107_5 : VC C107_5.eq_1 := rfl
def F107 : AFunc := ⟨11, [.tmp 2], C107_5⟩
theorem cF107 : compB Try.prog 107 = some F107 := by kernel_rfl
attribute [local go_sem ↓] u107_0 u107_1 u107_2 u107_3 u107_4 u107_5 v107_0 v107_1 v107_2 v107_3 v107_4 v107_5 v107_6
theorem c_anyName (b : Nat) (p : Int) (h : H) (r : Rd h b p) (hp : p ≤ 2 ^ 39) : callK (bm Try.prog 107 [.one (.ptr (some (b, 0)))] h) fun q h' => (∃ s, q = .one (.str s) ∧ s.size ≤ 10) ∧ Drew b p 2 h h' := by
  refine bm_of cF107 ?_
  simp +contextual (maxSteps := 2000000) only [go_sem, Nat.reduceEqDiff, reduceCtorEq, Nat.reduceAdd, Nat.reduceLeDiff, F107]
  refine wp_call (c_pick b 16 p h r (by omega)) ?_
  rintro q h1 ⟨⟨k, rfl, k0, k1⟩, d1⟩
  obtain ⟨p1, hp1, hp2, r1⟩ := d1.ex
  by_cases e : k = 0
  · simp +contextual (maxSteps := 2000000) only [go_sem, Nat.reduceEqDiff, reduceCtorEq, Nat.reduceAdd, Nat.reduceLeDiff, decide_eq_true e]
    refine wp_lit (enc := encS) (k := 1) (l := [strOfNums [], strOfNums [65], strOfNums [116, 111, 111, 108, 111, 110, 103], strOfNums [97, 49], strOfNums [97, 98, 99, 100, 101, 102]]) rfl rfl ?_
    intro h2 w g2 n2 b2
    simp +contextual (maxSteps := 2000000) only [go_sem, Nat.reduceEqDiff, reduceCtorEq, Nat.reduceAdd, Nat.reduceLeDiff]
    refine wp_call (c_of b p1 _ w h2 (r1.grow g2) (by omega) (n2.sl lenS) (fun i hi => Nat.lt_of_lt_of_le r1.lt (b2 i hi)) (by decide) (by decide)) ?_
    rintro q h3 ⟨⟨s, hs, rfl⟩, d3⟩
    have d := (d3.pre g2).then d1.st (by omega) hp2
    simp +contextual (maxSteps := 2000000) only [go_sem, Nat.reduceEqDiff, reduceCtorEq, Nat.reduceAdd, Nat.reduceLeDiff]
    exact gcK_drew r d ⟨⟨_, rfl, by
      simp only [List.mem_cons, List.not_mem_nil, or_false] at hs
      rcases hs with rfl | rfl | rfl | rfl | rfl <;> exact Nat.le_of_ble_eq_true rfl⟩, d⟩
  · simp +contextual (maxSteps := 2000000) only [go_sem, Nat.reduceEqDiff, reduceCtorEq, Nat.reduceAdd, Nat.reduceLeDiff, decide_eq_false e]
    refine wp_call (c_aName b p1 h1 r1 (by omega)) ?_
    rintro q h3 ⟨⟨s, rfl, hs⟩, d3⟩
    have d := d3.then d1.st (by omega) hp2
    simp +contextual (maxSteps := 2000000) only [go_sem, Nat.reduceEqDiff, reduceCtorEq, Nat.reduceAdd, Nat.reduceLeDiff]
    exact gcK_drew r d ⟨⟨_, rfl, hs⟩, d⟩
/-! spec.anyNumber -/
def L132_0 : List AStep := [⟨.mov (.c (.int .i64 0)), (some 2), none, []⟩]
theorem v132_0 : VS L132_0.eq_1 := rfl
def L132_1 : List AStep := [⟨.bin .eql (.t 4) (.c (.int .i64 0)), (some 5), none, []⟩]
theorem v132_1 : VS L132_1.eq_1 := rfl
def L132_2 : List AStep := ⟨.mov (.t 0), (some 3), none, []⟩ :: ⟨.call 69 [(.t 3), (.c (.int .i64 16))], (some 4), none, []⟩ :: L132_1
theorem v132_2 : VS L132_2.eq_1 := rfl
def L132_3 : List AStep := [⟨.call 108 [(.t 6), (.t 7)], (some 8), none, []⟩, ⟨.mov (.t 8), (some 2), none, []⟩]
theorem v132_3 : VS L132_3.eq_1 := rfl
def L132_4 : List AStep := ⟨.mov (.t 0), (some 6), none, []⟩ :: ⟨.buildSlice 3 2 [(.int .i64 0)] [(0, 1, (.c (.int .i64 100))), (1, 1, (.c (.int .i64 (-100))))], (some 7), none, []⟩ :: L132_3
theorem v132_4 : VS L132_4.eq_1 := rfl
def L132_5 : List AStep := [⟨.mov (.t 10), (some 2), none, []⟩]
theorem v132_5 : VS L132_5.eq_1 := rfl
def L132_6 : List AStep := ⟨.mov (.t 0), (some 9), none, []⟩ :: ⟨.call 89 [(.t 9)], (some 10), none, []⟩ :: L132_5
theorem v132_6 : VS L132_6.eq_1 := rfl
def C132_0 : ACode := .seq (.reg L132_4) .ret
theorem u132_0 : VC C132_0.eq_1 := rfl
def C132_1 : ACode := .cond (.t 5) C132_0 .skip
theorem u132_1 : VC C132_1.eq_1 := rfl
def C132_2 : ACode := .seq (.reg L132_2) C132_1
theorem u132_2 : VC C132_2.eq_1 := rfl
def C132_3 : ACode := .seq (.reg L132_6) .ret
theorem u132_3 : VC C132_3.eq_1 := rfl
def C132_4 : ACode := .seq C132_2 C132_3
theorem u132_4 : VC C132_4.eq_1 := rfl
def C132_5 : ACode := .seq (.reg L132_0) C132_4
theorem u132_5 : VC C132_5.eq_1 := rfl
def F132 : AFunc := ⟨11, [.tmp 2], C132_5⟩
theorem cF132 : compB Try.prog 132 = some F132 := by kernel_rfl
attribute [local go_sem ↓] u132_0 u132_1 u132_2 u132_3 u132_4 u132_5 v132_0 v132_1 v132_2 v132_3 v132_4 v132_5 v132_6
theorem c_anyNumber (b : Nat) (p : Int) (h : H) (r : Rd h b p) (hp : p ≤ 2 ^ 39) : callK (bm Try.prog 132 [.one (.ptr (some (b, 0)))] h) fun q h' => (∃ n, q = ii n) ∧ Drew b p 2 h h' := by
  refine bm_of cF132 ?_
  simp +contextual (maxSteps := 2000000) only [go_sem, Nat.reduceEqDiff, reduceCtorEq, Nat.reduceAdd, Nat.reduceLeDiff, F132]
  refine wp_call (c_pick b 16 p h r (by omega)) ?_
  rintro q h1 ⟨⟨k, rfl, k0, k1⟩, d1⟩
  obtain ⟨p1, hp1, hp2, r1⟩ := d1.ex
  by_cases e : k = 0
  · simp +contextual (maxSteps := 2000000) only [go_sem, Nat.reduceEqDiff, reduceCtorEq, Nat.reduceAdd, Nat.reduceLeDiff, decide_eq_true e]
    refine wp_lit (enc := encI) (k := 1) (l := [100, -100]) rfl rfl ?_
    intro h2 w g2 n2 b2
    simp +contextual (maxSteps := 2000000) only [go_sem, Nat.reduceEqDiff, reduceCtorEq, Nat.reduceAdd, Nat.reduceLeDiff]
    refine wp_call (c_one b p1 _ w h2 (r1.grow g2) (by omega) (n2.sl lenI) (fun i hi => Nat.lt_of_lt_of_le r1.lt (b2 i hi)) (by decide) (by decide)) ?_
    rintro q h3 ⟨⟨n, _, rfl⟩, d3⟩
    have d := (d3.pre g2).then d1.st (by omega) hp2
    simp +contextual (maxSteps := 2000000) only [go_sem, Nat.reduceEqDiff, reduceCtorEq, Nat.reduceAdd, Nat.reduceLeDiff]
    exact gcK_drew r d ⟨⟨_, rfl⟩, d⟩
  · simp +contextual (maxSteps := 2000000) only [go_sem, Nat.reduceEqDiff, reduceCtorEq, Nat.reduceAdd, Nat.reduceLeDiff, decide_eq_false e]
    refine wp_call (c_aNumber b p1 h1 r1 (by omega)) ?_
    rintro q h3 ⟨⟨n, rfl⟩, d3⟩
    have d := d3.then d1.st (by omega) hp2
    simp +contextual (maxSteps := 2000000) only [go_sem, Nat.reduceEqDiff, reduceCtorEq, Nat.reduceAdd, Nat.reduceLeDiff]
    exact gcK_drew r d ⟨⟨_, rfl⟩, d⟩
/-! spec.someFlat -/
def L90_0 : List AStep := [⟨.alloc 29 [(.sl none 0 (some 0)), (.sl none 0 (some 0))], (some 2), none, []⟩]
theorem v90_0 : VS L90_0.eq_1 := rfl
def L90_1 : List AStep := [⟨.alloc 29 [(.sl none 0 (some 0)), (.sl none 0 (some 0))], (some 3), none, []⟩, ⟨.store 2 (.t 3) (.t 5), none, none, []⟩]
theorem v90_1 : VS L90_1.eq_1 := rfl
def L90_2 : List AStep := ⟨.mov (.t 0), (some 4), none, []⟩ :: ⟨.call 100 [(.t 4)], (some 5), none, []⟩ :: L90_1
theorem v90_2 : VS L90_2.eq_1 := rfl
def L90_3 : List AStep := [⟨.mov (.t 0), (some 6), none, []⟩, ⟨.call 69 [(.t 6), (.c (.int .i64 24))], (some 7), none, []⟩]
theorem v90_3 : VS L90_3.eq_1 := rfl
def L90_4 : List AStep := [⟨.bin .eql (.t 7) (.c (.int .i64 0)), (some 9), none, []⟩, ⟨.mov (.t 9), (some 8), none, []⟩]
theorem v90_4 : VS L90_4.eq_1 := rfl
def L90_5 : List AStep := [⟨.store 1 (.t 17) (.t 16), none, none, []⟩]
theorem v90_5 : VS L90_5.eq_1 := rfl
def L90_6 : List AStep := ⟨.append 3 1 8 (.t 11) (.t 15), (some 16), none, []⟩ :: ⟨.faddr 0 (.t 3), (some 17), none, []⟩ :: L90_5
theorem v90_6 : VS L90_6.eq_1 := rfl
def L90_7 : List AStep := ⟨.call 108 [(.t 12), (.t 13)], (some 14), none, [(.load 1 false (.t 10), (some 11), none)]⟩ :: ⟨.buildSlice 3 1 [(.int .i64 0)] [(0, 1, (.t 14))], (some 15), none, []⟩ :: L90_6
theorem v90_7 : VS L90_7.eq_1 := rfl
def L90_8 : List AStep := ⟨.mov (.t 0), (some 12), none, []⟩ :: ⟨.buildSlice 3 2 [(.int .i64 0)] [(0, 1, (.c (.int .i64 100))), (1, 1, (.c (.int .i64 (-100))))], (some 13), none, []⟩ :: L90_7
theorem v90_8 : VS L90_8.eq_1 := rfl
def L90_9 : List AStep := ⟨.faddr 0 (.t 3), (some 10), none, []⟩ :: ⟨.load 1 false (.t 10), (some 11), none, []⟩ :: L90_8
theorem v90_9 : VS L90_9.eq_1 := rfl
def L90_10 : List AStep := [⟨.bin .eql (.t 7) (.c (.int .i64 1)), (some 19), none, []⟩, ⟨.mov (.t 19), (some 18), none, []⟩]
theorem v90_10 : VS L90_10.eq_1 := rfl
def L90_11 : List AStep := [⟨.store 1 (.t 29) (.t 28), none, none, []⟩]
theorem v90_11 : VS L90_11.eq_1 := rfl
def L90_12 : List AStep := ⟨.append 64 2 24 (.t 21) (.t 27), (some 28), none, []⟩ :: ⟨.faddr 1 (.t 3), (some 29), none, []⟩ :: L90_11
theorem v90_12 : VS L90_12.eq_1 := rfl
def L90_13 : List AStep := ⟨.build [(.str (strOfNums [])), (.int .i64 0)] [(0, 1, (.t 23)), (1, 1, (.t 25))], (some 26), none, []⟩ :: ⟨.buildSlice 64 1 [(.str (strOfNums [])), (.int .i64 0)] [(0, 2, (.t 26))], (some 27), none, []⟩ :: L90_12
theorem v90_13 : VS L90_13.eq_1 := rfl
def L90_14 : List AStep := ⟨.call 107 [(.t 22)], (some 23), none, [(.load 1 false (.t 20), (some 21), none)]⟩ :: ⟨.call 132 [(.t 24)], (some 25), none, [(.load 1 false (.t 20), (some 21), none)]⟩ :: L90_13
theorem v90_14 : VS L90_14.eq_1 := rfl
def L90_15 : List AStep := ⟨.mov (.t 0), (some 22), none, []⟩ :: ⟨.mov (.t 0), (some 24), none, []⟩ :: L90_14
theorem v90_15 : VS L90_15.eq_1 := rfl
def L90_16 : List AStep := ⟨.faddr 1 (.t 3), (some 20), none, []⟩ :: ⟨.load 1 false (.t 20), (some 21), none, []⟩ :: L90_15
theorem v90_16 : VS L90_16.eq_1 := rfl
def L90_17 : List AStep := [⟨.bin .eql (.t 7) (.c (.int .i64 2)), (some 31), none, []⟩, ⟨.mov (.t 31), (some 30), none, []⟩]
theorem v90_17 : VS L90_17.eq_1 := rfl
def L90_18 : List AStep := [⟨.store 1 (.t 33) (.t 32), none, none, []⟩]
theorem v90_18 : VS L90_18.eq_1 := rfl
def L90_19 : List AStep := ⟨.mkslice 3 8 [(.int .i64 0)] (.c (.int .i64 9)) (.c (.int .i64 9)), (some 32), none, []⟩ :: ⟨.faddr 0 (.t 3), (some 33), none, []⟩ :: L90_18
theorem v90_19 : VS L90_19.eq_1 := rfl
def L90_20 : List AStep := [⟨.load 2 true (.t 3), (some 34), none, []⟩, ⟨.store 2 (.t 2) (.t 34), none, none, []⟩]
theorem v90_20 : VS L90_20.eq_1 := rfl
def C90_0 : ACode := .cond (.t 30) (.reg L90_19) .skip
theorem u90_0 : VC C90_0.eq_1 := rfl
def C90_1 : ACode := .seq (.reg L90_17) C90_0
theorem u90_1 : VC C90_1.eq_1 := rfl
def C90_2 : ACode := .cond (.t 18) (.reg L90_16) C90_1
theorem u90_2 : VC C90_2.eq_1 := rfl
def C90_3 : ACode := .seq (.reg L90_10) C90_2
theorem u90_3 : VC C90_3.eq_1 := rfl
def C90_4 : ACode := .cond (.t 8) (.reg L90_9) C90_3
theorem u90_4 : VC C90_4.eq_1 := rfl
def C90_5 : ACode := .seq (.reg L90_4) C90_4
theorem u90_5 : VC C90_5.eq_1 := rfl
def C90_6 : ACode := .block 0 C90_5
theorem u90_6 : VC C90_6.eq_1 := rfl
def C90_7 : ACode := .seq (.reg L90_3) C90_6
theorem u90_7 : VC C90_7.eq_1 := rfl
def C90_8 : ACode := .seq (.reg L90_20) .ret
theorem u90_8 : VC C90_8.eq_1 := rfl
def C90_9 : ACode := .seq C90_7 C90_8
theorem u90_9 : VC C90_9.eq_1 := rfl
def C90_10 : ACode := .seq (.reg L90_2) C90_9
theorem u90_10 : VC C90_10.eq_1 := rfl
def C90_11 : ACode := .seq (.reg L90_0) C90_10
theorem u90_11 : VC C90_11.eq_1 := rfl
def F90 : AFunc := ⟨35, [.cell 2 2 true], C90_11⟩
theorem cF90 : compB Try.prog 90 = some F90 := by kernel_rfl
attribute [local go_sem ↓] u90_0 u90_1 u90_2 u90_3 u90_4 u90_5 u90_6 u90_7 u90_8 u90_9 u90_10 u90_11 v90_0 v90_1 v90_2 v90_3 v90_4 v90_5 v90_6 v90_7 v90_8 v90_9 v90_10 v90_11 v90_12 v90_13 v90_14 v90_15 v90_16 v90_17 v90_18 v90_19 v90_20
theorem c_someFlat (b : Nat) (p : Int) (h : H) (r : Rd h b p) (hp : p ≤ 2 ^ 38) : callK (bm Try.prog 90 [.one (.ptr (some (b, 0)))] h) fun q h' => (∃ x y f, q = .agg [x, y] ∧ NwF h h' x y f ∧ miniF f) ∧ Drew b p 21 h h' := by
  refine bm_of cF90 ?_
  have hbn := r.lt
  simp +contextual (maxSteps := 2000000) only [go_sem, Nat.reduceEqDiff, reduceCtorEq, Nat.reduceAdd, Nat.reduceLeDiff, F90]
  refine wp_call (c_goodFlat b p h r (by omega)) ?_
  rintro q h1 ⟨⟨x, y, f, rfl, z1, tf⟩, d1⟩
  obtain ⟨p1, hp1, hp2, r1⟩ := d1.ex
  simp +contextual (maxSteps := 2000000) only [go_sem, Nat.reduceEqDiff, reduceCtorEq, Nat.reduceAdd, Nat.reduceLeDiff]
  refine wp_call (c_pick b 24 p1 h1 r1 (by omega)) ?_
  rintro q h2 ⟨⟨k, rfl, k0, k1⟩, d2⟩
  have z2 := z1.drew d2 hbn
  obtain ⟨p2, hq1, hq2, r2⟩ := d2.ex
  have d2 := d2.then d1.st (by omega) hp2
  by_cases e0 : k = 0
  · simp +contextual (maxSteps := 2000000) only [go_sem, Nat.reduceEqDiff, reduceCtorEq, Nat.reduceAdd, Nat.reduceLeDiff, decide_eq_true e0]
    refine wp_lit (enc := encI) (k := 1) (l := [100, -100]) rfl rfl ?_
    intro h3 w3 g3 n3 b3
    simp +contextual (maxSteps := 2000000) only [go_sem, Nat.reduceEqDiff, reduceCtorEq, Nat.reduceAdd, Nat.reduceLeDiff]
    refine wp_call (c_one b p2 _ w3 h3 (r2.grow g3) (by omega) (n3.sl lenI) (fun i hi => Nat.lt_of_lt_of_le r2.lt (b3 i hi)) (by decide) (by decide)) ?_
    rintro q h4 ⟨⟨n, _, rfl⟩, d4⟩
    have z4 := (z2.grow g3).drew d4 hbn
    have d4 := (d4.pre g3).then d2.st (by omega) (show p2 ≤ p + ((16 + 1 : Nat) : Int) by omega)
    simp +contextual (maxSteps := 2000000) only [go_sem, Nat.reduceEqDiff, reduceCtorEq, Nat.reduceAdd, Nat.reduceLeDiff]
    refine wp_lit (enc := encI) (k := 1) (l := [n]) rfl rfl ?_
    intro h5 w5 g5 n5 b5
    have z5 := z4.grow g5
    simp +contextual (maxSteps := 2000000) only [go_sem, Nat.reduceEqDiff, reduceCtorEq, Nat.reduceAdd, Nat.reduceLeDiff]
    refine wp_appendD lenI z5.pl (n5.sl lenI) (Nat.le_trans d4.st.n g5.n) (by have := tf.pl; simp; omega) ?_
    intro h6 s6 n6 st6 hb6
    obtain ⟨c6, rfl⟩ := n6.one
    have z6 := z5.appPl n6 st6 hb6
    have d6 := ((d4.grow g5).stay st6 (fun i hi => (z5.pl.lt hi).2) hbn).more (show 16 + 1 + 1 ≤ 21 by omega)
    simp +contextual (maxSteps := 2000000) only [go_sem, Nat.reduceEqDiff, reduceCtorEq, Nat.reduceAdd, Nat.reduceLeDiff]
    exact gcK_drew r d6 ⟨⟨c6, y, _, rfl, z6, ⟨by have := tf.pl; simp; omega, by have := tf.nl; show f.nl.length ≤ _; omega, fun x hx => Nat.le_trans (tf.nm x hx) (by decide)⟩⟩, d6⟩
  by_cases e1 : k = 1
  · simp +contextual (maxSteps := 2000000) only [go_sem, Nat.reduceEqDiff, reduceCtorEq, Nat.reduceAdd, Nat.reduceLeDiff, decide_eq_false e0, decide_eq_true e1]
    refine wp_call (c_anyName b p2 h2 r2 (by omega)) ?_
    rintro q h3 ⟨⟨s, rfl, hs⟩, d3⟩
    have z3 := z2.drew d3 hbn
    obtain ⟨p3, hs1, hs2, r3⟩ := d3.ex
    have d3 := d3.then d2.st (by omega) (show p2 ≤ p + ((16 + 1 : Nat) : Int) by omega)
    simp +contextual (maxSteps := 2000000) only [go_sem, Nat.reduceEqDiff, reduceCtorEq, Nat.reduceAdd, Nat.reduceLeDiff]
    refine wp_call (c_anyNumber b p3 h3 r3 (by omega)) ?_
    rintro q h4 ⟨⟨n, rfl⟩, d4⟩
    have z4 := z3.drew d4 hbn
    have d4 := d4.then d3.st (by omega) (show p3 ≤ p + ((16 + 1 + 2 : Nat) : Int) by omega)
    simp +contextual (maxSteps := 2000000) only [go_sem, Nat.reduceEqDiff, reduceCtorEq, Nat.reduceAdd, Nat.reduceLeDiff]
    refine wp_lit (enc := encP) (k := 2) (l := [⟨s, n⟩]) rfl rfl ?_
    intro h5 w5 g5 n5 b5
    have z5 := z4.grow g5
    simp +contextual (maxSteps := 2000000) only [go_sem, Nat.reduceEqDiff, reduceCtorEq, Nat.reduceAdd, Nat.reduceLeDiff]
    refine wp_appendD lenP z5.nl (n5.sl lenP) (Nat.le_trans d4.st.n g5.n) (by have := tf.nl; simp; omega) ?_
    intro h6 s6 n6 st6 hb6
    obtain ⟨c6, rfl⟩ := n6.one
    have z6 := z5.appNl n6 st6 hb6
    have d6 := (d4.grow g5).stay st6 (fun i hi => (z5.nl.lt hi).2) hbn
    simp +contextual (maxSteps := 2000000) only [go_sem, Nat.reduceEqDiff, reduceCtorEq, Nat.reduceAdd, Nat.reduceLeDiff]
    refine gcK_drew r d6 ⟨⟨x, c6, _, rfl, z6, ⟨by have := tf.pl; show f.pl.length ≤ _; omega, by have := tf.nl; simp; omega, fun w hw => ?_⟩⟩, d6⟩
    rcases List.mem_append.1 hw with e | e
    · exact Nat.le_trans (tf.nm w e) (by decide)
    · rw [List.mem_singleton.1 e]; exact Nat.le_trans hs (by decide)
  by_cases e2 : k = 2
  · simp +contextual (maxSteps := 2000000) only [go_sem, Nat.reduceEqDiff, reduceCtorEq, Nat.reduceAdd, Nat.reduceLeDiff, decide_eq_false e0, decide_eq_false e1, decide_eq_true e2]
    refine wp_make (enc := encI) (k := 1) (n := 9) 0 rfl (by omega) (by omega) ?_
    intro h3 w3 g3 n3 b3
    obtain ⟨c3, rfl⟩ := n3.one
    have z3 : NwF h h3 c3 y ⟨List.replicate 9 0, f.nl⟩ := ⟨n3.from d2.st.n, z2.nl.grow g3, (z2.nl.apart n3).symm⟩
    have d3 := (d2.grow g3).more (show 16 + 1 ≤ 21 by omega)
    simp +contextual (maxSteps := 2000000) only [go_sem, Nat.reduceEqDiff, reduceCtorEq, Nat.reduceAdd, Nat.reduceLeDiff]
    exact gcK_drew r d3 ⟨⟨c3, y, _, rfl, z3, ⟨by simp, by have := tf.nl; show f.nl.length ≤ _; omega, fun x hx => Nat.le_trans (tf.nm x hx) (by decide)⟩⟩, d3⟩
  · have d3 := d2.more (show 16 + 1 ≤ 21 by omega)
    simp +contextual (maxSteps := 2000000) only [go_sem, Nat.reduceEqDiff, reduceCtorEq, Nat.reduceAdd, Nat.reduceLeDiff, decide_eq_false e0, decide_eq_false e1, decide_eq_false e2]
    exact gcK_drew r d3 ⟨⟨x, y, f, rfl, z2, tf.mini⟩, d3⟩
end Go.Proofs.Ytekkimfdcbgcoab.Am
