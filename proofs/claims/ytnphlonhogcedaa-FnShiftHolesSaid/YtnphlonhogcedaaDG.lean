/- Contracts: what is drawn: numbers, names, flat calls. -/
import Derived.Test.YtnphlonhogcedaaDR
import Derived.Test.YtnphlonhogcedaaB2
import Derived.Test.YtnphlonhogcedaaBY
namespace Go.Proofs.Ytnphlonhogcedaa.Am
open Go
set_option maxRecDepth 100000
set_option maxHeartbeats 4000000
set_option linter.unusedSimpArgs false
set_option linter.unusedVariables false
attribute [local go_sem ↓] bv_t bv_c ev_t ev_c put_same put_ne put_none kill_at pro_at lb_same lb_ne start_zero start_succ wpC_seq wpC_reg wpC_cond wpC_block wpC_skip wpC_exit wpC_ret thenQ_normal thenQ_exit thenQ_ret inBlk_normal inBlk_exit inBlk_ret wpS_nil wpS_step wpS_again wpS_guard wpO_mov wpO_load wpO_faddr wpO_nilCheck wpO_pick wpO_build wpO_bin wpO_eqb wpO_eqst wpO_eqnil wpO_not wpO_conv wpO_bytesStr wpO_iaddr wpO_idxStr wpO_field wpO_extract wpO_len wpO_lenStr wpO_cap wpO_min wpO_slice wpO_sliceStr wpO_alloc wpO_box wpO_store wpO_call wpO_callv wpO_mkfn wpO_buildSlice wpO_mkslice wpO_append wpO_appz proA_nil proA_cons tmpX_nil tmpX_tmp tmpX_cell doneB_normal doneB_ret agK_cons agK_nil agK_guard agG_tt agG_ff agG_tf agG_ft agG_undef pureB_load results_one results_two results_nil resBs_cons resBs_nil resB_tmp resB_cell
attribute [local go_sem] kill_v kill_lp_ne kill_lp_same pro_v pro_lp_same pro_lp_ne av_v av_lp optB_some optX_some valX_eq ldX_lp ldX_v faX_lp faX_v ncX_lp ncX_ptr ncX_fn boxK_one boxK_agg stL_some stK_lp_one stK_lp_agg stK_v_one stK_v_agg proM_v proM_lp callG_mk callVG_mk callvK_fn fnG_mk ptrsA_nil ptrsA_cons callH_some whenA_true whenA_false guardH_tt guardH_ff guardH_tf guardH_ft guardH_undef agV_one agV_agg lenO_sl lenStrO_str notO_bool pickO_bool convO_int eqbO_bool eqnilO_sl extractO_tup capO_sl minO_int loadL_one loadL_all storeL_eq fillA_nil fillA_one fillA_agg nat_ge neg_ge nat_lt neg_lt buildO bin_add bin_sub bin_mul bin_eql bin_neq bin_lss bin_leq bin_gtr bin_geq str_eql str_neq str_lss str_leq str_gtr str_geq retK_some endK_mk gcK_same gcK_int gcK_bool tupO_one tupO_agg rdy_self ib ii Option.map_none Option.map_some Option.some.injEq exists_eq_left' exists_eq_left ne_eq not_false_eq_true if_true if_false List.map_cons List.map_nil List.getElem?_cons_zero List.getElem?_cons_succ List.length_cons List.length_nil List.take_succ_cons List.take_zero List.take_nil List.drop_succ_cons List.drop_zero List.drop_nil List.cons_append List.nil_append List.append_nil List.set_cons_zero List.set_cons_succ Nat.zero_add forall_const true_and and_true and_self Bool.false_eq_true false_implies true_implies implies_true Bool.not_true Bool.not_false Bool.not_eq_true' Bool.not_eq_false' beq_self_eq_true Bool.bne_true Bool.bne_false
attribute [local go_sem] lenI lenS lenP lenQ lenB lenL lenT encI_0 encS_0 encP_0 encP_1 encQ_0 encQ_1 encQ_2 encQ_3 encB_0 encB_1 encL_0 encL_1 encT_0 encT_1
attribute [local go_sem low] whenA_bool guardH_bool
def H.cut (h : H) (n : Nat) : H := ⟨n, h.f⟩
theorem H.cut_grow {h : H} {n : Nat} (hn : n ≤ h.n) : Grow (h.cut n) h := ⟨hn, fun _ _ => rfl⟩
def pR (b : Nat) : AV := .one (.ptr (some (b, 0)))
theorem Drew.pre {h h1 h2 : H} {b c : Nat} {p : Int} (d : Drew b p c h1 h2) (g : Grow h h1) : Drew b p c h h2 := ⟨(g.stay _).trans d.st, d.ex⟩
theorem Nw.drew {α : Type} {enc : α → List CV} {k ty b c : Nat} {p : Int} {h0 h1 h2 : H} {v : AV} {l : List α} (z : Nw enc k ty h0 h1 v l) (d : Drew b p c h1 h2) (hb : b < h0.n) : Nw enc k ty h0 h2 v l :=
  z.stay d.st fun i hi e => by have := (z.lt hi).2; simp [bR, baseOf] at e; omega
theorem NwF.drew {b c : Nat} {p : Int} {h0 h1 h2 : H} {x y : CV} {f : Flat} (z : NwF h0 h1 x y f) (d : Drew b p c h1 h2) (hb : b < h0.n) : NwF h0 h2 x y f := ⟨z.pl.drew d hb, z.nl.drew d hb, z.sep⟩
theorem wp_appendD {α : Type} {enc : α → List CV} {k ty b : Nat} {T : Tb} {L : Lb} {K : Post} {h0 h : H} {s x : AV} {l m : List α} {d : Option Nat} (he : ∀ x, (enc x).length = k) (hs : Nw enc k ty h0 h s l) (hx : Sl enc k ty h x m) (hn : h0.n ≤ h.n) (hb : (l.length + m.length) * b ≤ 140737488355328)
    (hk : ∀ h1 s', Nw enc k ty h0 h1 s' (l ++ m) → Stay s h h1 → (∀ i, baseOf s' = some i → baseOf s = some i ∨ h.n ≤ i) → K (T.put d (.v s')) L (rdy h1)) : apK ty k b s x d T L h K :=
  wp_append he (hs.from (h0 := h.cut h0.n) (Nat.le_refl _)) hx (H.cut_grow hn) hb fun h1 s' _ n st hb4 => hk h1 s' (n.from (h0 := h0) (Nat.le_refl _)) st hb4
theorem putP_in {l : List Pair} {x y : Pair} (h : y ∈ putP l x) : y ∈ l ∨ y = x := by
  unfold putP at h
  split at h
  · rcases List.mem_or_eq_of_mem_set h with e | e
    · exact .inl e
    · exact .inr e
  · rcases List.mem_append.1 h with e | e
    · exact .inl e
    · exact .inr (by simpa using e)
theorem putP_short {l : List Pair} {x : Pair} : (putP l x).length ≤ l.length + 1 := by
  unfold putP
  split
  · simp
  · simp
/-- Small: what is drawn. -/
structure tinyF (f : Flat) : Prop where
  pl : f.pl.length ≤ 10
  nl : f.nl.length ≤ 10
  nm : ∀ x ∈ f.nl, x.name.size ≤ 10
theorem tinyF.mini {f : Flat} (t : tinyF f) : miniF f := ⟨Nat.le_trans t.pl (by decide), Nat.le_trans t.nl (by decide), fun x hx => Nat.le_trans (t.nm x hx) (by decide)⟩
/-! spec.aNumber -/
def L207_0 : List AStep := [⟨.mov (.c (.int .i64 0)), (some 2), none, []⟩]
theorem v207_0 : VS L207_0.eq_1 := rfl
def L207_1 : List AStep := [⟨.call 155 [(.t 3), (.t 4)], (some 5), none, []⟩, ⟨.mov (.t 5), (some 2), none, []⟩]
theorem v207_1 : VS L207_1.eq_1 := rfl
def L207_2 : List AStep := ⟨.mov (.t 0), (some 3), none, []⟩ :: ⟨.buildSlice 3 9 [(.int .i64 0)] [(0, 1, (.c (.int .i64 1))), (1, 1, (.c (.int .i64 2))), (2, 1, (.c (.int .i64 3))), (3, 1, (.c (.int .i64 0))), (4, 1, (.c (.int .i64 5))), (5, 1, (.c (.int .i64 (-1)))), (6, 1, (.c (.int .i64 7))), (7, 1, (.c (.int .i64 99))), (8, 1, (.c (.int .i64 (-99))))], (some 4), none, []⟩ :: L207_1
theorem v207_2 : VS L207_2.eq_1 := rfl
def C207_0 : ACode := .seq (.reg L207_2) .ret
theorem u207_0 : VC C207_0.eq_1 := rfl
def C207_1 : ACode := .seq (.reg L207_0) C207_0
theorem u207_1 : VC C207_1.eq_1 := rfl
def F207 : AFunc := ⟨6, [.tmp 2], C207_1⟩
theorem cF207 : compB Try.prog 207 = some F207 := by kernel_rfl
attribute [local go_sem ↓] u207_0 u207_1 v207_0 v207_1 v207_2
theorem c_aNumber (b : Nat) (p : Int) (h : H) (r : Rd h b p) (hp : p ≤ 2 ^ 40) : callK (bm Try.prog 207 [.one (.ptr (some (b, 0)))] h) fun q h' => (∃ n, q = ii n) ∧ Drew b p 1 h h' := by
  refine bm_of cF207 ?_
  simp +contextual (maxSteps := 2000000) only [go_sem, Nat.reduceEqDiff, reduceCtorEq, Nat.reduceAdd, Nat.reduceLeDiff, F207]
  refine wp_lit (enc := encI) (k := 1) (l := [1, 2, 3, 0, 5, -1, 7, 99, -99]) rfl rfl ?_
  intro h1 w g1 n1 b1
  simp +contextual (maxSteps := 2000000) only [go_sem, Nat.reduceEqDiff, reduceCtorEq, Nat.reduceAdd, Nat.reduceLeDiff]
  refine wp_call (c_one b p _ w h1 (r.grow g1) hp (n1.sl lenI) (fun i hi => Nat.lt_of_lt_of_le r.lt (b1 i hi)) (by decide) (by decide)) ?_
  rintro q h2 ⟨⟨n, _, rfl⟩, d⟩
  have d := d.pre g1
  simp +contextual (maxSteps := 2000000) only [go_sem, Nat.reduceEqDiff, reduceCtorEq, Nat.reduceAdd, Nat.reduceLeDiff]
  exact gcK_drew r d ⟨⟨_, rfl⟩, d⟩
/-! spec.aName -/
def L208_0 : List AStep := [⟨.mov (.c (.str (strOfNums []))), (some 2), none, []⟩]
theorem v208_0 : VS L208_0.eq_1 := rfl
def L208_1 : List AStep := [⟨.call 209 [(.t 3), (.t 4)], (some 5), none, []⟩, ⟨.mov (.t 5), (some 2), none, []⟩]
theorem v208_1 : VS L208_1.eq_1 := rfl
def L208_2 : List AStep := ⟨.mov (.t 0), (some 3), none, []⟩ :: ⟨.buildSlice 9 9 [(.str (strOfNums []))] [(0, 1, (.c (.str (strOfNums [97])))), (1, 1, (.c (.str (strOfNums [98])))), (2, 1, (.c (.str (strOfNums [99])))), (3, 1, (.c (.str (strOfNums [100])))), (4, 1, (.c (.str (strOfNums [120])))), (5, 1, (.c (.str (strOfNums [121])))), (6, 1, (.c (.str (strOfNums [97])))), (7, 1, (.c (.str (strOfNums [98])))), (8, 1, (.c (.str (strOfNums [99]))))], (some 4), none, []⟩ :: L208_1
theorem v208_2 : VS L208_2.eq_1 := rfl
def C208_0 : ACode := .seq (.reg L208_2) .ret
theorem u208_0 : VC C208_0.eq_1 := rfl
def C208_1 : ACode := .seq (.reg L208_0) C208_0
theorem u208_1 : VC C208_1.eq_1 := rfl
def F208 : AFunc := ⟨6, [.tmp 2], C208_1⟩
theorem cF208 : compB Try.prog 208 = some F208 := by kernel_rfl
attribute [local go_sem ↓] u208_0 u208_1 v208_0 v208_1 v208_2
theorem c_aName (b : Nat) (p : Int) (h : H) (r : Rd h b p) (hp : p ≤ 2 ^ 40) : callK (bm Try.prog 208 [.one (.ptr (some (b, 0)))] h) fun q h' => (∃ s, q = .one (.str s) ∧ s.size ≤ 10) ∧ Drew b p 1 h h' := by
  refine bm_of cF208 ?_
  simp +contextual (maxSteps := 2000000) only [go_sem, Nat.reduceEqDiff, reduceCtorEq, Nat.reduceAdd, Nat.reduceLeDiff, F208]
  refine wp_lit (enc := encS) (k := 1) (l := [strOfNums [97], strOfNums [98], strOfNums [99], strOfNums [100], strOfNums [120], strOfNums [121], strOfNums [97], strOfNums [98], strOfNums [99]]) rfl rfl ?_
  intro h1 w g1 n1 b1
  simp +contextual (maxSteps := 2000000) only [go_sem, Nat.reduceEqDiff, reduceCtorEq, Nat.reduceAdd, Nat.reduceLeDiff]
  refine wp_call (c_of b p _ w h1 (r.grow g1) hp (n1.sl lenS) (fun i hi => Nat.lt_of_lt_of_le r.lt (b1 i hi)) (by decide) (by decide)) ?_
  rintro q h2 ⟨⟨s, hs, rfl⟩, d⟩
  have d := d.pre g1
  simp +contextual (maxSteps := 2000000) only [go_sem, Nat.reduceEqDiff, reduceCtorEq, Nat.reduceAdd, Nat.reduceLeDiff]
  exact gcK_drew r d ⟨⟨_, rfl, by
    simp only [List.mem_cons, List.not_mem_nil, or_false] at hs
    rcases hs with rfl | rfl | rfl | rfl | rfl | rfl | rfl | rfl | rfl <;> exact Nat.le_of_ble_eq_true rfl⟩, d⟩
/-! spec.goodFlat -/
def L196_0 : List AStep := [⟨.alloc 30 [(.sl none 0 (some 0)), (.sl none 0 (some 0))], (some 2), none, []⟩]
theorem v196_0 : VS L196_0.eq_1 := rfl
def L196_1 : List AStep := [⟨.store 2 (.t 3) (.t 8), none, none, []⟩]
theorem v196_1 : VS L196_1.eq_1 := rfl
def L196_2 : List AStep := ⟨.build [(.sl none 0 (some 0)), (.sl none 0 (some 0))] [(0, 1, (.t 6)), (1, 1, (.t 7))], (some 8), none, []⟩ :: ⟨.alloc 30 [(.sl none 0 (some 0)), (.sl none 0 (some 0))], (some 3), none, []⟩ :: L196_1
theorem v196_2 : VS L196_2.eq_1 := rfl
def L196_3 : List AStep := ⟨.buildSlice 3 0 [(.int .i64 0)] [], (some 6), none, []⟩ :: ⟨.buildSlice 86 0 [(.str (strOfNums [])), (.int .i64 0)] [], (some 7), none, []⟩ :: L196_2
theorem v196_3 : VS L196_3.eq_1 := rfl
def L196_4 : List AStep := [⟨.call 155 [(.t 9), (.t 10)], (some 11), none, []⟩, ⟨.mov (.t 11), (some 4), none, []⟩]
theorem v196_4 : VS L196_4.eq_1 := rfl
def L196_5 : List AStep := ⟨.mov (.t 0), (some 9), none, []⟩ :: ⟨.buildSlice 3 6 [(.int .i64 0)] [(0, 1, (.c (.int .i64 2))), (1, 1, (.c (.int .i64 1))), (2, 1, (.c (.int .i64 3))), (3, 1, (.c (.int .i64 0))), (4, 1, (.c (.int .i64 4))), (5, 1, (.c (.int .i64 8)))], (some 10), none, []⟩ :: L196_4
theorem v196_5 : VS L196_5.eq_1 := rfl
def L196_6 : List AStep := [⟨.mov (.t 4), (some 12), none, []⟩, ⟨.bin .gtr (.t 12) (.c (.int .i64 0)), (some 13), none, []⟩]
theorem v196_6 : VS L196_6.eq_1 := rfl
def L196_7 : List AStep := [⟨.faddr 0 (.t 3), (some 22), none, []⟩, ⟨.store 1 (.t 22) (.t 21), none, none, []⟩]
theorem v196_7 : VS L196_7.eq_1 := rfl
def L196_8 : List AStep := ⟨.buildSlice 3 1 [(.int .i64 0)] [(0, 1, (.t 19))], (some 20), none, []⟩ :: ⟨.append 3 1 8 (.t 17) (.t 20), (some 21), none, []⟩ :: L196_7
theorem v196_8 : VS L196_8.eq_1 := rfl
def L196_9 : List AStep := ⟨.mov (.t 0), (some 18), none, []⟩ :: ⟨.call 207 [(.t 18)], (some 19), none, [(.load 1 false (.t 16), (some 17), none)]⟩ :: L196_8
theorem v196_9 : VS L196_9.eq_1 := rfl
def L196_10 : List AStep := ⟨.faddr 0 (.t 3), (some 16), none, []⟩ :: ⟨.load 1 false (.t 16), (some 17), none, []⟩ :: L196_9
theorem v196_10 : VS L196_10.eq_1 := rfl
def L196_11 : List AStep := [⟨.mov (.t 15), (some 4), none, []⟩]
theorem v196_11 : VS L196_11.eq_1 := rfl
def L196_12 : List AStep := ⟨.mov (.t 4), (some 14), none, []⟩ :: ⟨.bin .sub (.t 14) (.c (.int .i64 1)), (some 15), none, []⟩ :: L196_11
theorem v196_12 : VS L196_12.eq_1 := rfl
def L196_13 : List AStep := [⟨.call 155 [(.t 23), (.t 24)], (some 25), none, []⟩, ⟨.mov (.t 25), (some 5), none, []⟩]
theorem v196_13 : VS L196_13.eq_1 := rfl
def L196_14 : List AStep := ⟨.mov (.t 0), (some 23), none, []⟩ :: ⟨.buildSlice 3 5 [(.int .i64 0)] [(0, 1, (.c (.int .i64 1))), (1, 1, (.c (.int .i64 2))), (2, 1, (.c (.int .i64 0))), (3, 1, (.c (.int .i64 3))), (4, 1, (.c (.int .i64 0)))], (some 24), none, []⟩ :: L196_13
theorem v196_14 : VS L196_14.eq_1 := rfl
def L196_15 : List AStep := [⟨.mov (.t 5), (some 26), none, []⟩, ⟨.bin .gtr (.t 26) (.c (.int .i64 0)), (some 27), none, []⟩]
theorem v196_15 : VS L196_15.eq_1 := rfl
def L196_16 : List AStep := [⟨.faddr 1 (.t 3), (some 38), none, []⟩, ⟨.store 1 (.t 38) (.t 37), none, none, []⟩]
theorem v196_16 : VS L196_16.eq_1 := rfl
def L196_17 : List AStep := ⟨.build [(.str (strOfNums [])), (.int .i64 0)] [(0, 1, (.t 33)), (1, 1, (.t 35))], (some 36), none, []⟩ :: ⟨.call 90 [(.t 31), (.t 36)], (some 37), none, []⟩ :: L196_16
theorem v196_17 : VS L196_17.eq_1 := rfl
def L196_18 : List AStep := ⟨.call 208 [(.t 32)], (some 33), none, [(.load 1 false (.t 30), (some 31), none)]⟩ :: ⟨.call 207 [(.t 34)], (some 35), none, [(.load 1 false (.t 30), (some 31), none)]⟩ :: L196_17
theorem v196_18 : VS L196_18.eq_1 := rfl
def L196_19 : List AStep := ⟨.mov (.t 0), (some 32), none, []⟩ :: ⟨.mov (.t 0), (some 34), none, []⟩ :: L196_18
theorem v196_19 : VS L196_19.eq_1 := rfl
def L196_20 : List AStep := ⟨.faddr 1 (.t 3), (some 30), none, []⟩ :: ⟨.load 1 false (.t 30), (some 31), none, []⟩ :: L196_19
theorem v196_20 : VS L196_20.eq_1 := rfl
def L196_21 : List AStep := [⟨.mov (.t 29), (some 5), none, []⟩]
theorem v196_21 : VS L196_21.eq_1 := rfl
def L196_22 : List AStep := ⟨.mov (.t 5), (some 28), none, []⟩ :: ⟨.bin .sub (.t 28) (.c (.int .i64 1)), (some 29), none, []⟩ :: L196_21
theorem v196_22 : VS L196_22.eq_1 := rfl
def L196_23 : List AStep := [⟨.load 2 true (.t 3), (some 39), none, []⟩, ⟨.store 2 (.t 2) (.t 39), none, none, []⟩]
theorem v196_23 : VS L196_23.eq_1 := rfl
def C196_0 : ACode := .cond (.t 13) .skip (.exit 0)
theorem u196_0 : VC C196_0.eq_1 := rfl
def C196_1 : ACode := .seq (.reg L196_6) C196_0
theorem u196_1 : VC C196_1.eq_1 := rfl
def C196_2 : ACode := .block 1 (.reg L196_10)
theorem u196_2 : VC C196_2.eq_1 := rfl
def C196_3 : ACode := .seq C196_2 (.reg L196_12)
theorem u196_3 : VC C196_3.eq_1 := rfl
def C196_4 : ACode := .seq C196_1 C196_3
theorem u196_4 : VC C196_4.eq_1 := rfl
def C196_5 : ACode := .block 0 (.loop C196_4)
theorem u196_5 : VC C196_5.eq_1 := rfl
def C196_6 : ACode := .seq (.reg L196_5) C196_5
theorem u196_6 : VC C196_6.eq_1 := rfl
def C196_7 : ACode := .cond (.t 27) .skip (.exit 2)
theorem u196_7 : VC C196_7.eq_1 := rfl
def C196_8 : ACode := .seq (.reg L196_15) C196_7
theorem u196_8 : VC C196_8.eq_1 := rfl
def C196_9 : ACode := .block 3 (.reg L196_20)
theorem u196_9 : VC C196_9.eq_1 := rfl
def C196_10 : ACode := .seq C196_9 (.reg L196_22)
theorem u196_10 : VC C196_10.eq_1 := rfl
def C196_11 : ACode := .seq C196_8 C196_10
theorem u196_11 : VC C196_11.eq_1 := rfl
def C196_12 : ACode := .block 2 (.loop C196_11)
theorem u196_12 : VC C196_12.eq_1 := rfl
def C196_13 : ACode := .seq (.reg L196_14) C196_12
theorem u196_13 : VC C196_13.eq_1 := rfl
def C196_14 : ACode := .seq (.reg L196_23) .ret
theorem u196_14 : VC C196_14.eq_1 := rfl
def C196_15 : ACode := .seq C196_13 C196_14
theorem u196_15 : VC C196_15.eq_1 := rfl
def C196_16 : ACode := .seq C196_6 C196_15
theorem u196_16 : VC C196_16.eq_1 := rfl
def C196_17 : ACode := .seq (.reg L196_3) C196_16
theorem u196_17 : VC C196_17.eq_1 := rfl
def C196_18 : ACode := .seq (.reg L196_0) C196_17
theorem u196_18 : VC C196_18.eq_1 := rfl
def F196 : AFunc := ⟨40, [.cell 2 2 true], C196_18⟩
theorem cF196 : compB Try.prog 196 = some F196 := by kernel_rfl
attribute [local go_sem ↓] u196_0 u196_1 u196_2 u196_3 u196_4 u196_5 u196_6 u196_7 u196_8 u196_9 u196_10 u196_11 u196_12 u196_13 u196_14 u196_15 u196_16 u196_17 u196_18 v196_0 v196_1 v196_2 v196_3 v196_4 v196_5 v196_6 v196_7 v196_8 v196_9 v196_10 v196_11 v196_12 v196_13 v196_14 v196_15 v196_16 v196_17 v196_18 v196_19 v196_20 v196_21 v196_22 v196_23
theorem c_goodFlat (b : Nat) (p : Int) (h : H) (r : Rd h b p) (hp : p ≤ 2 ^ 39) : callK (bm Try.prog 196 [.one (.ptr (some (b, 0)))] h) fun q h' => (∃ x y f, q = .agg [x, y] ∧ NwF h h' x y f ∧ tinyF f) ∧ Drew b p 16 h h' := by
  refine bm_of cF196 ?_
  have hbn := r.lt
  simp +contextual (maxSteps := 2000000) only [go_sem, Nat.reduceEqDiff, reduceCtorEq, Nat.reduceAdd, Nat.reduceLeDiff, F196]
  refine wp_lit (enc := encI) (k := 1) (l := []) rfl rfl ?_
  intro h1 w1 g1 n1 b1
  obtain ⟨c1, rfl⟩ := n1.one
  simp +contextual (maxSteps := 2000000) only [go_sem, Nat.reduceEqDiff, reduceCtorEq, Nat.reduceAdd, Nat.reduceLeDiff]
  refine wp_lit (enc := encP) (k := 2) (l := []) rfl rfl ?_
  intro h2 w2 g2 n2 b2
  obtain ⟨c2, rfl⟩ := n2.one
  simp +contextual (maxSteps := 2000000) only [go_sem, Nat.reduceEqDiff, reduceCtorEq, Nat.reduceAdd, Nat.reduceLeDiff]
  have y2 : NwF h h2 c1 c2 ⟨[], []⟩ := ⟨n1.grow g2, n2.from g1.n, n1.apart n2⟩
  refine wp_lit (enc := encI) (k := 1) (l := [2, 1, 3, 0, 4, 8]) rfl rfl ?_
  intro h3 w3 g3 n3 b3
  simp +contextual (maxSteps := 2000000) only [go_sem, Nat.reduceEqDiff, reduceCtorEq, Nat.reduceAdd, Nat.reduceLeDiff]
  have g13 := (g1.trans g2).trans g3
  refine wp_call (c_one b p _ w3 h3 (r.grow g13) (by omega) (n3.sl lenI) (fun i hi => Nat.lt_of_lt_of_le hbn (Nat.le_trans (g1.trans g2).n (b3 i hi))) (by decide) (by decide)) ?_
  rintro q h4 ⟨⟨m, hm, rfl⟩, d4⟩
  have hm8 : 0 ≤ m ∧ m ≤ 8 := by simp at hm; omega
  obtain ⟨m, rfl⟩ := Int.eq_ofNat_of_zero_le hm8.1
  have y4 := (y2.grow g3).drew d4 hbn
  have d4 := d4.pre g13
  simp +contextual (maxSteps := 2000000) only [go_sem, Nat.reduceEqDiff, reduceCtorEq, Nat.reduceAdd, Nat.reduceLeDiff]
  refine wpC_loop (fun k T L h' => T 0 = .v (.one (.ptr (some (b, 0)))) ∧ T 2 = .lp 2 0 ∧ (L 2).2 = [.sl none 0 (some 0), .sl none 0 (some 0)] ∧ T 3 = .lp 3 0 ∧ (∃ x y f, (L 3).2 = [x, y] ∧ NwF h h' x y f ∧ f.pl.length ≤ k ∧ f.nl = []) ∧ T 4 = .v (.one (.int .i64 ((m - k : Nat) : Int))) ∧ Drew b p (1 + k) h h') m ?_ ?_ (Nat.zero_le _) ?_
  · rintro k T L h' hk ⟨t0, t2, l2, t3, ⟨x, y, f, l3, z, z1, z2⟩, t4, d⟩
    obtain ⟨j, hj⟩ : ∃ j, m - k = j + 1 := ⟨m - k - 1, by omega⟩
    rw [hj] at t4
    have a3 : decide (((j + 1 : Nat) : Int) > 0) = true := decide_eq_true (by omega)
    obtain ⟨p', hp1, hp2, r'⟩ := d.ex
    simp +contextual (maxSteps := 2000000) only [go_sem, Nat.reduceEqDiff, reduceCtorEq, Nat.reduceAdd, Nat.reduceLeDiff, t0, t2, l2, t3, l3, t4, a3]
    refine wp_call (c_aNumber b p' h' r' (by omega)) ?_
    rintro q h5 ⟨⟨n, rfl⟩, d5⟩
    have z5 := z.drew d5 hbn
    have d5 := d5.then d.st (by omega) hp2
    simp +contextual (maxSteps := 2000000) only [go_sem, Nat.reduceEqDiff, reduceCtorEq, Nat.reduceAdd, Nat.reduceLeDiff, t0, t2, l2, t3, l3, t4]
    refine wp_lit (enc := encI) (k := 1) (l := [n]) rfl rfl ?_
    intro h6 w6 g6 n6 b6
    have z6 := z5.grow g6
    simp +contextual (maxSteps := 2000000) only [go_sem, Nat.reduceEqDiff, reduceCtorEq, Nat.reduceAdd, Nat.reduceLeDiff, t0, t2, l2, t3, l3, t4]
    refine wp_appendD lenI z6.pl (n6.sl lenI) (Nat.le_trans d5.st.n g6.n) (by simp; omega) ?_
    intro h7 s7 n7 st7 hb7
    obtain ⟨c7, rfl⟩ := n7.one
    have z7 := z6.appPl n7 st7 hb7
    have d7 := (d5.grow g6).stay st7 (fun i hi => (z6.pl.lt hi).2) hbn
    simp +contextual (maxSteps := 2000000) only [go_sem, Nat.reduceEqDiff, reduceCtorEq, Nat.reduceAdd, Nat.reduceLeDiff, t0, t2, l2, t3, l3, t4, wrap_pred (show j < 2 ^ 62 by omega)]
    exact ⟨⟨c7, y, _, rfl, z7, by simp; omega, z2⟩, by rw [show m - (k + 1) = j by omega], d7⟩
  · rintro T L h' ⟨t0, t2, l2, t3, ⟨x, y, f, l3, z, z1, z2⟩, t4, d⟩
    rw [Nat.sub_self] at t4
    have hz : decide (((0 : Nat) : Int) > 0) = false := rfl
    obtain ⟨p', hp1, hp2, r'⟩ := d.ex
    simp +contextual (maxSteps := 2000000) only [go_sem, Nat.reduceEqDiff, reduceCtorEq, Nat.reduceAdd, Nat.reduceLeDiff, t0, t2, l2, t3, l3, t4, hz]
    refine wp_lit (enc := encI) (k := 1) (l := [1, 2, 0, 3, 0]) rfl rfl ?_
    intro h5 w5 g5 n5 b5
    simp +contextual (maxSteps := 2000000) only [go_sem, Nat.reduceEqDiff, reduceCtorEq, Nat.reduceAdd, Nat.reduceLeDiff, t0, t2, l2, t3, l3, t4]
    refine wp_call (c_one b p' _ w5 h5 (r'.grow g5) (by omega) (n5.sl lenI) (fun i hi => Nat.lt_of_lt_of_le r'.lt (b5 i hi)) (by decide) (by decide)) ?_
    rintro q h6 ⟨⟨v, hv, rfl⟩, d6⟩
    have hv8 : 0 ≤ v ∧ v ≤ 3 := by simp at hv; omega
    obtain ⟨v, rfl⟩ := Int.eq_ofNat_of_zero_le hv8.1
    have z6 := (z.grow g5).drew d6 hbn
    have d6 := (d6.pre g5).then d.st (by omega) hp2
    simp +contextual (maxSteps := 2000000) only [go_sem, Nat.reduceEqDiff, reduceCtorEq, Nat.reduceAdd, Nat.reduceLeDiff, t0, t2, l2, t3, l3, t4]
    refine wpC_loop (fun k T L h' => T 0 = .v (.one (.ptr (some (b, 0)))) ∧ T 2 = .lp 2 0 ∧ (L 2).2 = [.sl none 0 (some 0), .sl none 0 (some 0)] ∧ T 3 = .lp 3 0 ∧ (∃ x y f, (L 3).2 = [x, y] ∧ NwF h h' x y f ∧ f.pl.length ≤ m ∧ f.nl.length ≤ k ∧ ∀ x ∈ f.nl, x.name.size ≤ 10) ∧ T 5 = .v (.one (.int .i64 ((v - k : Nat) : Int))) ∧ Drew b p (1 + m + 1 + 2 * k) h h') v ?_ ?_ (Nat.zero_le _) ?_
    · rintro k T L h' hk ⟨t0, t2, l2, t3, ⟨x, y, f, l3, z, z1, z2, z3⟩, t5, d⟩
      obtain ⟨j, hj⟩ : ∃ j, v - k = j + 1 := ⟨v - k - 1, by omega⟩
      rw [hj] at t5
      have a3 : decide (((j + 1 : Nat) : Int) > 0) = true := decide_eq_true (by omega)
      obtain ⟨p', hp1, hp2, r'⟩ := d.ex
      simp +contextual (maxSteps := 2000000) only [go_sem, Nat.reduceEqDiff, reduceCtorEq, Nat.reduceAdd, Nat.reduceLeDiff, t0, t2, l2, t3, l3, t5, a3]
      refine wp_call (c_aName b p' h' r' (by omega)) ?_
      rintro q h5 ⟨⟨s, rfl, hs⟩, d5⟩
      have z5 := z.drew d5 hbn
      obtain ⟨p2, hq1, hq2, r2⟩ := d5.ex
      have d5 := d5.then d.st (by omega) hp2
      simp +contextual (maxSteps := 2000000) only [go_sem, Nat.reduceEqDiff, reduceCtorEq, Nat.reduceAdd, Nat.reduceLeDiff, t0, t2, l2, t3, l3, t5]
      refine wp_call (c_aNumber b p2 h5 r2 (by omega)) ?_
      rintro q h6 ⟨⟨n, rfl⟩, d6⟩
      have z6 := z5.drew d6 hbn
      have d6 := d6.then d5.st (by omega) (show p2 ≤ p + ((1 + m + 1 + 2 * k + 1 : Nat) : Int) by omega)
      simp +contextual (maxSteps := 2000000) only [go_sem, Nat.reduceEqDiff, reduceCtorEq, Nat.reduceAdd, Nat.reduceLeDiff, t0, t2, l2, t3, l3, t5]
      refine wp_call (c_putPair f.nl (.one y) ⟨s, n⟩ h6 z6.sl.nl ⟨by unfold big; omega, fun x hx => Nat.le_trans (z3 x hx) (by decide)⟩) ?_
      rintro q h7 ⟨g7, n7⟩
      obtain ⟨c7, rfl⟩ := n7.one
      have z7 : NwF h h7 x c7 ⟨f.pl, putP f.nl ⟨s, n⟩⟩ := ⟨z6.pl.grow g7, n7.from d6.st.n, z6.pl.apart n7⟩
      simp +contextual (maxSteps := 2000000) only [go_sem, Nat.reduceEqDiff, reduceCtorEq, Nat.reduceAdd, Nat.reduceLeDiff, t0, t2, l2, t3, l3, t5, wrap_pred (show j < 2 ^ 62 by omega)]
      refine ⟨⟨x, c7, _, rfl, z7, z1, Nat.le_trans putP_short (by omega), fun w hw => ?_⟩, by rw [show v - (k + 1) = j by omega], d6.grow g7⟩
      rcases putP_in hw with e | e
      · exact z3 w e
      · rw [e]; exact hs
    · rintro T L h' ⟨t0, t2, l2, t3, ⟨x, y, f, l3, z, z1, z2, z3⟩, t5, d⟩
      rw [Nat.sub_self] at t5
      simp +contextual (maxSteps := 2000000) only [go_sem, Nat.reduceEqDiff, reduceCtorEq, Nat.reduceAdd, Nat.reduceLeDiff, t0, t2, l2, t3, l3, t5, hz]
      have d := d.more (show 1 + m + 1 + 2 * v ≤ 16 by omega)
      exact gcK_drew r d ⟨⟨x, y, f, rfl, z, ⟨by omega, by omega, z3⟩⟩, d⟩
    · simp +contextual (maxSteps := 2000000) only [go_sem, Nat.reduceEqDiff, reduceCtorEq, Nat.reduceAdd, Nat.reduceLeDiff, t0, t2, l2, t3, l3, t4]
      exact ⟨⟨x, y, f, rfl, z6, z1, by rw [z2]; exact Nat.le_refl 0, by rw [z2]; simp⟩, rfl, d6.more (by omega)⟩
  · simp +contextual (maxSteps := 2000000) only [go_sem, Nat.reduceEqDiff, reduceCtorEq, Nat.reduceAdd, Nat.reduceLeDiff]
    exact ⟨⟨c1, c2, ⟨[], []⟩, rfl, y4, Nat.le_refl 0, rfl⟩, rfl, d4⟩
/-! spec.anyName -/
def L157_0 : List AStep := [⟨.mov (.c (.str (strOfNums []))), (some 2), none, []⟩]
theorem v157_0 : VS L157_0.eq_1 := rfl
def L157_1 : List AStep := [⟨.bin .eql (.t 4) (.c (.int .i64 0)), (some 5), none, []⟩]
theorem v157_1 : VS L157_1.eq_1 := rfl
def L157_2 : List AStep := ⟨.mov (.t 0), (some 3), none, []⟩ :: ⟨.call 154 [(.t 3), (.c (.int .i64 16))], (some 4), none, []⟩ :: L157_1
theorem v157_2 : VS L157_2.eq_1 := rfl
def L157_3 : List AStep := [⟨.call 209 [(.t 6), (.t 7)], (some 8), none, []⟩, ⟨.mov (.t 8), (some 2), none, []⟩]
theorem v157_3 : VS L157_3.eq_1 := rfl
def L157_4 : List AStep := ⟨.mov (.t 0), (some 6), none, []⟩ :: ⟨.buildSlice 9 5 [(.str (strOfNums []))] [(0, 1, (.c (.str (strOfNums [])))), (1, 1, (.c (.str (strOfNums [65])))), (2, 1, (.c (.str (strOfNums [116, 111, 111, 108, 111, 110, 103])))), (3, 1, (.c (.str (strOfNums [97, 49])))), (4, 1, (.c (.str (strOfNums [97, 98, 99, 100, 101, 102]))))], (some 7), none, []⟩ :: L157_3
theorem v157_4 : VS L157_4.eq_1 := rfl
def L157_5 : List AStep := [⟨.mov (.t 10), (some 2), none, []⟩]
theorem v157_5 : VS L157_5.eq_1 := rfl
def L157_6 : List AStep := ⟨.mov (.t 0), (some 9), none, []⟩ :: ⟨.call 208 [(.t 9)], (some 10), none, []⟩ :: L157_5
theorem v157_6 : VS L157_6.eq_1 := rfl
def C157_0 : ACode := .seq (.reg L157_4) .ret
theorem u157_0 : VC C157_0.eq_1 := rfl
def C157_1 : ACode := .cond (.t 5) C157_0 .skip
theorem u157_1 : VC C157_1.eq_1 := rfl
def C157_2 : ACode := .seq (.reg L157_2) C157_1
theorem u157_2 : VC C157_2.eq_1 := rfl
def C157_3 : ACode := .seq (.reg L157_6) .ret
theorem u157_3 : VC C157_3.eq_1 := rfl
def C157_4 : ACode := .seq C157_2 C157_3
theorem u157_4 : VC C157_4.eq_1 := rfl
def C157_5 : ACode := .seq (.reg L157_0) C157_4
theorem u157_5 : VC C157_5.eq_1 := rfl
def F157 : AFunc := ⟨11, [.tmp 2], C157_5⟩
theorem cF157 : compB Try.prog 157 = some F157 := by kernel_rfl
attribute [local go_sem ↓] u157_0 u157_1 u157_2 u157_3 u157_4 u157_5 v157_0 v157_1 v157_2 v157_3 v157_4 v157_5 v157_6
theorem c_anyName (b : Nat) (p : Int) (h : H) (r : Rd h b p) (hp : p ≤ 2 ^ 39) : callK (bm Try.prog 157 [.one (.ptr (some (b, 0)))] h) fun q h' => (∃ s, q = .one (.str s) ∧ s.size ≤ 10) ∧ Drew b p 2 h h' := by
  refine bm_of cF157 ?_
  simp +contextual (maxSteps := 2000000) only [go_sem, Nat.reduceEqDiff, reduceCtorEq, Nat.reduceAdd, Nat.reduceLeDiff, F157]
  refine wp_call (c_pick b 16 p h r (by omega)) ?_
  rintro q h1 ⟨⟨k, rfl, k0, k1⟩, d1⟩
  obtain ⟨p1, hp1, hp2, r1⟩ := d1.ex
  by_cases e : k = 0
  · simp +contextual (maxSteps := 2000000) only [go_sem, Nat.reduceEqDiff, reduceCtorEq, Nat.reduceAdd, Nat.reduceLeDiff, decide_eq_true e]
    refine wp_lit (enc := encS) (k := 1) (l := [strOfNums [], strOfNums [65], strOfNums [116, 111, 111, 108, 111, 110, 103], strOfNums [97, 49], strOfNums [97, 98, 99, 100, 101, 102]]) rfl rfl ?_
    intro h2 w g2 n2 b2
    simp +contextual (maxSteps := 2000000) only [go_sem, Nat.reduceEqDiff, reduceCtorEq, Nat.reduceAdd, Nat.reduceLeDiff]
    refine wp_call (c_of b p1 _ w h2 (r1.grow g2) (by omega) (n2.sl lenS) (fun i hi => Nat.lt_of_lt_of_le r1.lt (b2 i hi)) (by decide) (by decide)) ?_
    rintro q h3 ⟨⟨s, hs, rfl⟩, d3⟩
    have d := (d3.pre g2).then d1.st (by omega) hp2
    simp +contextual (maxSteps := 2000000) only [go_sem, Nat.reduceEqDiff, reduceCtorEq, Nat.reduceAdd, Nat.reduceLeDiff]
    exact gcK_drew r d ⟨⟨_, rfl, by
      simp only [List.mem_cons, List.not_mem_nil, or_false] at hs
      rcases hs with rfl | rfl | rfl | rfl | rfl <;> exact Nat.le_of_ble_eq_true rfl⟩, d⟩
  · simp +contextual (maxSteps := 2000000) only [go_sem, Nat.reduceEqDiff, reduceCtorEq, Nat.reduceAdd, Nat.reduceLeDiff, decide_eq_false e]
    refine wp_call (c_aName b p1 h1 r1 (by omega)) ?_
    rintro q h3 ⟨⟨s, rfl, hs⟩, d3⟩
    have d := d3.then d1.st (by omega) hp2
    simp +contextual (maxSteps := 2000000) only [go_sem, Nat.reduceEqDiff, reduceCtorEq, Nat.reduceAdd, Nat.reduceLeDiff]
    exact gcK_drew r d ⟨⟨_, rfl, hs⟩, d⟩
end Go.Proofs.Ytnphlonhogcedaa.Am
