/- Contracts: what is drawn: numbers, names, flat calls. -/
import Derived.Test.YtekkimfdcbgcoacDR
import Derived.Test.YtekkimfdcbgcoacB2
import Derived.Test.YtekkimfdcbgcoacBY
namespace Go.Proofs.Ytekkimfdcbgcoac.Am
open Go
set_option maxRecDepth 100000
set_option maxHeartbeats 4000000
set_option linter.unusedSimpArgs false
set_option linter.unusedVariables false
attribute [local go_sem ↓] bv_t bv_c ev_t ev_c put_same put_ne put_none kill_at pro_at lb_same lb_ne start_zero start_succ wpC_seq wpC_reg wpC_cond wpC_block wpC_skip wpC_exit wpC_ret thenQ_normal thenQ_exit thenQ_ret inBlk_normal inBlk_exit inBlk_ret wpS_nil wpS_step wpS_again wpS_guard wpO_mov wpO_load wpO_faddr wpO_nilCheck wpO_pick wpO_build wpO_bin wpO_eqb wpO_eqst wpO_eqnil wpO_not wpO_conv wpO_bytesStr wpO_iaddr wpO_idxStr wpO_field wpO_extract wpO_len wpO_lenStr wpO_cap wpO_min wpO_slice wpO_sliceStr wpO_alloc wpO_box wpO_store wpO_call wpO_callv wpO_mkfn wpO_buildSlice wpO_mkslice wpO_append wpO_appz proA_nil proA_cons tmpX_nil tmpX_tmp tmpX_cell doneB_normal doneB_ret agK_cons agK_nil agK_guard agG_tt agG_ff agG_tf agG_ft agG_undef pureB_load results_one results_two results_nil resBs_cons resBs_nil resB_tmp resB_cell
attribute [local go_sem] kill_v kill_lp_ne kill_lp_same pro_v pro_lp_same pro_lp_ne av_v av_lp optB_some optX_some valX_eq ldX_lp ldX_v faX_lp faX_v ncX_lp ncX_ptr ncX_fn boxK_one boxK_agg stL_some stK_lp_one stK_lp_agg stK_v_one stK_v_agg proM_v proM_lp callG_mk callVG_mk callvK_fn fnG_mk ptrsA_nil ptrsA_cons callH_some whenA_true whenA_false guardH_tt guardH_ff guardH_tf guardH_ft guardH_undef agV_one agV_agg lenO_sl lenStrO_str notO_bool pickO_bool convO_int eqbO_bool eqnilO_sl extractO_tup capO_sl minO_int loadL_one loadL_all storeL_eq fillA_nil fillA_one fillA_agg nat_ge neg_ge nat_lt neg_lt buildO bin_add bin_sub bin_mul bin_eql bin_neq bin_lss bin_leq bin_gtr bin_geq str_eql str_neq str_lss str_leq str_gtr str_geq retK_some endK_mk gcK_same gcK_int gcK_bool tupO_one tupO_agg rdy_self ib ii Option.map_none Option.map_some Option.some.injEq exists_eq_left' exists_eq_left ne_eq not_false_eq_true if_true if_false List.map_cons List.map_nil List.getElem?_cons_zero List.getElem?_cons_succ List.length_cons List.length_nil List.take_succ_cons List.take_zero List.take_nil List.drop_succ_cons List.drop_zero List.drop_nil List.cons_append List.nil_append List.append_nil List.set_cons_zero List.set_cons_succ Nat.zero_add forall_const true_and and_true and_self Bool.false_eq_true false_implies true_implies implies_true Bool.not_true Bool.not_false Bool.not_eq_true' Bool.not_eq_false' beq_self_eq_true Bool.bne_true Bool.bne_false
attribute [local go_sem] lenI lenS lenP lenQ lenB lenL lenT encI_0 encS_0 encP_0 encP_1 encQ_0 encQ_1 encQ_2 encQ_3 encB_0 encB_1 encL_0 encL_1 encT_0 encT_1
attribute [local go_sem low] whenA_bool guardH_bool
def H.cut (h : H) (n : Nat) : H := ⟨n, h.f⟩
theorem H.cut_grow {h : H} {n : Nat} (hn : n ≤ h.n) : Grow (h.cut n) h := ⟨hn, fun _ _ => rfl⟩
def pR (b : Nat) : AV := .one (.ptr (some (b, 0)))
theorem Drew.pre {h h1 h2 : H} {b c : Nat} {p : Int} (d : Drew b p c h1 h2) (g : Grow h h1) : Drew b p c h h2 := ⟨(g.stay _).trans d.st, d.ex⟩
theorem Nw.drew {α : Type} {enc : α → List CV} {k ty b c : Nat} {p : Int} {h0 h1 h2 : H} {v : AV} {l : List α} (z : Nw enc k ty h0 h1 v l) (d : Drew b p c h1 h2) (hb : b < h0.n) : Nw enc k ty h0 h2 v l :=
  z.stay d.st fun i hi e => by have := (z.lt hi).2; simp [bR, baseOf] at e; omega
theorem NwF.drew {b c : Nat} {p : Int} {h0 h1 h2 : H} {x y : CV} {f : Flat} (z : NwF h0 h1 x y f) (d : Drew b p c h1 h2) (hb : b < h0.n) : NwF h0 h2 x y f := ⟨z.pl.drew d hb, z.nl.drew d hb, z.sep⟩
theorem wp_appendD {α : Type} {enc : α → List CV} {k ty b : Nat} {T : Tb} {L : Lb} {K : Post} {h0 h : H} {s x : AV} {l m : List α} {d : Option Nat} (he : ∀ x, (enc x).length = k) (hs : Nw enc k ty h0 h s l) (hx : Sl enc k ty h x m) (hn : h0.n ≤ h.n) (hb : (l.length + m.length) * b ≤ 140737488355328)
    (hk : ∀ h1 s', Nw enc k ty h0 h1 s' (l ++ m) → Stay s h h1 → (∀ i, baseOf s' = some i → baseOf s = some i ∨ h.n ≤ i) → K (T.put d (.v s')) L (rdy h1)) : apK ty k b s x d T L h K :=
  wp_append he (hs.from (h0 := h.cut h0.n) (Nat.le_refl _)) hx (H.cut_grow hn) hb fun h1 s' _ n st hb4 => hk h1 s' (n.from (h0 := h0) (Nat.le_refl _)) st hb4
theorem putP_in {l : List Pair} {x y : Pair} (h : y ∈ putP l x) : y ∈ l ∨ y = x := by
  unfold putP at h
  split at h
  · rcases List.mem_or_eq_of_mem_set h with e | e
    · exact .inl e
    · exact .inr e
  · rcases List.mem_append.1 h with e | e
    · exact .inl e
    · exact .inr (by simpa using e)
theorem putP_short {l : List Pair} {x : Pair} : (putP l x).length ≤ l.length + 1 := by
  unfold putP
  split
  · simp
  · simp
/-- Small: what is drawn. -/
structure tinyF (f : Flat) : Prop where
  pl : f.pl.length ≤ 10
  nl : f.nl.length ≤ 10
  nm : ∀ x ∈ f.nl, x.name.size ≤ 10
theorem tinyF.mini {f : Flat} (t : tinyF f) : miniF f := ⟨Nat.le_trans t.pl (by decide), Nat.le_trans t.nl (by decide), fun x hx => Nat.le_trans (t.nm x hx) (by decide)⟩
/-! spec.aNumber -/
def L121_0 : List AStep := [⟨.mov (.c (.int .i64 0)), (some 2), none, []⟩]
theorem v121_0 : VS L121_0.eq_1 := rfl
def L121_1 : List AStep := [⟨.call 134 [(.t 3), (.t 4)], (some 5), none, []⟩, ⟨.mov (.t 5), (some 2), none, []⟩]
theorem v121_1 : VS L121_1.eq_1 := rfl
def L121_2 : List AStep := ⟨.mov (.t 0), (some 3), none, []⟩ :: ⟨.buildSlice 3 9 [(.int .i64 0)] [(0, 1, (.c (.int .i64 1))), (1, 1, (.c (.int .i64 2))), (2, 1, (.c (.int .i64 3))), (3, 1, (.c (.int .i64 0))), (4, 1, (.c (.int .i64 5))), (5, 1, (.c (.int .i64 (-1)))), (6, 1, (.c (.int .i64 7))), (7, 1, (.c (.int .i64 99))), (8, 1, (.c (.int .i64 (-99))))], (some 4), none, []⟩ :: L121_1
theorem v121_2 : VS L121_2.eq_1 := rfl
def C121_0 : ACode := .seq (.reg L121_2) .ret
theorem u121_0 : VC C121_0.eq_1 := rfl
def C121_1 : ACode := .seq (.reg L121_0) C121_0
theorem u121_1 : VC C121_1.eq_1 := rfl
def F121 : AFunc := ⟨6, [.tmp 2], C121_1⟩
theorem cF121 : compB Try.prog 121 = some F121 := by kernel_rfl
attribute [local go_sem ↓] u121_0 u121_1 v121_0 v121_1 v121_2
theorem c_aNumber (b : Nat) (p : Int) (h : H) (r : Rd h b p) (hp : p ≤ 2 ^ 40) : callK (bm Try.prog 121 [.one (.ptr (some (b, 0)))] h) fun q h' => (∃ n, q = ii n) ∧ Drew b p 1 h h' := by
  refine bm_of cF121 ?_
  simp +contextual (maxSteps := 2000000) only [go_sem, Nat.reduceEqDiff, reduceCtorEq, Nat.reduceAdd, Nat.reduceLeDiff, F121]
  refine wp_lit (enc := encI) (k := 1) (l := [1, 2, 3, 0, 5, -1, 7, 99, -99]) rfl rfl ?_
  intro h1 w g1 n1 b1
  simp +contextual (maxSteps := 2000000) only [go_sem, Nat.reduceEqDiff, reduceCtorEq, Nat.reduceAdd, Nat.reduceLeDiff]
  refine wp_call (c_one b p _ w h1 (r.grow g1) hp (n1.sl lenI) (fun i hi => Nat.lt_of_lt_of_le r.lt (b1 i hi)) (by decide) (by decide)) ?_
  rintro q h2 ⟨⟨n, _, rfl⟩, d⟩
  have d := d.pre g1
  simp +contextual (maxSteps := 2000000) only [go_sem, Nat.reduceEqDiff, reduceCtorEq, Nat.reduceAdd, Nat.reduceLeDiff]
  exact gcK_drew r d ⟨⟨_, rfl⟩, d⟩
/-! spec.aName -/
def L120_0 : List AStep := [⟨.mov (.c (.str (strOfNums []))), (some 2), none, []⟩]
theorem v120_0 : VS L120_0.eq_1 := rfl
def L120_1 : List AStep := [⟨.call 144 [(.t 3), (.t 4)], (some 5), none, []⟩, ⟨.mov (.t 5), (some 2), none, []⟩]
theorem v120_1 : VS L120_1.eq_1 := rfl
def L120_2 : List AStep := ⟨.mov (.t 0), (some 3), none, []⟩ :: ⟨.buildSlice 9 9 [(.str (strOfNums []))] [(0, 1, (.c (.str (strOfNums [97])))), (1, 1, (.c (.str (strOfNums [98])))), (2, 1, (.c (.str (strOfNums [99])))), (3, 1, (.c (.str (strOfNums [100])))), (4, 1, (.c (.str (strOfNums [120])))), (5, 1, (.c (.str (strOfNums [121])))), (6, 1, (.c (.str (strOfNums [97])))), (7, 1, (.c (.str (strOfNums [98])))), (8, 1, (.c (.str (strOfNums [99]))))], (some 4), none, []⟩ :: L120_1
theorem v120_2 : VS L120_2.eq_1 := rfl
def C120_0 : ACode := .seq (.reg L120_2) .ret
theorem u120_0 : VC C120_0.eq_1 := rfl
def C120_1 : ACode := .seq (.reg L120_0) C120_0
theorem u120_1 : VC C120_1.eq_1 := rfl
def F120 : AFunc := ⟨6, [.tmp 2], C120_1⟩
theorem cF120 : compB Try.prog 120 = some F120 := by kernel_rfl
attribute [local go_sem ↓] u120_0 u120_1 v120_0 v120_1 v120_2
theorem c_aName (b : Nat) (p : Int) (h : H) (r : Rd h b p) (hp : p ≤ 2 ^ 40) : callK (bm Try.prog 120 [.one (.ptr (some (b, 0)))] h) fun q h' => (∃ s, q = .one (.str s) ∧ s.size ≤ 10) ∧ Drew b p 1 h h' := by
  refine bm_of cF120 ?_
  simp +contextual (maxSteps := 2000000) only [go_sem, Nat.reduceEqDiff, reduceCtorEq, Nat.reduceAdd, Nat.reduceLeDiff, F120]
  refine wp_lit (enc := encS) (k := 1) (l := [strOfNums [97], strOfNums [98], strOfNums [99], strOfNums [100], strOfNums [120], strOfNums [121], strOfNums [97], strOfNums [98], strOfNums [99]]) rfl rfl ?_
  intro h1 w g1 n1 b1
  simp +contextual (maxSteps := 2000000) only [go_sem, Nat.reduceEqDiff, reduceCtorEq, Nat.reduceAdd, Nat.reduceLeDiff]
  refine wp_call (c_of b p _ w h1 (r.grow g1) hp (n1.sl lenS) (fun i hi => Nat.lt_of_lt_of_le r.lt (b1 i hi)) (by decide) (by decide)) ?_
  rintro q h2 ⟨⟨s, hs, rfl⟩, d⟩
  have d := d.pre g1
  simp +contextual (maxSteps := 2000000) only [go_sem, Nat.reduceEqDiff, reduceCtorEq, Nat.reduceAdd, Nat.reduceLeDiff]
  exact gcK_drew r d ⟨⟨_, rfl, by
    simp only [List.mem_cons, List.not_mem_nil, or_false] at hs
    rcases hs with rfl | rfl | rfl | rfl | rfl | rfl | rfl | rfl | rfl <;> exact Nat.le_of_ble_eq_true rfl⟩, d⟩
/-! spec.goodFlat -/
def L135_0 : List AStep := [⟨.alloc 29 [(.sl none 0 (some 0)), (.sl none 0 (some 0))], (some 2), none, []⟩]
theorem v135_0 : VS L135_0.eq_1 := rfl
def L135_1 : List AStep := [⟨.store 2 (.t 3) (.t 8), none, none, []⟩]
theorem v135_1 : VS L135_1.eq_1 := rfl
def L135_2 : List AStep := ⟨.build [(.sl none 0 (some 0)), (.sl none 0 (some 0))] [(0, 1, (.t 6)), (1, 1, (.t 7))], (some 8), none, []⟩ :: ⟨.alloc 29 [(.sl none 0 (some 0)), (.sl none 0 (some 0))], (some 3), none, []⟩ :: L135_1
theorem v135_2 : VS L135_2.eq_1 := rfl
def L135_3 : List AStep := ⟨.buildSlice 3 0 [(.int .i64 0)] [], (some 6), none, []⟩ :: ⟨.buildSlice 93 0 [(.str (strOfNums [])), (.int .i64 0)] [], (some 7), none, []⟩ :: L135_2
theorem v135_3 : VS L135_3.eq_1 := rfl
def L135_4 : List AStep := [⟨.call 134 [(.t 9), (.t 10)], (some 11), none, []⟩, ⟨.mov (.t 11), (some 4), none, []⟩]
theorem v135_4 : VS L135_4.eq_1 := rfl
def L135_5 : List AStep := ⟨.mov (.t 0), (some 9), none, []⟩ :: ⟨.buildSlice 3 6 [(.int .i64 0)] [(0, 1, (.c (.int .i64 2))), (1, 1, (.c (.int .i64 1))), (2, 1, (.c (.int .i64 3))), (3, 1, (.c (.int .i64 0))), (4, 1, (.c (.int .i64 4))), (5, 1, (.c (.int .i64 8)))], (some 10), none, []⟩ :: L135_4
theorem v135_5 : VS L135_5.eq_1 := rfl
def L135_6 : List AStep := [⟨.mov (.t 4), (some 12), none, []⟩, ⟨.bin .gtr (.t 12) (.c (.int .i64 0)), (some 13), none, []⟩]
theorem v135_6 : VS L135_6.eq_1 := rfl
def L135_7 : List AStep := [⟨.faddr 0 (.t 3), (some 22), none, []⟩, ⟨.store 1 (.t 22) (.t 21), none, none, []⟩]
theorem v135_7 : VS L135_7.eq_1 := rfl
def L135_8 : List AStep := ⟨.buildSlice 3 1 [(.int .i64 0)] [(0, 1, (.t 19))], (some 20), none, []⟩ :: ⟨.append 3 1 8 (.t 17) (.t 20), (some 21), none, []⟩ :: L135_7
theorem v135_8 : VS L135_8.eq_1 := rfl
def L135_9 : List AStep := ⟨.mov (.t 0), (some 18), none, []⟩ :: ⟨.call 121 [(.t 18)], (some 19), none, [(.load 1 false (.t 16), (some 17), none)]⟩ :: L135_8
theorem v135_9 : VS L135_9.eq_1 := rfl
def L135_10 : List AStep := ⟨.faddr 0 (.t 3), (some 16), none, []⟩ :: ⟨.load 1 false (.t 16), (some 17), none, []⟩ :: L135_9
theorem v135_10 : VS L135_10.eq_1 := rfl
def L135_11 : List AStep := [⟨.mov (.t 15), (some 4), none, []⟩]
theorem v135_11 : VS L135_11.eq_1 := rfl
def L135_12 : List AStep := ⟨.mov (.t 4), (some 14), none, []⟩ :: ⟨.bin .sub (.t 14) (.c (.int .i64 1)), (some 15), none, []⟩ :: L135_11
theorem v135_12 : VS L135_12.eq_1 := rfl
def L135_13 : List AStep := [⟨.call 134 [(.t 23), (.t 24)], (some 25), none, []⟩, ⟨.mov (.t 25), (some 5), none, []⟩]
theorem v135_13 : VS L135_13.eq_1 := rfl
def L135_14 : List AStep := ⟨.mov (.t 0), (some 23), none, []⟩ :: ⟨.buildSlice 3 5 [(.int .i64 0)] [(0, 1, (.c (.int .i64 1))), (1, 1, (.c (.int .i64 2))), (2, 1, (.c (.int .i64 0))), (3, 1, (.c (.int .i64 3))), (4, 1, (.c (.int .i64 0)))], (some 24), none, []⟩ :: L135_13
theorem v135_14 : VS L135_14.eq_1 := rfl
def L135_15 : List AStep := [⟨.mov (.t 5), (some 26), none, []⟩, ⟨.bin .gtr (.t 26) (.c (.int .i64 0)), (some 27), none, []⟩]
theorem v135_15 : VS L135_15.eq_1 := rfl
def L135_16 : List AStep := [⟨.faddr 1 (.t 3), (some 38), none, []⟩, ⟨.store 1 (.t 38) (.t 37), none, none, []⟩]
theorem v135_16 : VS L135_16.eq_1 := rfl
def L135_17 : List AStep := ⟨.build [(.str (strOfNums [])), (.int .i64 0)] [(0, 1, (.t 33)), (1, 1, (.t 35))], (some 36), none, []⟩ :: ⟨.call 119 [(.t 31), (.t 36)], (some 37), none, []⟩ :: L135_16
theorem v135_17 : VS L135_17.eq_1 := rfl
def L135_18 : List AStep := ⟨.call 120 [(.t 32)], (some 33), none, [(.load 1 false (.t 30), (some 31), none)]⟩ :: ⟨.call 121 [(.t 34)], (some 35), none, [(.load 1 false (.t 30), (some 31), none)]⟩ :: L135_17
theorem v135_18 : VS L135_18.eq_1 := rfl
def L135_19 : List AStep := ⟨.mov (.t 0), (some 32), none, []⟩ :: ⟨.mov (.t 0), (some 34), none, []⟩ :: L135_18
theorem v135_19 : VS L135_19.eq_1 := rfl
def L135_20 : List AStep := ⟨.faddr 1 (.t 3), (some 30), none, []⟩ :: ⟨.load 1 false (.t 30), (some 31), none, []⟩ :: L135_19
theorem v135_20 : VS L135_20.eq_1 := rfl
def L135_21 : List AStep := [⟨.mov (.t 29), (some 5), none, []⟩]
theorem v135_21 : VS L135_21.eq_1 := rfl
def L135_22 : List AStep := ⟨.mov (.t 5), (some 28), none, []⟩ :: ⟨.bin .sub (.t 28) (.c (.int .i64 1)), (some 29), none, []⟩ :: L135_21
theorem v135_22 : VS L135_22.eq_1 := rfl
def L135_23 : List AStep := [⟨.load 2 true (.t 3), (some 39), none, []⟩, ⟨.store 2 (.t 2) (.t 39), none, none, []⟩]
theorem v135_23 : VS L135_23.eq_1 := rfl
def C135_0 : ACode := .cond (.t 13) .skip (.exit 0)
theorem u135_0 : VC C135_0.eq_1 := rfl
def C135_1 : ACode := .seq (.reg L135_6) C135_0
theorem u135_1 : VC C135_1.eq_1 := rfl
def C135_2 : ACode := .block 1 (.reg L135_10)
theorem u135_2 : VC C135_2.eq_1 := rfl
def C135_3 : ACode := .seq C135_2 (.reg L135_12)
theorem u135_3 : VC C135_3.eq_1 := rfl
def C135_4 : ACode := .seq C135_1 C135_3
theorem u135_4 : VC C135_4.eq_1 := rfl
def C135_5 : ACode := .block 0 (.loop C135_4)
theorem u135_5 : VC C135_5.eq_1 := rfl
def C135_6 : ACode := .seq (.reg L135_5) C135_5
theorem u135_6 : VC C135_6.eq_1 := rfl
def C135_7 : ACode := .cond (.t 27) .skip (.exit 2)
theorem u135_7 : VC C135_7.eq_1 := rfl
def C135_8 : ACode := .seq (.reg L135_15) C135_7
theorem u135_8 : VC C135_8.eq_1 := rfl
def C135_9 : ACode := .block 3 (.reg L135_20)
theorem u135_9 : VC C135_9.eq_1 := rfl
def C135_10 : ACode := .seq C135_9 (.reg L135_22)
theorem u135_10 : VC C135_10.eq_1 := rfl
def C135_11 : ACode := .seq C135_8 C135_10
theorem u135_11 : VC C135_11.eq_1 := rfl
def C135_12 : ACode := .block 2 (.loop C135_11)
theorem u135_12 : VC C135_12.eq_1 := rfl
def C135_13 : ACode := .seq (.reg L135_14) C135_12
theorem u135_13 : VC C135_13.eq_1 := rfl
def C135_14 : ACode := .seq (.reg L135_23) .ret
theorem u135_14 : VC C135_14.eq_1 := rfl
def C135_15 : ACode := .seq C135_13 C135_14
theorem u135_15 : VC C135_15.eq_1 := rfl
def C135_16 : ACode := .seq C135_6 C135_15
theorem u135_16 : VC C135_16.eq_1 := rfl
def C135_17 : ACode := .seq (.reg L135_3) C135_16
theorem u135_17 : VC C135_17.eq_1 := rfl
def C135_18 : ACode := .seq (.reg L135_0) C135_17
theorem u135_18 : VC C135_18.eq_1 := rfl
def F135 : AFunc := ⟨40, [.cell 2 2 true], C135_18⟩
theorem cF135 : compB Try.prog 135 = some F135 := by kernel_rfl
attribute [local go_sem ↓] u135_0 u135_1 u135_2 u135_3 u135_4 u135_5 u135_6 u135_7 u135_8 u135_9 u135_10 u135_11 u135_12 u135_13 u135_14 u135_15 u135_16 u135_17 u135_18 v135_0 v135_1 v135_2 v135_3 v135_4 v135_5 v135_6 v135_7 v135_8 v135_9 v135_10 v135_11 v135_12 v135_13 v135_14 v135_15 v135_16 v135_17 v135_18 v135_19 v135_20 v135_21 v135_22 v135_23
theorem c_goodFlat (b : Nat) (p : Int) (h : H) (r : Rd h b p) (hp : p ≤ 2 ^ 39) : callK (bm Try.prog 135 [.one (.ptr (some (b, 0)))] h) fun q h' => (∃ x y f, q = .agg [x, y] ∧ NwF h h' x y f ∧ tinyF f) ∧ Drew b p 16 h h' := by
  refine bm_of cF135 ?_
  have hbn := r.lt
  simp +contextual (maxSteps := 2000000) only [go_sem, Nat.reduceEqDiff, reduceCtorEq, Nat.reduceAdd, Nat.reduceLeDiff, F135]
  refine wp_lit (enc := encI) (k := 1) (l := []) rfl rfl ?_
  intro h1 w1 g1 n1 b1
  obtain ⟨c1, rfl⟩ := n1.one
  simp +contextual (maxSteps := 2000000) only [go_sem, Nat.reduceEqDiff, reduceCtorEq, Nat.reduceAdd, Nat.reduceLeDiff]
  refine wp_lit (enc := encP) (k := 2) (l := []) rfl rfl ?_
  intro h2 w2 g2 n2 b2
  obtain ⟨c2, rfl⟩ := n2.one
  simp +contextual (maxSteps := 2000000) only [go_sem, Nat.reduceEqDiff, reduceCtorEq, Nat.reduceAdd, Nat.reduceLeDiff]
  have y2 : NwF h h2 c1 c2 ⟨[], []⟩ := ⟨n1.grow g2, n2.from g1.n, n1.apart n2⟩
  refine wp_lit (enc := encI) (k := 1) (l := [2, 1, 3, 0, 4, 8]) rfl rfl ?_
  intro h3 w3 g3 n3 b3
  simp +contextual (maxSteps := 2000000) only [go_sem, Nat.reduceEqDiff, reduceCtorEq, Nat.reduceAdd, Nat.reduceLeDiff]
  have g13 := (g1.trans g2).trans g3
  refine wp_call (c_one b p _ w3 h3 (r.grow g13) (by omega) (n3.sl lenI) (fun i hi => Nat.lt_of_lt_of_le hbn (Nat.le_trans (g1.trans g2).n (b3 i hi))) (by decide) (by decide)) ?_
  rintro q h4 ⟨⟨m, hm, rfl⟩, d4⟩
  have hm8 : 0 ≤ m ∧ m ≤ 8 := by simp at hm; omega
  obtain ⟨m, rfl⟩ := Int.eq_ofNat_of_zero_le hm8.1
  have y4 := (y2.grow g3).drew d4 hbn
  have d4 := d4.pre g13
  simp +contextual (maxSteps := 2000000) only [go_sem, Nat.reduceEqDiff, reduceCtorEq, Nat.reduceAdd, Nat.reduceLeDiff]
  refine wpC_loop (fun k T L h' => T 0 = .v (.one (.ptr (some (b, 0)))) ∧ T 2 = .lp 2 0 ∧ (L 2).2 = [.sl none 0 (some 0), .sl none 0 (some 0)] ∧ T 3 = .lp 3 0 ∧ (∃ x y f, (L 3).2 = [x, y] ∧ NwF h h' x y f ∧ f.pl.length ≤ k ∧ f.nl = []) ∧ T 4 = .v (.one (.int .i64 ((m - k : Nat) : Int))) ∧ Drew b p (1 + k) h h') m ?_ ?_ (Nat.zero_le _) ?_
  · rintro k T L h' hk ⟨t0, t2, l2, t3, ⟨x, y, f, l3, z, z1, z2⟩, t4, d⟩
    obtain ⟨j, hj⟩ : ∃ j, m - k = j + 1 := ⟨m - k - 1, by omega⟩
    rw [hj] at t4
    have a3 : decide (((j + 1 : Nat) : Int) > 0) = true := decide_eq_true (by omega)
    obtain ⟨p', hp1, hp2, r'⟩ := d.ex
    simp +contextual (maxSteps := 2000000) only [go_sem, Nat.reduceEqDiff, reduceCtorEq, Nat.reduceAdd, Nat.reduceLeDiff, t0, t2, l2, t3, l3, t4, a3]
    refine wp_call (c_aNumber b p' h' r' (by omega)) ?_
    rintro q h5 ⟨⟨n, rfl⟩, d5⟩
    have z5 := z.drew d5 hbn
    have d5 := d5.then d.st (by omega) hp2
    simp +contextual (maxSteps := 2000000) only [go_sem, Nat.reduceEqDiff, reduceCtorEq, Nat.reduceAdd, Nat.reduceLeDiff, t0, t2, l2, t3, l3, t4]
    refine wp_lit (enc := encI) (k := 1) (l := [n]) rfl rfl ?_
    intro h6 w6 g6 n6 b6
    have z6 := z5.grow g6
    simp +contextual (maxSteps := 2000000) only [go_sem, Nat.reduceEqDiff, reduceCtorEq, Nat.reduceAdd, Nat.reduceLeDiff, t0, t2, l2, t3, l3, t4]
    refine wp_appendD lenI z6.pl (n6.sl lenI) (Nat.le_trans d5.st.n g6.n) (by simp; omega) ?_
    intro h7 s7 n7 st7 hb7
    obtain ⟨c7, rfl⟩ := n7.one
    have z7 := z6.appPl n7 st7 hb7
    have d7 := (d5.grow g6).stay st7 (fun i hi => (z6.pl.lt hi).2) hbn
    simp +contextual (maxSteps := 2000000) only [go_sem, Nat.reduceEqDiff, reduceCtorEq, Nat.reduceAdd, Nat.reduceLeDiff, t0, t2, l2, t3, l3, t4, wrap_pred (show j < 2 ^ 62 by omega)]
    exact ⟨⟨c7, y, _, rfl, z7, by simp; omega, z2⟩, by rw [show m - (k + 1) = j by omega], d7⟩
  · rintro T L h' ⟨t0, t2, l2, t3, ⟨x, y, f, l3, z, z1, z2⟩, t4, d⟩
    rw [Nat.sub_self] at t4
    have hz : decide (((0 : Nat) : Int) > 0) = false := rfl
    obtain ⟨p', hp1, hp2, r'⟩ := d.ex
    simp +contextual (maxSteps := 2000000) only [go_sem, Nat.reduceEqDiff, reduceCtorEq, Nat.reduceAdd, Nat.reduceLeDiff, t0, t2, l2, t3, l3, t4, hz]
    refine wp_lit (enc := encI) (k := 1) (l := [1, 2, 0, 3, 0]) rfl rfl ?_
    intro h5 w5 g5 n5 b5
    simp +contextual (maxSteps := 2000000) only [go_sem, Nat.reduceEqDiff, reduceCtorEq, Nat.reduceAdd, Nat.reduceLeDiff, t0, t2, l2, t3, l3, t4]
    refine wp_call (c_one b p' _ w5 h5 (r'.grow g5) (by omega) (n5.sl lenI) (fun i hi => Nat.lt_of_lt_of_le r'.lt (b5 i hi)) (by decide) (by decide)) ?_
    rintro q h6 ⟨⟨v, hv, rfl⟩, d6⟩
    have hv8 : 0 ≤ v ∧ v ≤ 3 := by simp at hv; omega
    obtain ⟨v, rfl⟩ := Int.eq_ofNat_of_zero_le hv8.1
    have z6 := (z.grow g5).drew d6 hbn
    have d6 := (d6.pre g5).then d.st (by omega) hp2
    simp +contextual (maxSteps := 2000000) only [go_sem, Nat.reduceEqDiff, reduceCtorEq, Nat.reduceAdd, Nat.reduceLeDiff, t0, t2, l2, t3, l3, t4]
    refine wpC_loop (fun k T L h' => T 0 = .v (.one (.ptr (some (b, 0)))) ∧ T 2 = .lp 2 0 ∧ (L 2).2 = [.sl none 0 (some 0), .sl none 0 (some 0)] ∧ T 3 = .lp 3 0 ∧ (∃ x y f, (L 3).2 = [x, y] ∧ NwF h h' x y f ∧ f.pl.length ≤ m ∧ f.nl.length ≤ k ∧ ∀ x ∈ f.nl, x.name.size ≤ 10) ∧ T 5 = .v (.one (.int .i64 ((v - k : Nat) : Int))) ∧ Drew b p (1 + m + 1 + 2 * k) h h') v ?_ ?_ (Nat.zero_le _) ?_
    · rintro k T L h' hk ⟨t0, t2, l2, t3, ⟨x, y, f, l3, z, z1, z2, z3⟩, t5, d⟩
      obtain ⟨j, hj⟩ : ∃ j, v - k = j + 1 := ⟨v - k - 1, by omega⟩
      rw [hj] at t5
      have a3 : decide (((j + 1 : Nat) : Int) > 0) = true := decide_eq_true (by omega)
      obtain ⟨p', hp1, hp2, r'⟩ := d.ex
      simp +contextual (maxSteps := 2000000) only [go_sem, Nat.reduceEqDiff, reduceCtorEq, Nat.reduceAdd, Nat.reduceLeDiff, t0, t2, l2, t3, l3, t5, a3]
      refine wp_call (c_aName b p' h' r' (by omega)) ?_
      rintro q h5 ⟨⟨s, rfl, hs⟩, d5⟩
      have z5 := z.drew d5 hbn
      obtain ⟨p2, hq1, hq2, r2⟩ := d5.ex
      have d5 := d5.then d.st (by omega) hp2
      simp +contextual (maxSteps := 2000000) only [go_sem, Nat.reduceEqDiff, reduceCtorEq, Nat.reduceAdd, Nat.reduceLeDiff, t0, t2, l2, t3, l3, t5]
      refine wp_call (c_aNumber b p2 h5 r2 (by omega)) ?_
      rintro q h6 ⟨⟨n, rfl⟩, d6⟩
      have z6 := z5.drew d6 hbn
      have d6 := d6.then d5.st (by omega) (show p2 ≤ p + ((1 + m + 1 + 2 * k + 1 : Nat) : Int) by omega)
      simp +contextual (maxSteps := 2000000) only [go_sem, Nat.reduceEqDiff, reduceCtorEq, Nat.reduceAdd, Nat.reduceLeDiff, t0, t2, l2, t3, l3, t5]
      refine wp_call (c_putPair f.nl (.one y) ⟨s, n⟩ h6 z6.sl.nl ⟨by unfold big; omega, fun x hx => Nat.le_trans (z3 x hx) (by decide)⟩) ?_
      rintro q h7 ⟨g7, n7⟩
      obtain ⟨c7, rfl⟩ := n7.one
      have z7 : NwF h h7 x c7 ⟨f.pl, putP f.nl ⟨s, n⟩⟩ := ⟨z6.pl.grow g7, n7.from d6.st.n, z6.pl.apart n7⟩
      simp +contextual (maxSteps := 2000000) only [go_sem, Nat.reduceEqDiff, reduceCtorEq, Nat.reduceAdd, Nat.reduceLeDiff, t0, t2, l2, t3, l3, t5, wrap_pred (show j < 2 ^ 62 by omega)]
      refine ⟨⟨x, c7, _, rfl, z7, z1, Nat.le_trans putP_short (by omega), fun w hw => ?_⟩, by rw [show v - (k + 1) = j by omega], d6.grow g7⟩
      rcases putP_in hw with e | e
      · exact z3 w e
      · rw [e]; exact hs
    · rintro T L h' ⟨t0, t2, l2, t3, ⟨x, y, f, l3, z, z1, z2, z3⟩, t5, d⟩
      rw [Nat.sub_self] at t5
      simp +contextual (maxSteps := 2000000) only [go_sem, Nat.reduceEqDiff, reduceCtorEq, Nat.reduceAdd, Nat.reduceLeDiff, t0, t2, l2, t3, l3, t5, hz]
      have d := d.more (show 1 + m + 1 + 2 * v ≤ 16 by omega)
      exact gcK_drew r d ⟨⟨x, y, f, rfl, z, ⟨by omega, by omega, z3⟩⟩, d⟩
    · simp +contextual (maxSteps := 2000000) only [go_sem, Nat.reduceEqDiff, reduceCtorEq, Nat.reduceAdd, Nat.reduceLeDiff, t0, t2, l2, t3, l3, t4]
      exact ⟨⟨x, y, f, rfl, z6, z1, by rw [z2]; exact Nat.le_refl 0, by rw [z2]; simp⟩, rfl, d6.more (by omega)⟩
  · simp +contextual (maxSteps := 2000000) only [go_sem, Nat.reduceEqDiff, reduceCtorEq, Nat.reduceAdd, Nat.reduceLeDiff]
    exact ⟨⟨c1, c2, ⟨[], []⟩, rfl, y4, Nat.le_refl 0, rfl⟩, rfl, d4⟩
/-! spec.anyName -/
def L133_0 : List AStep := [⟨.mov (.c (.str (strOfNums []))), (some 2), none, []⟩]
theorem v133_0 : VS L133_0.eq_1 := rfl
def L133_1 : List AStep := [⟨.bin .eql (.t 4) (.c (.int .i64 0)), (some 5), none, []⟩]
theorem v133_1 : VS L133_1.eq_1 := rfl
def L133_2 : List AStep := ⟨.mov (.t 0), (some 3), none, []⟩ :: ⟨.call 92 [(.t 3), (.c (.int .i64 16))], (some 4), none, []⟩ :: L133_1
theorem v133_2 : VS L133_2.eq_1 := rfl
def L133_3 : List AStep := [⟨.call 144 [(.t 6), (.t 7)], (some 8), none, []⟩, ⟨.mov (.t 8), (some 2), none, []⟩]
theorem v133_3 : VS L133_3.eq_1 := rfl
def L133_4 : List AStep := ⟨.mov (.t 0), (some 6), none, []⟩ :: ⟨.buildSlice 9 5 [(.str (strOfNums []))] [(0, 1, (.c (.str (strOfNums [])))), (1, 1, (.c (.str (strOfNums [65])))), (2, 1, (.c (.str (strOfNums [116, 111, 111, 108, 111, 110, 103])))), (3, 1, (.c (.str (strOfNums [97, 49])))), (4, 1, (.c (.str (strOfNums [97, 98, 99, 100, 101, 102]))))], (some 7), none, []⟩ :: L133_3
theorem v133_4 : VS L133_4.eq_1 := rfl
def L133_5 : List AStep := [⟨.mov (.t 10), (some 2), none, []⟩]
theorem v133_5 : VS L133_5.eq_1 := rfl
def L133_6 : List AStep := ⟨.mov (.t 0), (some 9), none, []⟩ :: ⟨.call 120 [(.t 9)], (some 10), none, []⟩ :: L133_5
theorem v133_6 : VS L133_6.eq_1 := rfl
def C133_0 : ACode := .seq (.reg L133_4) .ret
theorem u133_0 : VC C133_0.eq_1 := rfl
def C133_1 : ACode := .cond (.t 5) C133_0 .skip
theorem u133_1 : VC C133_1.eq_1 := rfl
def C133_2 : ACode := .seq (.reg L133_2) C133_1
theorem u133_2 : VC C133_2.eq_1 := rfl
def C133_3 : ACode := .seq (.reg L133_6) .ret
theorem u133_3 : VC C133_3.eq_1 := rfl
def C133_4 : ACode := .seq C133_2 C133_3
theorem u133_4 : VC C133_4.eq_1 := rfl
def C133_5 : ACode := .seq (.reg L133_0) C133_4
theorem u133_5 : VC C133_5.eq_1 := rfl
def F133 : AFunc := ⟨11, [.tmp 2], C133_5⟩
theorem cF133 : compB Try.prog 133 = some F133 := by kernel_rfl
attribute [local go_sem ↓] u133_0 u133_1 u133_2 u133_3 u133_4 u133_5 v133_0 v133_1 v133_2 v133_3 v133_4 v133_5 v133_6
theorem c_anyName (b : Nat) (p : Int) (h : H) (r : Rd h b p) (hp : p ≤ 2 ^ 39) : callK (bm Try.prog 133 [.one (.ptr (some (b, 0)))] h) fun q h' => (∃ s, q = .one (.str s) ∧ s.size ≤ 10) ∧ Drew b p 2 h h' := by
  refine bm_of cF133 ?_
  simp +contextual (maxSteps := 2000000) only [go_sem, Nat.reduceEqDiff, reduceCtorEq, Nat.reduceAdd, Nat.reduceLeDiff, F133]
  refine wp_call (c_pick b 16 p h r (by omega)) ?_
  rintro q h1 ⟨⟨k, rfl, k0, k1⟩, d1⟩
  obtain ⟨p1, hp1, hp2, r1⟩ := d1.ex
  by_cases e : k = 0
  · simp +contextual (maxSteps := 2000000) only [go_sem, Nat.reduceEqDiff, reduceCtorEq, Nat.reduceAdd, Nat.reduceLeDiff, decide_eq_true e]
    refine wp_lit (enc := encS) (k := 1) (l := [strOfNums [], strOfNums [65], strOfNums [116, 111, 111, 108, 111, 110, 103], strOfNums [97, 49], strOfNums [97, 98, 99, 100, 101, 102]]) rfl rfl ?_
    intro h2 w g2 n2 b2
    simp +contextual (maxSteps := 2000000) only [go_sem, Nat.reduceEqDiff, reduceCtorEq, Nat.reduceAdd, Nat.reduceLeDiff]
    refine wp_call (c_of b p1 _ w h2 (r1.grow g2) (by omega) (n2.sl lenS) (fun i hi => Nat.lt_of_lt_of_le r1.lt (b2 i hi)) (by decide) (by decide)) ?_
    rintro q h3 ⟨⟨s, hs, rfl⟩, d3⟩
    have d := (d3.pre g2).then d1.st (by omega) hp2
    simp +contextual (maxSteps := 2000000) only [go_sem, Nat.reduceEqDiff, reduceCtorEq, Nat.reduceAdd, Nat.reduceLeDiff]
    exact gcK_drew r d ⟨⟨_, rfl, by
      simp only [List.mem_cons, List.not_mem_nil, or_false] at hs
      rcases hs with rfl | rfl | rfl | rfl | rfl <;> exact Nat.le_of_ble_eq_true rfl⟩, d⟩
  · simp +contextual (maxSteps := 2000000) only [go_sem, Nat.reduceEqDiff, reduceCtorEq, Nat.reduceAdd, Nat.reduceLeDiff, decide_eq_false e]
    refine wp_call (c_aName b p1 h1 r1 (by omega)) ?_
    rintro q h3 ⟨⟨s, rfl, hs⟩, d3⟩
    have d := d3.then d1.st (by omega) hp2
    simp +contextual (maxSteps := 2000000) only [go_sem, Nat.reduceEqDiff, reduceCtorEq, Nat.reduceAdd, Nat.reduceLeDiff]
    exact gcK_drew r d ⟨⟨_, rfl, hs⟩, d⟩
/-! spec.anyNumber -/
def L136_0 : List AStep := [⟨.mov (.c (.int .i64 0)), (some 2), none, []⟩]
theorem v136_0 : VS L136_0.eq_1 := rfl
def L136_1 : List AStep := [⟨.bin .eql (.t 4) (.c (.int .i64 0)), (some 5), none, []⟩]
theorem v136_1 : VS L136_1.eq_1 := rfl
def L136_2 : List AStep := ⟨.mov (.t 0), (some 3), none, []⟩ :: ⟨.call 92 [(.t 3), (.c (.int .i64 16))], (some 4), none, []⟩ :: L136_1
theorem v136_2 : VS L136_2.eq_1 := rfl
def L136_3 : List AStep := [⟨.call 134 [(.t 6), (.t 7)], (some 8), none, []⟩, ⟨.mov (.t 8), (some 2), none, []⟩]
theorem v136_3 : VS L136_3.eq_1 := rfl
def L136_4 : List AStep := ⟨.mov (.t 0), (some 6), none, []⟩ :: ⟨.buildSlice 3 2 [(.int .i64 0)] [(0, 1, (.c (.int .i64 100))), (1, 1, (.c (.int .i64 (-100))))], (some 7), none, []⟩ :: L136_3
theorem v136_4 : VS L136_4.eq_1 := rfl
def L136_5 : List AStep := [⟨.mov (.t 10), (some 2), none, []⟩]
theorem v136_5 : VS L136_5.eq_1 := rfl
def L136_6 : List AStep := ⟨.mov (.t 0), (some 9), none, []⟩ :: ⟨.call 121 [(.t 9)], (some 10), none, []⟩ :: L136_5
theorem v136_6 : VS L136_6.eq_1 := rfl
def C136_0 : ACode := .seq (.reg L136_4) .ret
theorem u136_0 : VC C136_0.eq_1 := rfl
def C136_1 : ACode := .cond (.t 5) C136_0 .skip
theorem u136_1 : VC C136_1.eq_1 := rfl
def C136_2 : ACode := .seq (.reg L136_2) C136_1
theorem u136_2 : VC C136_2.eq_1 := rfl
def C136_3 : ACode := .seq (.reg L136_6) .ret
theorem u136_3 : VC C136_3.eq_1 := rfl
def C136_4 : ACode := .seq C136_2 C136_3
theorem u136_4 : VC C136_4.eq_1 := rfl
def C136_5 : ACode := .seq (.reg L136_0) C136_4
theorem u136_5 : VC C136_5.eq_1 := rfl
def F136 : AFunc := ⟨11, [.tmp 2], C136_5⟩
theorem cF136 : compB Try.prog 136 = some F136 := by kernel_rfl
attribute [local go_sem ↓] u136_0 u136_1 u136_2 u136_3 u136_4 u136_5 v136_0 v136_1 v136_2 v136_3 v136_4 v136_5 v136_6
theorem c_anyNumber (b : Nat) (p : Int) (h : H) (r : Rd h b p) (hp : p ≤ 2 ^ 39) : callK (bm Try.prog 136 [.one (.ptr (some (b, 0)))] h) fun q h' => (∃ n, q = ii n) ∧ Drew b p 2 h h' := by
  refine bm_of cF136 ?_
  simp +contextual (maxSteps := 2000000) only [go_sem, Nat.reduceEqDiff, reduceCtorEq, Nat.reduceAdd, Nat.reduceLeDiff, F136]
  refine wp_call (c_pick b 16 p h r (by omega)) ?_
  rintro q h1 ⟨⟨k, rfl, k0, k1⟩, d1⟩
  obtain ⟨p1, hp1, hp2, r1⟩ := d1.ex
  by_cases e : k = 0
  · simp +contextual (maxSteps := 2000000) only [go_sem, Nat.reduceEqDiff, reduceCtorEq, Nat.reduceAdd, Nat.reduceLeDiff, decide_eq_true e]
    refine wp_lit (enc := encI) (k := 1) (l := [100, -100]) rfl rfl ?_
    intro h2 w g2 n2 b2
    simp +contextual (maxSteps := 2000000) only [go_sem, Nat.reduceEqDiff, reduceCtorEq, Nat.reduceAdd, Nat.reduceLeDiff]
    refine wp_call (c_one b p1 _ w h2 (r1.grow g2) (by omega) (n2.sl lenI) (fun i hi => Nat.lt_of_lt_of_le r1.lt (b2 i hi)) (by decide) (by decide)) ?_
    rintro q h3 ⟨⟨n, _, rfl⟩, d3⟩
    have d := (d3.pre g2).then d1.st (by omega) hp2
    simp +contextual (maxSteps := 2000000) only [go_sem, Nat.reduceEqDiff, reduceCtorEq, Nat.reduceAdd, Nat.reduceLeDiff]
    exact gcK_drew r d ⟨⟨_, rfl⟩, d⟩
  · simp +contextual (maxSteps := 2000000) only [go_sem, Nat.reduceEqDiff, reduceCtorEq, Nat.reduceAdd, Nat.reduceLeDiff, decide_eq_false e]
    refine wp_call (c_aNumber b p1 h1 r1 (by omega)) ?_
    rintro q h3 ⟨⟨n, rfl⟩, d3⟩
    have d := d3.then d1.st (by omega) hp2
    simp +contextual (maxSteps := 2000000) only [go_sem, Nat.reduceEqDiff, reduceCtorEq, Nat.reduceAdd, Nat.reduceLeDiff]
    exact gcK_drew r d ⟨⟨_, rfl⟩, d⟩
/-! spec.someFlat -/
def L93_0 : List AStep := [⟨.alloc 29 [(.sl none 0 (some 0)), (.sl none 0 (some 0))], (some 2), none, []⟩]
theorem v93_0 : VS L93_0.eq_1 := rfl
def L93_1 : List AStep := [⟨.alloc 29 [(.sl none 0 (some 0)), (.sl none 0 (some 0))], (some 3), none, []⟩, ⟨.store 2 (.t 3) (.t 5), none, none, []⟩]
theorem v93_1 : VS L93_1.eq_1 := rfl
def L93_2 : List AStep := ⟨.mov (.t 0), (some 4), none, []⟩ :: ⟨.call 135 [(.t 4)], (some 5), none, []⟩ :: L93_1
theorem v93_2 : VS L93_2.eq_1 := rfl
def L93_3 : List AStep := [⟨.mov (.t 0), (some 6), none, []⟩, ⟨.call 92 [(.t 6), (.c (.int .i64 24))], (some 7), none, []⟩]
theorem v93_3 : VS L93_3.eq_1 := rfl
def L93_4 : List AStep := [⟨.bin .eql (.t 7) (.c (.int .i64 0)), (some 9), none, []⟩, ⟨.mov (.t 9), (some 8), none, []⟩]
theorem v93_4 : VS L93_4.eq_1 := rfl
def L93_5 : List AStep := [⟨.store 1 (.t 17) (.t 16), none, none, []⟩]
theorem v93_5 : VS L93_5.eq_1 := rfl
def L93_6 : List AStep := ⟨.append 3 1 8 (.t 11) (.t 15), (some 16), none, []⟩ :: ⟨.faddr 0 (.t 3), (some 17), none, []⟩ :: L93_5
theorem v93_6 : VS L93_6.eq_1 := rfl
def L93_7 : List AStep := ⟨.call 134 [(.t 12), (.t 13)], (some 14), none, [(.load 1 false (.t 10), (some 11), none)]⟩ :: ⟨.buildSlice 3 1 [(.int .i64 0)] [(0, 1, (.t 14))], (some 15), none, []⟩ :: L93_6
theorem v93_7 : VS L93_7.eq_1 := rfl
def L93_8 : List AStep := ⟨.mov (.t 0), (some 12), none, []⟩ :: ⟨.buildSlice 3 2 [(.int .i64 0)] [(0, 1, (.c (.int .i64 100))), (1, 1, (.c (.int .i64 (-100))))], (some 13), none, []⟩ :: L93_7
theorem v93_8 : VS L93_8.eq_1 := rfl
def L93_9 : List AStep := ⟨.faddr 0 (.t 3), (some 10), none, []⟩ :: ⟨.load 1 false (.t 10), (some 11), none, []⟩ :: L93_8
theorem v93_9 : VS L93_9.eq_1 := rfl
def L93_10 : List AStep := [⟨.bin .eql (.t 7) (.c (.int .i64 1)), (some 19), none, []⟩, ⟨.mov (.t 19), (some 18), none, []⟩]
theorem v93_10 : VS L93_10.eq_1 := rfl
def L93_11 : List AStep := [⟨.store 1 (.t 29) (.t 28), none, none, []⟩]
theorem v93_11 : VS L93_11.eq_1 := rfl
def L93_12 : List AStep := ⟨.append 93 2 24 (.t 21) (.t 27), (some 28), none, []⟩ :: ⟨.faddr 1 (.t 3), (some 29), none, []⟩ :: L93_11
theorem v93_12 : VS L93_12.eq_1 := rfl
def L93_13 : List AStep := ⟨.build [(.str (strOfNums [])), (.int .i64 0)] [(0, 1, (.t 23)), (1, 1, (.t 25))], (some 26), none, []⟩ :: ⟨.buildSlice 93 1 [(.str (strOfNums [])), (.int .i64 0)] [(0, 2, (.t 26))], (some 27), none, []⟩ :: L93_12
theorem v93_13 : VS L93_13.eq_1 := rfl
def L93_14 : List AStep := ⟨.call 133 [(.t 22)], (some 23), none, [(.load 1 false (.t 20), (some 21), none)]⟩ :: ⟨.call 136 [(.t 24)], (some 25), none, [(.load 1 false (.t 20), (some 21), none)]⟩ :: L93_13
theorem v93_14 : VS L93_14.eq_1 := rfl
def L93_15 : List AStep := ⟨.mov (.t 0), (some 22), none, []⟩ :: ⟨.mov (.t 0), (some 24), none, []⟩ :: L93_14
theorem v93_15 : VS L93_15.eq_1 := rfl
def L93_16 : List AStep := ⟨.faddr 1 (.t 3), (some 20), none, []⟩ :: ⟨.load 1 false (.t 20), (some 21), none, []⟩ :: L93_15
theorem v93_16 : VS L93_16.eq_1 := rfl
def L93_17 : List AStep := [⟨.bin .eql (.t 7) (.c (.int .i64 2)), (some 31), none, []⟩, ⟨.mov (.t 31), (some 30), none, []⟩]
theorem v93_17 : VS L93_17.eq_1 := rfl
def L93_18 : List AStep := [⟨.store 1 (.t 33) (.t 32), none, none, []⟩]
theorem v93_18 : VS L93_18.eq_1 := rfl
def L93_19 : List AStep := ⟨.mkslice 3 8 [(.int .i64 0)] (.c (.int .i64 9)) (.c (.int .i64 9)), (some 32), none, []⟩ :: ⟨.faddr 0 (.t 3), (some 33), none, []⟩ :: L93_18
theorem v93_19 : VS L93_19.eq_1 := rfl
def L93_20 : List AStep := [⟨.load 2 true (.t 3), (some 34), none, []⟩, ⟨.store 2 (.t 2) (.t 34), none, none, []⟩]
theorem v93_20 : VS L93_20.eq_1 := rfl
def C93_0 : ACode := .cond (.t 30) (.reg L93_19) .skip
theorem u93_0 : VC C93_0.eq_1 := rfl
def C93_1 : ACode := .seq (.reg L93_17) C93_0
theorem u93_1 : VC C93_1.eq_1 := rfl
def C93_2 : ACode := .cond (.t 18) (.reg L93_16) C93_1
theorem u93_2 : VC C93_2.eq_1 := rfl
def C93_3 : ACode := .seq (.reg L93_10) C93_2
theorem u93_3 : VC C93_3.eq_1 := rfl
def C93_4 : ACode := .cond (.t 8) (.reg L93_9) C93_3
theorem u93_4 : VC C93_4.eq_1 := rfl
def C93_5 : ACode := .seq (.reg L93_4) C93_4
theorem u93_5 : VC C93_5.eq_1 := rfl
def C93_6 : ACode := .block 0 C93_5
theorem u93_6 : VC C93_6.eq_1 := rfl
def C93_7 : ACode := .seq (.reg L93_3) C93_6
theorem u93_7 : VC C93_7.eq_1 := rfl
def C93_8 : ACode := .seq (.reg L93_20) .ret
theorem u93_8 : VC C93_8.eq_1 := rfl
def C93_9 : ACode := .seq C93_7 C93_8
theorem u93_9 : VC C93_9.eq_1 := rfl
def C93_10 : ACode := .seq (.reg L93_2) C93_9
theorem u93_10 : VC C93_10.eq_1 := rfl
def C93_11 : ACode := .seq (.reg L93_0) C93_10
theorem u93_11 : VC C93_11.eq_1 := rfl
def F93 : AFunc := ⟨35, [.cell 2 2 true], C93_11⟩
theorem cF93 : compB Try.prog 93 = some F93 := by kernel_rfl
attribute [local go_sem ↓] u93_0 u93_1 u93_2 u93_3 u93_4 u93_5 u93_6 u93_7 u93_8 u93_9 u93_10 u93_11 v93_0 v93_1 v93_2 v93_3 v93_4 v93_5 v93_6 v93_7 v93_8 v93_9 v93_10 v93_11 v93_12 v93_13 v93_14 v93_15 v93_16 v93_17 v93_18 v93_19 v93_20
theorem c_someFlat (b : Nat) (p : Int) (h : H) (r : Rd h b p) (hp : p ≤ 2 ^ 38) : callK (bm Try.prog 93 [.one (.ptr (some (b, 0)))] h) fun q h' => (∃ x y f, q = .agg [x, y] ∧ NwF h h' x y f ∧ miniF f) ∧ Drew b p 21 h h' := by
  refine bm_of cF93 ?_
  have hbn := r.lt
  simp +contextual (maxSteps := 2000000) only [go_sem, Nat.reduceEqDiff, reduceCtorEq, Nat.reduceAdd, Nat.reduceLeDiff, F93]
  refine wp_call (c_goodFlat b p h r (by omega)) ?_
  rintro q h1 ⟨⟨x, y, f, rfl, z1, tf⟩, d1⟩
  obtain ⟨p1, hp1, hp2, r1⟩ := d1.ex
  simp +contextual (maxSteps := 2000000) only [go_sem, Nat.reduceEqDiff, reduceCtorEq, Nat.reduceAdd, Nat.reduceLeDiff]
  refine wp_call (c_pick b 24 p1 h1 r1 (by omega)) ?_
  rintro q h2 ⟨⟨k, rfl, k0, k1⟩, d2⟩
  have z2 := z1.drew d2 hbn
  obtain ⟨p2, hq1, hq2, r2⟩ := d2.ex
  have d2 := d2.then d1.st (by omega) hp2
  by_cases e0 : k = 0
  · simp +contextual (maxSteps := 2000000) only [go_sem, Nat.reduceEqDiff, reduceCtorEq, Nat.reduceAdd, Nat.reduceLeDiff, decide_eq_true e0]
    refine wp_lit (enc := encI) (k := 1) (l := [100, -100]) rfl rfl ?_
    intro h3 w3 g3 n3 b3
    simp +contextual (maxSteps := 2000000) only [go_sem, Nat.reduceEqDiff, reduceCtorEq, Nat.reduceAdd, Nat.reduceLeDiff]
    refine wp_call (c_one b p2 _ w3 h3 (r2.grow g3) (by omega) (n3.sl lenI) (fun i hi => Nat.lt_of_lt_of_le r2.lt (b3 i hi)) (by decide) (by decide)) ?_
    rintro q h4 ⟨⟨n, _, rfl⟩, d4⟩
    have z4 := (z2.grow g3).drew d4 hbn
    have d4 := (d4.pre g3).then d2.st (by omega) (show p2 ≤ p + ((16 + 1 : Nat) : Int) by omega)
    simp +contextual (maxSteps := 2000000) only [go_sem, Nat.reduceEqDiff, reduceCtorEq, Nat.reduceAdd, Nat.reduceLeDiff]
    refine wp_lit (enc := encI) (k := 1) (l := [n]) rfl rfl ?_
    intro h5 w5 g5 n5 b5
    have z5 := z4.grow g5
    simp +contextual (maxSteps := 2000000) only [go_sem, Nat.reduceEqDiff, reduceCtorEq, Nat.reduceAdd, Nat.reduceLeDiff]
    refine wp_appendD lenI z5.pl (n5.sl lenI) (Nat.le_trans d4.st.n g5.n) (by have := tf.pl; simp; omega) ?_
    intro h6 s6 n6 st6 hb6
    obtain ⟨c6, rfl⟩ := n6.one
    have z6 := z5.appPl n6 st6 hb6
    have d6 := ((d4.grow g5).stay st6 (fun i hi => (z5.pl.lt hi).2) hbn).more (show 16 + 1 + 1 ≤ 21 by omega)
    simp +contextual (maxSteps := 2000000) only [go_sem, Nat.reduceEqDiff, reduceCtorEq, Nat.reduceAdd, Nat.reduceLeDiff]
    exact gcK_drew r d6 ⟨⟨c6, y, _, rfl, z6, ⟨by have := tf.pl; simp; omega, by have := tf.nl; show f.nl.length ≤ _; omega, fun x hx => Nat.le_trans (tf.nm x hx) (by decide)⟩⟩, d6⟩
  by_cases e1 : k = 1
  · simp +contextual (maxSteps := 2000000) only [go_sem, Nat.reduceEqDiff, reduceCtorEq, Nat.reduceAdd, Nat.reduceLeDiff, decide_eq_false e0, decide_eq_true e1]
    refine wp_call (c_anyName b p2 h2 r2 (by omega)) ?_
    rintro q h3 ⟨⟨s, rfl, hs⟩, d3⟩
    have z3 := z2.drew d3 hbn
    obtain ⟨p3, hs1, hs2, r3⟩ := d3.ex
    have d3 := d3.then d2.st (by omega) (show p2 ≤ p + ((16 + 1 : Nat) : Int) by omega)
    simp +contextual (maxSteps := 2000000) only [go_sem, Nat.reduceEqDiff, reduceCtorEq, Nat.reduceAdd, Nat.reduceLeDiff]
    refine wp_call (c_anyNumber b p3 h3 r3 (by omega)) ?_
    rintro q h4 ⟨⟨n, rfl⟩, d4⟩
    have z4 := z3.drew d4 hbn
    have d4 := d4.then d3.st (by omega) (show p3 ≤ p + ((16 + 1 + 2 : Nat) : Int) by omega)
    simp +contextual (maxSteps := 2000000) only [go_sem, Nat.reduceEqDiff, reduceCtorEq, Nat.reduceAdd, Nat.reduceLeDiff]
    refine wp_lit (enc := encP) (k := 2) (l := [⟨s, n⟩]) rfl rfl ?_
    intro h5 w5 g5 n5 b5
    have z5 := z4.grow g5
    simp +contextual (maxSteps := 2000000) only [go_sem, Nat.reduceEqDiff, reduceCtorEq, Nat.reduceAdd, Nat.reduceLeDiff]
    refine wp_appendD lenP z5.nl (n5.sl lenP) (Nat.le_trans d4.st.n g5.n) (by have := tf.nl; simp; omega) ?_
    intro h6 s6 n6 st6 hb6
    obtain ⟨c6, rfl⟩ := n6.one
    have z6 := z5.appNl n6 st6 hb6
    have d6 := (d4.grow g5).stay st6 (fun i hi => (z5.nl.lt hi).2) hbn
    simp +contextual (maxSteps := 2000000) only [go_sem, Nat.reduceEqDiff, reduceCtorEq, Nat.reduceAdd, Nat.reduceLeDiff]
    refine gcK_drew r d6 ⟨⟨x, c6, _, rfl, z6, ⟨by have := tf.pl; show f.pl.length ≤ _; omega, by have := tf.nl; simp; omega, fun w hw => ?_⟩⟩, d6⟩
    rcases List.mem_append.1 hw with e | e
    · exact Nat.le_trans (tf.nm w e) (by decide)
    · rw [List.mem_singleton.1 e]; exact Nat.le_trans hs (by decide)
  by_cases e2 : k = 2
  · simp +contextual (maxSteps := 2000000) only [go_sem, Nat.reduceEqDiff, reduceCtorEq, Nat.reduceAdd, Nat.reduceLeDiff, decide_eq_false e0, decide_eq_false e1, decide_eq_true e2]
    refine wp_make (enc := encI) (k := 1) (n := 9) 0 rfl (by omega) (by omega) ?_
    intro h3 w3 g3 n3 b3
    obtain ⟨c3, rfl⟩ := n3.one
    have z3 : NwF h h3 c3 y ⟨List.replicate 9 0, f.nl⟩ := ⟨n3.from d2.st.n, z2.nl.grow g3, (z2.nl.apart n3).symm⟩
    have d3 := (d2.grow g3).more (show 16 + 1 ≤ 21 by omega)
    simp +contextual (maxSteps := 2000000) only [go_sem, Nat.reduceEqDiff, reduceCtorEq, Nat.reduceAdd, Nat.reduceLeDiff]
    exact gcK_drew r d3 ⟨⟨c3, y, _, rfl, z3, ⟨by simp, by have := tf.nl; show f.nl.length ≤ _; omega, fun x hx => Nat.le_trans (tf.nm x hx) (by decide)⟩⟩, d3⟩
  · have d3 := d2.more (show 16 + 1 ≤ 21 by omega)
    simp +contextual (maxSteps := 2000000) only [go_sem, Nat.reduceEqDiff, reduceCtorEq, Nat.reduceAdd, Nat.reduceLeDiff, decide_eq_false e0, decide_eq_false e1, decide_eq_false e2]
    exact gcK_drew r d3 ⟨⟨x, y, f, rfl, z2, tf.mini⟩, d3⟩
end Go.Proofs.Ytekkimfdcbgcoac.Am
