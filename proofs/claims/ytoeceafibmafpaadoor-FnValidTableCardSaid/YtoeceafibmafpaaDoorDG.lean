/- Contracts: what is drawn: numbers, names, flat calls. -/
import Derived.Test.YtoeceafibmafpaaDoorDR
import Derived.Test.YtoeceafibmafpaaDoorB2
namespace Go.Proofs.YtoeceafibmafpaaDoor.Am
open Go
set_option maxRecDepth 100000
set_option maxHeartbeats 4000000
set_option linter.unusedSimpArgs false
set_option linter.unusedVariables false
attribute [local go_sem ↓] bv_t bv_c ev_t ev_c put_same put_ne put_none kill_at pro_at lb_same lb_ne start_zero start_succ wpC_seq wpC_reg wpC_cond wpC_block wpC_skip wpC_exit wpC_ret thenQ_normal thenQ_exit thenQ_ret inBlk_normal inBlk_exit inBlk_ret wpS_nil wpS_step wpS_again wpS_guard wpO_mov wpO_load wpO_faddr wpO_nilCheck wpO_pick wpO_build wpO_bin wpO_eqb wpO_eqst wpO_eqnil wpO_not wpO_conv wpO_bytesStr wpO_iaddr wpO_idxStr wpO_field wpO_extract wpO_len wpO_lenStr wpO_cap wpO_min wpO_slice wpO_sliceStr wpO_alloc wpO_box wpO_store wpO_call wpO_callv wpO_mkfn wpO_buildSlice wpO_mkslice wpO_append wpO_appz proA_nil proA_cons tmpX_nil tmpX_tmp tmpX_cell doneB_normal doneB_ret agK_cons agK_nil agK_guard agG_tt agG_ff agG_tf agG_ft agG_undef pureB_load results_one results_two results_nil resBs_cons resBs_nil resB_tmp resB_cell
attribute [local go_sem] kill_v kill_lp_ne kill_lp_same pro_v pro_lp_same pro_lp_ne av_v av_lp optB_some optX_some valX_eq ldX_lp ldX_v faX_lp faX_v ncX_lp ncX_ptr ncX_fn boxK_one boxK_agg stL_some stK_lp_one stK_lp_agg stK_v_one stK_v_agg proM_v proM_lp callG_mk callVG_mk callvK_fn fnG_mk ptrsA_nil ptrsA_cons callH_some whenA_true whenA_false guardH_tt guardH_ff guardH_tf guardH_ft guardH_undef agV_one agV_agg lenO_sl lenStrO_str notO_bool pickO_bool convO_int eqbO_bool eqnilO_sl extractO_tup capO_sl minO_int loadL_one loadL_all storeL_eq fillA_nil fillA_one fillA_agg nat_ge neg_ge nat_lt neg_lt buildO bin_add bin_sub bin_mul bin_eql bin_neq bin_lss bin_leq bin_gtr bin_geq str_eql str_neq str_lss str_leq str_gtr str_geq retK_some endK_mk gcK_same gcK_int gcK_bool tupO_one tupO_agg rdy_self ib ii Option.map_none Option.map_some Option.some.injEq exists_eq_left' exists_eq_left ne_eq not_false_eq_true if_true if_false List.map_cons List.map_nil List.getElem?_cons_zero List.getElem?_cons_succ List.length_cons List.length_nil List.take_succ_cons List.take_zero List.take_nil List.drop_succ_cons List.drop_zero List.drop_nil List.cons_append List.nil_append List.append_nil List.set_cons_zero List.set_cons_succ Nat.zero_add forall_const true_and and_true and_self Bool.false_eq_true false_implies true_implies implies_true Bool.not_true Bool.not_false Bool.not_eq_true' Bool.not_eq_false' beq_self_eq_true Bool.bne_true Bool.bne_false
attribute [local go_sem] lenI lenS lenP lenQ lenB lenL lenT encI_0 encS_0 encP_0 encP_1 encQ_0 encQ_1 encQ_2 encQ_3 encB_0 encB_1 encL_0 encL_1 encT_0 encT_1
attribute [local go_sem low] whenA_bool guardH_bool
def H.cut (h : H) (n : Nat) : H := ⟨n, h.f⟩
theorem H.cut_grow {h : H} {n : Nat} (hn : n ≤ h.n) : Grow (h.cut n) h := ⟨hn, fun _ _ => rfl⟩
def pR (b : Nat) : AV := .one (.ptr (some (b, 0)))
theorem Drew.pre {h h1 h2 : H} {b c : Nat} {p : Int} (d : Drew b p c h1 h2) (g : Grow h h1) : Drew b p c h h2 := ⟨(g.stay _).trans d.st, d.ex⟩
theorem Nw.drew {α : Type} {enc : α → List CV} {k ty b c : Nat} {p : Int} {h0 h1 h2 : H} {v : AV} {l : List α} (z : Nw enc k ty h0 h1 v l) (d : Drew b p c h1 h2) (hb : b < h0.n) : Nw enc k ty h0 h2 v l :=
  z.stay d.st fun i hi e => by have := (z.lt hi).2; simp [bR, baseOf] at e; omega
theorem NwF.drew {b c : Nat} {p : Int} {h0 h1 h2 : H} {x y : CV} {f : Flat} (z : NwF h0 h1 x y f) (d : Drew b p c h1 h2) (hb : b < h0.n) : NwF h0 h2 x y f := ⟨z.pl.drew d hb, z.nl.drew d hb, z.sep⟩
theorem wp_appendD {α : Type} {enc : α → List CV} {k ty b : Nat} {T : Tb} {L : Lb} {K : Post} {h0 h : H} {s x : AV} {l m : List α} {d : Option Nat} (he : ∀ x, (enc x).length = k) (hs : Nw enc k ty h0 h s l) (hx : Sl enc k ty h x m) (hn : h0.n ≤ h.n) (hb : (l.length + m.length) * b ≤ 140737488355328)
    (hk : ∀ h1 s', Nw enc k ty h0 h1 s' (l ++ m) → Stay s h h1 → (∀ i, baseOf s' = some i → baseOf s = some i ∨ h.n ≤ i) → K (T.put d (.v s')) L (rdy h1)) : apK ty k b s x d T L h K :=
  wp_append he (hs.from (h0 := h.cut h0.n) (Nat.le_refl _)) hx (H.cut_grow hn) hb fun h1 s' _ n st hb4 => hk h1 s' (n.from (h0 := h0) (Nat.le_refl _)) st hb4
theorem putP_in {l : List Pair} {x y : Pair} (h : y ∈ putP l x) : y ∈ l ∨ y = x := by
  unfold putP at h
  split at h
  · rcases List.mem_or_eq_of_mem_set h with e | e
    · exact .inl e
    · exact .inr e
  · rcases List.mem_append.1 h with e | e
    · exact .inl e
    · exact .inr (by simpa using e)
theorem putP_short {l : List Pair} {x : Pair} : (putP l x).length ≤ l.length + 1 := by
  unfold putP
  split
  · simp
  · simp
/-- Small: what is drawn. -/
structure tinyF (f : Flat) : Prop where
  pl : f.pl.length ≤ 10
  nl : f.nl.length ≤ 10
  nm : ∀ x ∈ f.nl, x.name.size ≤ 10
theorem tinyF.mini {f : Flat} (t : tinyF f) : miniF f := ⟨Nat.le_trans t.pl (by decide), Nat.le_trans t.nl (by decide), fun x hx => Nat.le_trans (t.nm x hx) (by decide)⟩
/-! spec.aNumber -/
def L137_0 : List AStep := [⟨.mov (.c (.int .i64 0)), (some 2), none, []⟩]
theorem v137_0 : VS L137_0.eq_1 := rfl
def L137_1 : List AStep := [⟨.call 111 [(.t 3), (.t 4)], (some 5), none, []⟩, ⟨.mov (.t 5), (some 2), none, []⟩]
theorem v137_1 : VS L137_1.eq_1 := rfl
def L137_2 : List AStep := ⟨.mov (.t 0), (some 3), none, []⟩ :: ⟨.buildSlice 3 9 [(.int .i64 0)] [(0, 1, (.c (.int .i64 1))), (1, 1, (.c (.int .i64 2))), (2, 1, (.c (.int .i64 3))), (3, 1, (.c (.int .i64 0))), (4, 1, (.c (.int .i64 5))), (5, 1, (.c (.int .i64 (-1)))), (6, 1, (.c (.int .i64 7))), (7, 1, (.c (.int .i64 99))), (8, 1, (.c (.int .i64 (-99))))], (some 4), none, []⟩ :: L137_1
theorem v137_2 : VS L137_2.eq_1 := rfl
def C137_0 : ACode := .seq (.reg L137_2) .ret
theorem u137_0 : VC C137_0.eq_1 := rfl
def C137_1 : ACode := .seq (.reg L137_0) C137_0
theorem u137_1 : VC C137_1.eq_1 := rfl
def F137 : AFunc := ⟨6, [.tmp 2], C137_1⟩
theorem cF137 : compB Tryd.prog 137 = some F137 := by kernel_rfl
attribute [local go_sem ↓] u137_0 u137_1 v137_0 v137_1 v137_2
theorem c_aNumber (b : Nat) (p : Int) (h : H) (r : Rd h b p) (hp : p ≤ 2 ^ 40) : callK (bm Tryd.prog 137 [.one (.ptr (some (b, 0)))] h) fun q h' => (∃ n, q = ii n) ∧ Drew b p 1 h h' := by
  refine bm_of cF137 ?_
  simp +contextual (maxSteps := 2000000) only [go_sem, Nat.reduceEqDiff, reduceCtorEq, Nat.reduceAdd, Nat.reduceLeDiff, F137]
  refine wp_lit (enc := encI) (k := 1) (l := [1, 2, 3, 0, 5, -1, 7, 99, -99]) rfl rfl ?_
  intro h1 w g1 n1 b1
  simp +contextual (maxSteps := 2000000) only [go_sem, Nat.reduceEqDiff, reduceCtorEq, Nat.reduceAdd, Nat.reduceLeDiff]
  refine wp_call (c_one b p _ w h1 (r.grow g1) hp (n1.sl lenI) (fun i hi => Nat.lt_of_lt_of_le r.lt (b1 i hi)) (by decide) (by decide)) ?_
  rintro q h2 ⟨⟨n, _, rfl⟩, d⟩
  have d := d.pre g1
  simp +contextual (maxSteps := 2000000) only [go_sem, Nat.reduceEqDiff, reduceCtorEq, Nat.reduceAdd, Nat.reduceLeDiff]
  exact gcK_drew r d ⟨⟨_, rfl⟩, d⟩
/-! spec.aName -/
def L151_0 : List AStep := [⟨.mov (.c (.str (strOfNums []))), (some 2), none, []⟩]
theorem v151_0 : VS L151_0.eq_1 := rfl
def L151_1 : List AStep := [⟨.call 114 [(.t 3), (.t 4)], (some 5), none, []⟩, ⟨.mov (.t 5), (some 2), none, []⟩]
theorem v151_1 : VS L151_1.eq_1 := rfl
def L151_2 : List AStep := ⟨.mov (.t 0), (some 3), none, []⟩ :: ⟨.buildSlice 9 9 [(.str (strOfNums []))] [(0, 1, (.c (.str (strOfNums [97])))), (1, 1, (.c (.str (strOfNums [98])))), (2, 1, (.c (.str (strOfNums [99])))), (3, 1, (.c (.str (strOfNums [100])))), (4, 1, (.c (.str (strOfNums [120])))), (5, 1, (.c (.str (strOfNums [121])))), (6, 1, (.c (.str (strOfNums [97])))), (7, 1, (.c (.str (strOfNums [98])))), (8, 1, (.c (.str (strOfNums [99]))))], (some 4), none, []⟩ :: L151_1
theorem v151_2 : VS L151_2.eq_1 := rfl
def C151_0 : ACode := .seq (.reg L151_2) .ret
theorem u151_0 : VC C151_0.eq_1 := rfl
def C151_1 : ACode := .seq (.reg L151_0) C151_0
theorem u151_1 : VC C151_1.eq_1 := rfl
def F151 : AFunc := ⟨6, [.tmp 2], C151_1⟩
theorem cF151 : compB Tryd.prog 151 = some F151 := by kernel_rfl
attribute [local go_sem ↓] u151_0 u151_1 v151_0 v151_1 v151_2
theorem c_aName (b : Nat) (p : Int) (h : H) (r : Rd h b p) (hp : p ≤ 2 ^ 40) : callK (bm Tryd.prog 151 [.one (.ptr (some (b, 0)))] h) fun q h' => (∃ s, q = .one (.str s) ∧ s.size ≤ 10) ∧ Drew b p 1 h h' := by
  refine bm_of cF151 ?_
  simp +contextual (maxSteps := 2000000) only [go_sem, Nat.reduceEqDiff, reduceCtorEq, Nat.reduceAdd, Nat.reduceLeDiff, F151]
  refine wp_lit (enc := encS) (k := 1) (l := [strOfNums [97], strOfNums [98], strOfNums [99], strOfNums [100], strOfNums [120], strOfNums [121], strOfNums [97], strOfNums [98], strOfNums [99]]) rfl rfl ?_
  intro h1 w g1 n1 b1
  simp +contextual (maxSteps := 2000000) only [go_sem, Nat.reduceEqDiff, reduceCtorEq, Nat.reduceAdd, Nat.reduceLeDiff]
  refine wp_call (c_of b p _ w h1 (r.grow g1) hp (n1.sl lenS) (fun i hi => Nat.lt_of_lt_of_le r.lt (b1 i hi)) (by decide) (by decide)) ?_
  rintro q h2 ⟨⟨s, hs, rfl⟩, d⟩
  have d := d.pre g1
  simp +contextual (maxSteps := 2000000) only [go_sem, Nat.reduceEqDiff, reduceCtorEq, Nat.reduceAdd, Nat.reduceLeDiff]
  exact gcK_drew r d ⟨⟨_, rfl, by
    simp only [List.mem_cons, List.not_mem_nil, or_false] at hs
    rcases hs with rfl | rfl | rfl | rfl | rfl | rfl | rfl | rfl | rfl <;> exact Nat.le_of_ble_eq_true rfl⟩, d⟩
/-! spec.anyName -/
def L139_0 : List AStep := [⟨.mov (.c (.str (strOfNums []))), (some 2), none, []⟩]
theorem v139_0 : VS L139_0.eq_1 := rfl
def L139_1 : List AStep := [⟨.bin .eql (.t 4) (.c (.int .i64 0)), (some 5), none, []⟩]
theorem v139_1 : VS L139_1.eq_1 := rfl
def L139_2 : List AStep := ⟨.mov (.t 0), (some 3), none, []⟩ :: ⟨.call 89 [(.t 3), (.c (.int .i64 16))], (some 4), none, []⟩ :: L139_1
theorem v139_2 : VS L139_2.eq_1 := rfl
def L139_3 : List AStep := [⟨.call 114 [(.t 6), (.t 7)], (some 8), none, []⟩, ⟨.mov (.t 8), (some 2), none, []⟩]
theorem v139_3 : VS L139_3.eq_1 := rfl
def L139_4 : List AStep := ⟨.mov (.t 0), (some 6), none, []⟩ :: ⟨.buildSlice 9 5 [(.str (strOfNums []))] [(0, 1, (.c (.str (strOfNums [])))), (1, 1, (.c (.str (strOfNums [65])))), (2, 1, (.c (.str (strOfNums [116, 111, 111, 108, 111, 110, 103])))), (3, 1, (.c (.str (strOfNums [97, 49])))), (4, 1, (.c (.str (strOfNums [97, 98, 99, 100, 101, 102]))))], (some 7), none, []⟩ :: L139_3
theorem v139_4 : VS L139_4.eq_1 := rfl
def L139_5 : List AStep := [⟨.mov (.t 10), (some 2), none, []⟩]
theorem v139_5 : VS L139_5.eq_1 := rfl
def L139_6 : List AStep := ⟨.mov (.t 0), (some 9), none, []⟩ :: ⟨.call 151 [(.t 9)], (some 10), none, []⟩ :: L139_5
theorem v139_6 : VS L139_6.eq_1 := rfl
def C139_0 : ACode := .seq (.reg L139_4) .ret
theorem u139_0 : VC C139_0.eq_1 := rfl
def C139_1 : ACode := .cond (.t 5) C139_0 .skip
theorem u139_1 : VC C139_1.eq_1 := rfl
def C139_2 : ACode := .seq (.reg L139_2) C139_1
theorem u139_2 : VC C139_2.eq_1 := rfl
def C139_3 : ACode := .seq (.reg L139_6) .ret
theorem u139_3 : VC C139_3.eq_1 := rfl
def C139_4 : ACode := .seq C139_2 C139_3
theorem u139_4 : VC C139_4.eq_1 := rfl
def C139_5 : ACode := .seq (.reg L139_0) C139_4
theorem u139_5 : VC C139_5.eq_1 := rfl
def F139 : AFunc := ⟨11, [.tmp 2], C139_5⟩
theorem cF139 : compB Tryd.prog 139 = some F139 := by kernel_rfl
attribute [local go_sem ↓] u139_0 u139_1 u139_2 u139_3 u139_4 u139_5 v139_0 v139_1 v139_2 v139_3 v139_4 v139_5 v139_6
theorem c_anyName (b : Nat) (p : Int) (h : H) (r : Rd h b p) (hp : p ≤ 2 ^ 39) : callK (bm Tryd.prog 139 [.one (.ptr (some (b, 0)))] h) fun q h' => (∃ s, q = .one (.str s) ∧ s.size ≤ 10) ∧ Drew b p 2 h h' := by
  refine bm_of cF139 ?_
  simp +contextual (maxSteps := 2000000) only [go_sem, Nat.reduceEqDiff, reduceCtorEq, Nat.reduceAdd, Nat.reduceLeDiff, F139]
  refine wp_call (c_pick b 16 p h r (by omega)) ?_
  rintro q h1 ⟨⟨k, rfl, k0, k1⟩, d1⟩
  obtain ⟨p1, hp1, hp2, r1⟩ := d1.ex
  by_cases e : k = 0
  · simp +contextual (maxSteps := 2000000) only [go_sem, Nat.reduceEqDiff, reduceCtorEq, Nat.reduceAdd, Nat.reduceLeDiff, decide_eq_true e]
    refine wp_lit (enc := encS) (k := 1) (l := [strOfNums [], strOfNums [65], strOfNums [116, 111, 111, 108, 111, 110, 103], strOfNums [97, 49], strOfNums [97, 98, 99, 100, 101, 102]]) rfl rfl ?_
    intro h2 w g2 n2 b2
    simp +contextual (maxSteps := 2000000) only [go_sem, Nat.reduceEqDiff, reduceCtorEq, Nat.reduceAdd, Nat.reduceLeDiff]
    refine wp_call (c_of b p1 _ w h2 (r1.grow g2) (by omega) (n2.sl lenS) (fun i hi => Nat.lt_of_lt_of_le r1.lt (b2 i hi)) (by decide) (by decide)) ?_
    rintro q h3 ⟨⟨s, hs, rfl⟩, d3⟩
    have d := (d3.pre g2).then d1.st (by omega) hp2
    simp +contextual (maxSteps := 2000000) only [go_sem, Nat.reduceEqDiff, reduceCtorEq, Nat.reduceAdd, Nat.reduceLeDiff]
    exact gcK_drew r d ⟨⟨_, rfl, by
      simp only [List.mem_cons, List.not_mem_nil, or_false] at hs
      rcases hs with rfl | rfl | rfl | rfl | rfl <;> exact Nat.le_of_ble_eq_true rfl⟩, d⟩
  · simp +contextual (maxSteps := 2000000) only [go_sem, Nat.reduceEqDiff, reduceCtorEq, Nat.reduceAdd, Nat.reduceLeDiff, decide_eq_false e]
    refine wp_call (c_aName b p1 h1 r1 (by omega)) ?_
    rintro q h3 ⟨⟨s, rfl, hs⟩, d3⟩
    have d := d3.then d1.st (by omega) hp2
    simp +contextual (maxSteps := 2000000) only [go_sem, Nat.reduceEqDiff, reduceCtorEq, Nat.reduceAdd, Nat.reduceLeDiff]
    exact gcK_drew r d ⟨⟨_, rfl, hs⟩, d⟩
end Go.Proofs.YtoeceafibmafpaaDoor.Am
