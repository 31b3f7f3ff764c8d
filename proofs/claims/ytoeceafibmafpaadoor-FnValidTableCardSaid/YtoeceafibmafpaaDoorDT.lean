/- Contracts: signatures that may be invalid, and calls of them. -/
import Derived.Test.YtoeceafibmafpaaDoorDC
import Derived.Test.YtoeceafibmafpaaDoorDI
namespace Go.Proofs.YtoeceafibmafpaaDoor.Am
open Go
set_option maxRecDepth 100000
set_option maxHeartbeats 4000000
set_option linter.unusedSimpArgs false
set_option linter.unusedVariables false
attribute [local go_sem ↓] bv_t bv_c ev_t ev_c put_same put_ne put_none kill_at pro_at lb_same lb_ne start_zero start_succ wpC_seq wpC_reg wpC_cond wpC_block wpC_skip wpC_exit wpC_ret thenQ_normal thenQ_exit thenQ_ret inBlk_normal inBlk_exit inBlk_ret wpS_nil wpS_step wpS_again wpS_guard wpO_mov wpO_load wpO_faddr wpO_nilCheck wpO_pick wpO_build wpO_bin wpO_eqb wpO_eqst wpO_eqnil wpO_not wpO_conv wpO_bytesStr wpO_iaddr wpO_idxStr wpO_field wpO_extract wpO_len wpO_lenStr wpO_cap wpO_min wpO_slice wpO_sliceStr wpO_alloc wpO_box wpO_store wpO_call wpO_callv wpO_mkfn wpO_buildSlice wpO_mkslice wpO_append wpO_appz proA_nil proA_cons tmpX_nil tmpX_tmp tmpX_cell doneB_normal doneB_ret agK_cons agK_nil agK_guard agG_tt agG_ff agG_tf agG_ft agG_undef pureB_load results_one results_two results_nil resBs_cons resBs_nil resB_tmp resB_cell
attribute [local go_sem] kill_v kill_lp_ne kill_lp_same pro_v pro_lp_same pro_lp_ne av_v av_lp optB_some optX_some valX_eq ldX_lp ldX_v faX_lp faX_v ncX_lp ncX_ptr ncX_fn boxK_one boxK_agg stL_some stK_lp_one stK_lp_agg stK_v_one stK_v_agg proM_v proM_lp callG_mk callVG_mk callvK_fn fnG_mk ptrsA_nil ptrsA_cons callH_some whenA_true whenA_false guardH_tt guardH_ff guardH_tf guardH_ft guardH_undef agV_one agV_agg lenO_sl lenStrO_str notO_bool pickO_bool convO_int eqbO_bool eqnilO_sl extractO_tup capO_sl minO_int loadL_one loadL_all storeL_eq fillA_nil fillA_one fillA_agg nat_ge neg_ge nat_lt neg_lt buildO bin_add bin_sub bin_mul bin_eql bin_neq bin_lss bin_leq bin_gtr bin_geq str_eql str_neq str_lss str_leq str_gtr str_geq retK_some endK_mk gcK_same gcK_int gcK_bool tupO_one tupO_agg rdy_self ib ii Option.map_none Option.map_some Option.some.injEq exists_eq_left' exists_eq_left ne_eq not_false_eq_true if_true if_false List.map_cons List.map_nil List.getElem?_cons_zero List.getElem?_cons_succ List.length_cons List.length_nil List.take_succ_cons List.take_zero List.take_nil List.drop_succ_cons List.drop_zero List.drop_nil List.cons_append List.nil_append List.append_nil List.set_cons_zero List.set_cons_succ Nat.zero_add forall_const true_and and_true and_self Bool.false_eq_true false_implies true_implies implies_true Bool.not_true Bool.not_false Bool.not_eq_true' Bool.not_eq_false' beq_self_eq_true Bool.bne_true Bool.bne_false
attribute [local go_sem] lenI lenS lenP lenQ lenB lenL lenT encI_0 encS_0 encP_0 encP_1 encQ_0 encQ_1 encQ_2 encQ_3 encB_0 encB_1 encL_0 encL_1 encT_0 encT_1
attribute [local go_sem low] whenA_bool guardH_bool
theorem Sl.scalar {α : Type} {enc : α → List CV} {k ty : Nat} {h : H} {v : AV} {l : List α} (hs : Sl enc k ty h v l) (hv : v.scalar = true) (h2 : H) : Sl enc k ty h2 v l := by
  obtain ⟨b, c, e, hc⟩ := hs.form
  have hsrc := hs.src
  have he := hs.enc
  subst e
  cases b with
  | some a => simp [AV.scalar, CV.scalar] at hv
  | none =>
    have : l = [] := by
      cases l with
      | nil => rfl
      | cons y r => simp [srcA] at hsrc
    subst this
    exact ⟨⟨none, c, rfl, hc⟩, by simp [srcA], he, fun a n c he => by simp at he⟩
theorem NwQ.set {h0 h h1 : H} {x : CV} {l m : List Param} (n : NwQ h0 h1 (.one x) m) : NwQ h0 h1 (.one x) m := n
theorem tinyQ.set {l : List Param} (t : tinyQ l) {k : Nat} {x : Param} (hx : x.name.size ≤ 10) : tinyQ (l.set k x) := ⟨by rw [List.length_set]; exact t.len, fun y hy => by
  rcases List.mem_or_eq_of_mem_set hy with hy | rfl
  · exact t.nm y hy
  · exact hx⟩
/-! spec.someSignature -/
def L115_0 : List AStep := [⟨.alloc 38 [(.sl none 0 (some 0))], (some 2), none, []⟩]
theorem v115_0 : VS L115_0.eq_1 := rfl
def L115_1 : List AStep := [⟨.alloc 38 [(.sl none 0 (some 0))], (some 3), none, []⟩, ⟨.store 1 (.t 3) (.t 6), none, none, []⟩]
theorem v115_1 : VS L115_1.eq_1 := rfl
def L115_2 : List AStep := ⟨.mov (.t 0), (some 5), none, []⟩ :: ⟨.call 112 [(.t 5)], (some 6), none, []⟩ :: L115_1
theorem v115_2 : VS L115_2.eq_1 := rfl
def L115_3 : List AStep := [⟨.len (.t 8), (some 9), none, []⟩, ⟨.bin .gtr (.t 9) (.c (.int .i64 0)), (some 10), none, []⟩]
theorem v115_3 : VS L115_3.eq_1 := rfl
def L115_4 : List AStep := ⟨.faddr 0 (.t 3), (some 7), none, []⟩ :: ⟨.load 1 false (.t 7), (some 8), none, []⟩ :: L115_3
theorem v115_4 : VS L115_4.eq_1 := rfl
def L115_5 : List AStep := [⟨.call 89 [(.t 11), (.t 14)], (some 15), none, []⟩, ⟨.mov (.t 15), (some 4), none, []⟩]
theorem v115_5 : VS L115_5.eq_1 := rfl
def L115_6 : List AStep := ⟨.load 1 false (.t 12), (some 13), none, []⟩ :: ⟨.len (.t 13), (some 14), none, []⟩ :: L115_5
theorem v115_6 : VS L115_6.eq_1 := rfl
def L115_7 : List AStep := ⟨.mov (.t 0), (some 11), none, []⟩ :: ⟨.faddr 0 (.t 3), (some 12), none, []⟩ :: L115_6
theorem v115_7 : VS L115_7.eq_1 := rfl
def L115_8 : List AStep := [⟨.mov (.t 0), (some 16), none, []⟩, ⟨.call 89 [(.t 16), (.c (.int .i64 24))], (some 17), none, []⟩]
theorem v115_8 : VS L115_8.eq_1 := rfl
def L115_9 : List AStep := [⟨.bin .eql (.t 17) (.c (.int .i64 0)), (some 19), none, []⟩, ⟨.mov (.t 19), (some 18), none, []⟩]
theorem v115_9 : VS L115_9.eq_1 := rfl
def L115_10 : List AStep := [⟨.faddr 0 (.t 25), (some 26), none, []⟩, ⟨.store 1 (.t 26) (.t 24), none, none, []⟩]
theorem v115_10 : VS L115_10.eq_1 := rfl
def L115_11 : List AStep := ⟨.call 139 [(.t 23)], (some 24), none, [(.load 1 false (.t 20), (some 21), none)]⟩ :: ⟨.iaddr 4 (.t 21) (.t 22), (some 25), none, []⟩ :: L115_10
theorem v115_11 : VS L115_11.eq_1 := rfl
def L115_12 : List AStep := ⟨.mov (.t 4), (some 22), none, []⟩ :: ⟨.mov (.t 0), (some 23), none, []⟩ :: L115_11
theorem v115_12 : VS L115_12.eq_1 := rfl
def L115_13 : List AStep := ⟨.faddr 0 (.t 3), (some 20), none, []⟩ :: ⟨.load 1 false (.t 20), (some 21), none, []⟩ :: L115_12
theorem v115_13 : VS L115_13.eq_1 := rfl
def L115_14 : List AStep := [⟨.bin .eql (.t 17) (.c (.int .i64 1)), (some 28), none, []⟩, ⟨.mov (.t 28), (some 27), none, []⟩]
theorem v115_14 : VS L115_14.eq_1 := rfl
def L115_15 : List AStep := [⟨.store 1 (.t 36) (.t 34), none, none, []⟩]
theorem v115_15 : VS L115_15.eq_1 := rfl
def L115_16 : List AStep := ⟨.iaddr 4 (.t 30) (.t 31), (some 35), none, []⟩ :: ⟨.faddr 1 (.t 35), (some 36), none, []⟩ :: L115_15
theorem v115_16 : VS L115_16.eq_1 := rfl
def L115_17 : List AStep := ⟨.buildSlice 3 5 [(.int .i64 0)] [(0, 1, (.c (.int .i64 (-1)))), (1, 1, (.c (.int .i64 5))), (2, 1, (.c (.int .i64 0))), (3, 1, (.c (.int .i64 2))), (4, 1, (.c (.int .i64 4)))], (some 33), none, []⟩ :: ⟨.call 111 [(.t 32), (.t 33)], (some 34), none, [(.load 1 false (.t 29), (some 30), none)]⟩ :: L115_16
theorem v115_17 : VS L115_17.eq_1 := rfl
def L115_18 : List AStep := ⟨.mov (.t 4), (some 31), none, []⟩ :: ⟨.mov (.t 0), (some 32), none, []⟩ :: L115_17
theorem v115_18 : VS L115_18.eq_1 := rfl
def L115_19 : List AStep := ⟨.faddr 0 (.t 3), (some 29), none, []⟩ :: ⟨.load 1 false (.t 29), (some 30), none, []⟩ :: L115_18
theorem v115_19 : VS L115_19.eq_1 := rfl
def L115_20 : List AStep := [⟨.bin .eql (.t 17) (.c (.int .i64 2)), (some 38), none, []⟩, ⟨.mov (.t 38), (some 37), none, []⟩]
theorem v115_20 : VS L115_20.eq_1 := rfl
def L115_21 : List AStep := [⟨.store 1 (.t 50) (.t 48), none, none, []⟩]
theorem v115_21 : VS L115_21.eq_1 := rfl
def L115_22 : List AStep := ⟨.iaddr 4 (.t 40) (.t 41), (some 49), none, []⟩ :: ⟨.faddr 2 (.t 49), (some 50), none, []⟩ :: L115_21
theorem v115_22 : VS L115_22.eq_1 := rfl
def L115_23 : List AStep := ⟨.load 1 false (.t 46), (some 47), none, []⟩ :: ⟨.not (.t 47), (some 48), none, []⟩ :: L115_22
theorem v115_23 : VS L115_23.eq_1 := rfl
def L115_24 : List AStep := ⟨.iaddr 4 (.t 43) (.t 44), (some 45), none, []⟩ :: ⟨.faddr 2 (.t 45), (some 46), none, []⟩ :: L115_23
theorem v115_24 : VS L115_24.eq_1 := rfl
def L115_25 : List AStep := ⟨.load 1 false (.t 42), (some 43), none, []⟩ :: ⟨.mov (.t 4), (some 44), none, []⟩ :: L115_24
theorem v115_25 : VS L115_25.eq_1 := rfl
def L115_26 : List AStep := ⟨.mov (.t 4), (some 41), none, []⟩ :: ⟨.faddr 0 (.t 3), (some 42), none, []⟩ :: L115_25
theorem v115_26 : VS L115_26.eq_1 := rfl
def L115_27 : List AStep := ⟨.faddr 0 (.t 3), (some 39), none, []⟩ :: ⟨.load 1 false (.t 39), (some 40), none, []⟩ :: L115_26
theorem v115_27 : VS L115_27.eq_1 := rfl
def L115_28 : List AStep := [⟨.bin .eql (.t 17) (.c (.int .i64 3)), (some 52), none, []⟩, ⟨.mov (.t 52), (some 51), none, []⟩]
theorem v115_28 : VS L115_28.eq_1 := rfl
def L115_29 : List AStep := [⟨.store 1 (.t 60) (.t 58), none, none, []⟩]
theorem v115_29 : VS L115_29.eq_1 := rfl
def L115_30 : List AStep := ⟨.iaddr 4 (.t 54) (.t 55), (some 59), none, []⟩ :: ⟨.faddr 3 (.t 59), (some 60), none, []⟩ :: L115_29
theorem v115_30 : VS L115_30.eq_1 := rfl
def L115_31 : List AStep := ⟨.buildSlice 3 2 [(.int .i64 0)] [(0, 1, (.c (.int .i64 100))), (1, 1, (.c (.int .i64 5)))], (some 57), none, []⟩ :: ⟨.call 111 [(.t 56), (.t 57)], (some 58), none, [(.load 1 false (.t 53), (some 54), none)]⟩ :: L115_30
theorem v115_31 : VS L115_31.eq_1 := rfl
def L115_32 : List AStep := ⟨.mov (.t 4), (some 55), none, []⟩ :: ⟨.mov (.t 0), (some 56), none, []⟩ :: L115_31
theorem v115_32 : VS L115_32.eq_1 := rfl
def L115_33 : List AStep := ⟨.faddr 0 (.t 3), (some 53), none, []⟩ :: ⟨.load 1 false (.t 53), (some 54), none, []⟩ :: L115_32
theorem v115_33 : VS L115_33.eq_1 := rfl
def L115_34 : List AStep := [⟨.load 1 true (.t 3), (some 61), none, []⟩, ⟨.store 1 (.t 2) (.t 61), none, none, []⟩]
theorem v115_34 : VS L115_34.eq_1 := rfl
def C115_0 : ACode := .cond (.t 51) (.reg L115_33) .skip
theorem u115_0 : VC C115_0.eq_1 := rfl
def C115_1 : ACode := .seq (.reg L115_28) C115_0
theorem u115_1 : VC C115_1.eq_1 := rfl
def C115_2 : ACode := .cond (.t 37) (.reg L115_27) C115_1
theorem u115_2 : VC C115_2.eq_1 := rfl
def C115_3 : ACode := .seq (.reg L115_20) C115_2
theorem u115_3 : VC C115_3.eq_1 := rfl
def C115_4 : ACode := .cond (.t 27) (.reg L115_19) C115_3
theorem u115_4 : VC C115_4.eq_1 := rfl
def C115_5 : ACode := .seq (.reg L115_14) C115_4
theorem u115_5 : VC C115_5.eq_1 := rfl
def C115_6 : ACode := .cond (.t 18) (.reg L115_13) C115_5
theorem u115_6 : VC C115_6.eq_1 := rfl
def C115_7 : ACode := .seq (.reg L115_9) C115_6
theorem u115_7 : VC C115_7.eq_1 := rfl
def C115_8 : ACode := .block 0 C115_7
theorem u115_8 : VC C115_8.eq_1 := rfl
def C115_9 : ACode := .seq (.reg L115_8) C115_8
theorem u115_9 : VC C115_9.eq_1 := rfl
def C115_10 : ACode := .seq (.reg L115_7) C115_9
theorem u115_10 : VC C115_10.eq_1 := rfl
def C115_11 : ACode := .cond (.t 10) C115_10 .skip
theorem u115_11 : VC C115_11.eq_1 := rfl
def C115_12 : ACode := .seq (.reg L115_4) C115_11
theorem u115_12 : VC C115_12.eq_1 := rfl
def C115_13 : ACode := .seq (.reg L115_34) .ret
theorem u115_13 : VC C115_13.eq_1 := rfl
def C115_14 : ACode := .seq C115_12 C115_13
theorem u115_14 : VC C115_14.eq_1 := rfl
def C115_15 : ACode := .seq (.reg L115_2) C115_14
theorem u115_15 : VC C115_15.eq_1 := rfl
def C115_16 : ACode := .seq (.reg L115_0) C115_15
theorem u115_16 : VC C115_16.eq_1 := rfl
def F115 : AFunc := ⟨62, [.cell 2 1 true], C115_16⟩
theorem cF115 : compB Tryd.prog 115 = some F115 := by kernel_rfl
attribute [local go_sem ↓] u115_0 u115_1 u115_2 u115_3 u115_4 u115_5 u115_6 u115_7 u115_8 u115_9 u115_10 u115_11 u115_12 u115_13 u115_14 u115_15 u115_16 v115_0 v115_1 v115_2 v115_3 v115_4 v115_5 v115_6 v115_7 v115_8 v115_9 v115_10 v115_11 v115_12 v115_13 v115_14 v115_15 v115_16 v115_17 v115_18 v115_19 v115_20 v115_21 v115_22 v115_23 v115_24 v115_25 v115_26 v115_27 v115_28 v115_29 v115_30 v115_31 v115_32 v115_33 v115_34
theorem c_someSignature (b : Nat) (p : Int) (h : H) (r : Rd h b p) (hp : p ≤ 2 ^ 37) : callK (bm Tryd.prog 115 [.one (.ptr (some (b, 0)))] h) fun q h' => (∃ x l, q = .agg [x] ∧ NwQ h h' (.one x) l ∧ tinyQ l) ∧ Drew b p 46 h h' := by
  refine bm_of cF115 ?_
  have hbn := r.lt
  simp +contextual (maxSteps := 2000000) only [go_sem, Nat.reduceEqDiff, reduceCtorEq, Nat.reduceAdd, Nat.reduceLeDiff, F115]
  refine wp_call (c_goodSignature b p h r (by omega)) ?_
  rintro q h1 ⟨⟨x, l, rfl, z1, tl⟩, d1⟩
  obtain ⟨p1, hp1, hp2, r1⟩ := d1.ex
  cases en : decide ((l.length : Int) > 0) with
  | false =>
    have d1 := d1.more (show 42 ≤ 46 by omega)
    simp +contextual (maxSteps := 2000000) only [go_sem, Nat.reduceEqDiff, reduceCtorEq, Nat.reduceAdd, Nat.reduceLeDiff, z1.length, en]
    exact gcK_drew r d1 ⟨⟨x, l, rfl, z1, tl⟩, d1⟩
  | true =>
  have en2 : 0 < l.length := by have := of_decide_eq_true en; omega
  simp +contextual (maxSteps := 2000000) only [go_sem, Nat.reduceEqDiff, reduceCtorEq, Nat.reduceAdd, Nat.reduceLeDiff, z1.length, en]
  refine wp_call (c_pick b l.length p1 h1 r1 (by omega)) ?_
  rintro q h2 ⟨⟨k, rfl, k0, k1⟩, d2⟩
  obtain ⟨k, rfl⟩ := Int.eq_ofNat_of_zero_le k0
  have hk : k < l.length := by omega
  have z2 := z1.drew d2 hbn
  obtain ⟨p2, hq1, hq2, r2⟩ := d2.ex
  have d2 := d2.then d1.st (by omega) hp2
  simp +contextual (maxSteps := 2000000) only [go_sem, Nat.reduceEqDiff, reduceCtorEq, Nat.reduceAdd, Nat.reduceLeDiff]
  refine wp_call (c_pick b 24 p2 h2 r2 (by omega)) ?_
  rintro q h3 ⟨⟨e, rfl, _, _⟩, d3⟩
  have z3 := z2.drew d3 hbn
  obtain ⟨p3, hs1, hs2, r3⟩ := d3.ex
  have d3 := d3.then d2.st (by omega) (show p2 ≤ p + ((42 + 1 : Nat) : Int) by omega)
  have fin : ∀ {h4 h5 : H} {c : Nat} {m : List Param}, NwQ h h4 (.one x) l → Drew b p c h h4 → NwQ h h5 (.one x) m → Stay (.one x) h4 h5 → c ≤ 46 → Drew b p 46 h h5 := fun z d n st hc => (d.stay st (fun i hi => (z.lt hi).2) hbn).more hc
  by_cases e0 : e = 0
  · simp +contextual (maxSteps := 2000000) only [go_sem, Nat.reduceEqDiff, reduceCtorEq, Nat.reduceAdd, Nat.reduceLeDiff, decide_eq_true e0]
    refine wp_call (c_anyName b p3 h3 r3 (by omega)) ?_
    rintro q h4 ⟨⟨s, rfl, hs⟩, d4⟩
    have z4 := z3.drew d4 hbn
    have d4 := d4.then d3.st (by omega) (show p3 ≤ p + ((42 + 1 + 1 : Nat) : Int) by omega)
    simp +contextual (maxSteps := 2000000) only [go_sem, Nat.reduceEqDiff, reduceCtorEq, Nat.reduceAdd, Nat.reduceLeDiff, z4.iaddr hk]
    refine wp_setD (x := (⟨s, l[k].kind, l[k].has, l[k].dflt⟩ : Param)) (off := 0) (vs := [.str s]) lenQ z4 hk rfl rfl (Nat.le_of_ble_eq_true rfl) d4.st.n ?_
    intro h5 n5 st5
    have d5 := fin z4 d4 n5 st5 (by omega)
    simp +contextual (maxSteps := 2000000) only [go_sem, Nat.reduceEqDiff, reduceCtorEq, Nat.reduceAdd, Nat.reduceLeDiff]
    exact gcK_drew r d5 ⟨⟨x, _, rfl, n5, tl.set hs⟩, d5⟩
  by_cases e1 : e = 1
  · simp +contextual (maxSteps := 2000000) only [go_sem, Nat.reduceEqDiff, reduceCtorEq, Nat.reduceAdd, Nat.reduceLeDiff, decide_eq_false e0, decide_eq_true e1]
    refine wp_lit (enc := encI) (k := 1) (l := [-1, 5, 0, 2, 4]) rfl rfl ?_
    intro h4 w4 g4 n4 b4
    simp +contextual (maxSteps := 2000000) only [go_sem, Nat.reduceEqDiff, reduceCtorEq, Nat.reduceAdd, Nat.reduceLeDiff]
    refine wp_call (c_one b p3 _ w4 h4 (r3.grow g4) (by omega) (n4.sl lenI) (fun i hi => Nat.lt_of_lt_of_le r3.lt (b4 i hi)) (by decide) (by decide)) ?_
    rintro q h5 ⟨⟨n, _, rfl⟩, d5⟩
    have z5 := (z3.grow g4).drew d5 hbn
    have d5 := (d5.pre g4).then d3.st (by omega) (show p3 ≤ p + ((42 + 1 + 1 : Nat) : Int) by omega)
    simp +contextual (maxSteps := 2000000) only [go_sem, Nat.reduceEqDiff, reduceCtorEq, Nat.reduceAdd, Nat.reduceLeDiff, z5.iaddr hk]
    refine wp_setD (x := (⟨l[k].name, n, l[k].has, l[k].dflt⟩ : Param)) (off := 1) (vs := [.int .i64 n]) lenQ z5 hk rfl rfl (Nat.le_of_ble_eq_true rfl) d5.st.n ?_
    intro h6 n6 st6
    have d6 := fin z5 d5 n6 st6 (by omega)
    simp +contextual (maxSteps := 2000000) only [go_sem, Nat.reduceEqDiff, reduceCtorEq, Nat.reduceAdd, Nat.reduceLeDiff]
    exact gcK_drew r d6 ⟨⟨x, _, rfl, n6, tl.set (show l[k].name.size ≤ 10 from tl.nm l[k] (List.getElem_mem hk))⟩, d6⟩
  by_cases e2 : e = 2
  · have sl := z3.sl lenQ
    simp +contextual (maxSteps := 2000000) only [go_sem, Nat.reduceEqDiff, reduceCtorEq, Nat.reduceAdd, Nat.reduceLeDiff, decide_eq_false e0, decide_eq_false e1, decide_eq_true e2, z3.iaddr hk, sl.fieldO hk]
    refine wp_setD (x := (⟨l[k].name, l[k].kind, !l[k].has, l[k].dflt⟩ : Param)) (off := 2) (vs := [.bool (!l[k].has)]) lenQ z3 hk rfl rfl (Nat.le_of_ble_eq_true rfl) d3.st.n ?_
    intro h6 n6 st6
    have d6 := fin z3 d3 n6 st6 (by omega)
    simp +contextual (maxSteps := 2000000) only [go_sem, Nat.reduceEqDiff, reduceCtorEq, Nat.reduceAdd, Nat.reduceLeDiff]
    exact gcK_drew r d6 ⟨⟨x, _, rfl, n6, tl.set (show l[k].name.size ≤ 10 from tl.nm l[k] (List.getElem_mem hk))⟩, d6⟩
  by_cases e3 : e = 3
  · simp +contextual (maxSteps := 2000000) only [go_sem, Nat.reduceEqDiff, reduceCtorEq, Nat.reduceAdd, Nat.reduceLeDiff, decide_eq_false e0, decide_eq_false e1, decide_eq_false e2, decide_eq_true e3]
    refine wp_lit (enc := encI) (k := 1) (l := [100, 5]) rfl rfl ?_
    intro h4 w4 g4 n4 b4
    simp +contextual (maxSteps := 2000000) only [go_sem, Nat.reduceEqDiff, reduceCtorEq, Nat.reduceAdd, Nat.reduceLeDiff]
    refine wp_call (c_one b p3 _ w4 h4 (r3.grow g4) (by omega) (n4.sl lenI) (fun i hi => Nat.lt_of_lt_of_le r3.lt (b4 i hi)) (by decide) (by decide)) ?_
    rintro q h5 ⟨⟨n, _, rfl⟩, d5⟩
    have z5 := (z3.grow g4).drew d5 hbn
    have d5 := (d5.pre g4).then d3.st (by omega) (show p3 ≤ p + ((42 + 1 + 1 : Nat) : Int) by omega)
    simp +contextual (maxSteps := 2000000) only [go_sem, Nat.reduceEqDiff, reduceCtorEq, Nat.reduceAdd, Nat.reduceLeDiff, z5.iaddr hk]
    refine wp_setD (x := (⟨l[k].name, l[k].kind, l[k].has, n⟩ : Param)) (off := 3) (vs := [.int .i64 n]) lenQ z5 hk rfl rfl (Nat.le_of_ble_eq_true rfl) d5.st.n ?_
    intro h6 n6 st6
    have d6 := fin z5 d5 n6 st6 (by omega)
    simp +contextual (maxSteps := 2000000) only [go_sem, Nat.reduceEqDiff, reduceCtorEq, Nat.reduceAdd, Nat.reduceLeDiff]
    exact gcK_drew r d6 ⟨⟨x, _, rfl, n6, tl.set (show l[k].name.size ≤ 10 from tl.nm l[k] (List.getElem_mem hk))⟩, d6⟩
  · have d4 := d3.more (show 42 + 1 + 1 ≤ 46 by omega)
    simp +contextual (maxSteps := 2000000) only [go_sem, Nat.reduceEqDiff, reduceCtorEq, Nat.reduceAdd, Nat.reduceLeDiff, decide_eq_false e0, decide_eq_false e1, decide_eq_false e2, decide_eq_false e3]
    exact gcK_drew r d4 ⟨⟨x, l, rfl, z3, tl⟩, d4⟩
end Go.Proofs.YtoeceafibmafpaaDoor.Am
