/- Contracts: signatures that may be invalid, and calls of them. -/
import Derived.Test.YtekkimfdcbgcoabDC
import Derived.Test.YtekkimfdcbgcoabFS
import Derived.Test.YtekkimfdcbgcoabDI
namespace Go.Proofs.Ytekkimfdcbgcoab.Am
open Go
set_option maxRecDepth 100000
set_option maxHeartbeats 4000000
set_option linter.unusedSimpArgs false
set_option linter.unusedVariables false
attribute [local go_sem ↓] bv_t bv_c ev_t ev_c put_same put_ne put_none kill_at pro_at lb_same lb_ne start_zero start_succ wpC_seq wpC_reg wpC_cond wpC_block wpC_skip wpC_exit wpC_ret thenQ_normal thenQ_exit thenQ_ret inBlk_normal inBlk_exit inBlk_ret wpS_nil wpS_step wpS_again wpS_guard wpO_mov wpO_load wpO_faddr wpO_nilCheck wpO_pick wpO_build wpO_bin wpO_eqb wpO_eqst wpO_eqnil wpO_not wpO_conv wpO_bytesStr wpO_iaddr wpO_idxStr wpO_field wpO_extract wpO_len wpO_lenStr wpO_cap wpO_min wpO_slice wpO_sliceStr wpO_alloc wpO_box wpO_store wpO_call wpO_callv wpO_mkfn wpO_buildSlice wpO_mkslice wpO_append wpO_appz proA_nil proA_cons tmpX_nil tmpX_tmp tmpX_cell doneB_normal doneB_ret agK_cons agK_nil agK_guard agG_tt agG_ff agG_tf agG_ft agG_undef pureB_load results_one results_two results_nil resBs_cons resBs_nil resB_tmp resB_cell
attribute [local go_sem] kill_v kill_lp_ne kill_lp_same pro_v pro_lp_same pro_lp_ne av_v av_lp optB_some optX_some valX_eq ldX_lp ldX_v faX_lp faX_v ncX_lp ncX_ptr ncX_fn boxK_one boxK_agg stL_some stK_lp_one stK_lp_agg stK_v_one stK_v_agg proM_v proM_lp callG_mk callVG_mk callvK_fn fnG_mk ptrsA_nil ptrsA_cons callH_some whenA_true whenA_false guardH_tt guardH_ff guardH_tf guardH_ft guardH_undef agV_one agV_agg lenO_sl lenStrO_str notO_bool pickO_bool convO_int eqbO_bool eqnilO_sl extractO_tup capO_sl minO_int loadL_one loadL_all storeL_eq fillA_nil fillA_one fillA_agg nat_ge neg_ge nat_lt neg_lt buildO bin_add bin_sub bin_mul bin_eql bin_neq bin_lss bin_leq bin_gtr bin_geq str_eql str_neq str_lss str_leq str_gtr str_geq retK_some endK_mk gcK_same gcK_int gcK_bool tupO_one tupO_agg rdy_self ib ii Option.map_none Option.map_some Option.some.injEq exists_eq_left' exists_eq_left ne_eq not_false_eq_true if_true if_false List.map_cons List.map_nil List.getElem?_cons_zero List.getElem?_cons_succ List.length_cons List.length_nil List.take_succ_cons List.take_zero List.take_nil List.drop_succ_cons List.drop_zero List.drop_nil List.cons_append List.nil_append List.append_nil List.set_cons_zero List.set_cons_succ Nat.zero_add forall_const true_and and_true and_self Bool.false_eq_true false_implies true_implies implies_true Bool.not_true Bool.not_false Bool.not_eq_true' Bool.not_eq_false' beq_self_eq_true Bool.bne_true Bool.bne_false
attribute [local go_sem] lenI lenS lenP lenQ lenB lenL lenT encI_0 encS_0 encP_0 encP_1 encQ_0 encQ_1 encQ_2 encQ_3 encB_0 encB_1 encL_0 encL_1 encT_0 encT_1
attribute [local go_sem low] whenA_bool guardH_bool
theorem Sl.scalar {α : Type} {enc : α → List CV} {k ty : Nat} {h : H} {v : AV} {l : List α} (hs : Sl enc k ty h v l) (hv : v.scalar = true) (h2 : H) : Sl enc k ty h2 v l := by
  obtain ⟨b, c, e, hc⟩ := hs.form
  have hsrc := hs.src
  have he := hs.enc
  subst e
  cases b with
  | some a => simp [AV.scalar, CV.scalar] at hv
  | none =>
    have : l = [] := by
      cases l with
      | nil => rfl
      | cons y r => simp [srcA] at hsrc
    subst this
    exact ⟨⟨none, c, rfl, hc⟩, by simp [srcA], he, fun a n c he => by simp at he⟩
theorem NwQ.set {h0 h h1 : H} {x : CV} {l m : List Param} (n : NwQ h0 h1 (.one x) m) : NwQ h0 h1 (.one x) m := n
theorem tinyQ.set {l : List Param} (t : tinyQ l) {k : Nat} {x : Param} (hx : x.name.size ≤ 10) : tinyQ (l.set k x) := ⟨by rw [List.length_set]; exact t.len, fun y hy => by
  rcases List.mem_or_eq_of_mem_set hy with hy | rfl
  · exact t.nm y hy
  · exact hx⟩
/-! spec.someSignature -/
def L58_0 : List AStep := [⟨.alloc 25 [(.sl none 0 (some 0))], (some 2), none, []⟩]
theorem v58_0 : VS L58_0.eq_1 := rfl
def L58_1 : List AStep := [⟨.alloc 25 [(.sl none 0 (some 0))], (some 3), none, []⟩, ⟨.store 1 (.t 3) (.t 6), none, none, []⟩]
theorem v58_1 : VS L58_1.eq_1 := rfl
def L58_2 : List AStep := ⟨.mov (.t 0), (some 5), none, []⟩ :: ⟨.call 106 [(.t 5)], (some 6), none, []⟩ :: L58_1
theorem v58_2 : VS L58_2.eq_1 := rfl
def L58_3 : List AStep := [⟨.len (.t 8), (some 9), none, []⟩, ⟨.bin .gtr (.t 9) (.c (.int .i64 0)), (some 10), none, []⟩]
theorem v58_3 : VS L58_3.eq_1 := rfl
def L58_4 : List AStep := ⟨.faddr 0 (.t 3), (some 7), none, []⟩ :: ⟨.load 1 false (.t 7), (some 8), none, []⟩ :: L58_3
theorem v58_4 : VS L58_4.eq_1 := rfl
def L58_5 : List AStep := [⟨.call 69 [(.t 11), (.t 14)], (some 15), none, []⟩, ⟨.mov (.t 15), (some 4), none, []⟩]
theorem v58_5 : VS L58_5.eq_1 := rfl
def L58_6 : List AStep := ⟨.load 1 false (.t 12), (some 13), none, []⟩ :: ⟨.len (.t 13), (some 14), none, []⟩ :: L58_5
theorem v58_6 : VS L58_6.eq_1 := rfl
def L58_7 : List AStep := ⟨.mov (.t 0), (some 11), none, []⟩ :: ⟨.faddr 0 (.t 3), (some 12), none, []⟩ :: L58_6
theorem v58_7 : VS L58_7.eq_1 := rfl
def L58_8 : List AStep := [⟨.mov (.t 0), (some 16), none, []⟩, ⟨.call 69 [(.t 16), (.c (.int .i64 24))], (some 17), none, []⟩]
theorem v58_8 : VS L58_8.eq_1 := rfl
def L58_9 : List AStep := [⟨.bin .eql (.t 17) (.c (.int .i64 0)), (some 19), none, []⟩, ⟨.mov (.t 19), (some 18), none, []⟩]
theorem v58_9 : VS L58_9.eq_1 := rfl
def L58_10 : List AStep := [⟨.faddr 0 (.t 25), (some 26), none, []⟩, ⟨.store 1 (.t 26) (.t 24), none, none, []⟩]
theorem v58_10 : VS L58_10.eq_1 := rfl
def L58_11 : List AStep := ⟨.call 107 [(.t 23)], (some 24), none, [(.load 1 false (.t 20), (some 21), none)]⟩ :: ⟨.iaddr 4 (.t 21) (.t 22), (some 25), none, []⟩ :: L58_10
theorem v58_11 : VS L58_11.eq_1 := rfl
def L58_12 : List AStep := ⟨.mov (.t 4), (some 22), none, []⟩ :: ⟨.mov (.t 0), (some 23), none, []⟩ :: L58_11
theorem v58_12 : VS L58_12.eq_1 := rfl
def L58_13 : List AStep := ⟨.faddr 0 (.t 3), (some 20), none, []⟩ :: ⟨.load 1 false (.t 20), (some 21), none, []⟩ :: L58_12
theorem v58_13 : VS L58_13.eq_1 := rfl
def L58_14 : List AStep := [⟨.bin .eql (.t 17) (.c (.int .i64 1)), (some 28), none, []⟩, ⟨.mov (.t 28), (some 27), none, []⟩]
theorem v58_14 : VS L58_14.eq_1 := rfl
def L58_15 : List AStep := [⟨.store 1 (.t 36) (.t 34), none, none, []⟩]
theorem v58_15 : VS L58_15.eq_1 := rfl
def L58_16 : List AStep := ⟨.iaddr 4 (.t 30) (.t 31), (some 35), none, []⟩ :: ⟨.faddr 1 (.t 35), (some 36), none, []⟩ :: L58_15
theorem v58_16 : VS L58_16.eq_1 := rfl
def L58_17 : List AStep := ⟨.buildSlice 3 5 [(.int .i64 0)] [(0, 1, (.c (.int .i64 (-1)))), (1, 1, (.c (.int .i64 5))), (2, 1, (.c (.int .i64 0))), (3, 1, (.c (.int .i64 2))), (4, 1, (.c (.int .i64 4)))], (some 33), none, []⟩ :: ⟨.call 108 [(.t 32), (.t 33)], (some 34), none, [(.load 1 false (.t 29), (some 30), none)]⟩ :: L58_16
theorem v58_17 : VS L58_17.eq_1 := rfl
def L58_18 : List AStep := ⟨.mov (.t 4), (some 31), none, []⟩ :: ⟨.mov (.t 0), (some 32), none, []⟩ :: L58_17
theorem v58_18 : VS L58_18.eq_1 := rfl
def L58_19 : List AStep := ⟨.faddr 0 (.t 3), (some 29), none, []⟩ :: ⟨.load 1 false (.t 29), (some 30), none, []⟩ :: L58_18
theorem v58_19 : VS L58_19.eq_1 := rfl
def L58_20 : List AStep := [⟨.bin .eql (.t 17) (.c (.int .i64 2)), (some 38), none, []⟩, ⟨.mov (.t 38), (some 37), none, []⟩]
theorem v58_20 : VS L58_20.eq_1 := rfl
def L58_21 : List AStep := [⟨.store 1 (.t 50) (.t 48), none, none, []⟩]
theorem v58_21 : VS L58_21.eq_1 := rfl
def L58_22 : List AStep := ⟨.iaddr 4 (.t 40) (.t 41), (some 49), none, []⟩ :: ⟨.faddr 2 (.t 49), (some 50), none, []⟩ :: L58_21
theorem v58_22 : VS L58_22.eq_1 := rfl
def L58_23 : List AStep := ⟨.load 1 false (.t 46), (some 47), none, []⟩ :: ⟨.not (.t 47), (some 48), none, []⟩ :: L58_22
theorem v58_23 : VS L58_23.eq_1 := rfl
def L58_24 : List AStep := ⟨.iaddr 4 (.t 43) (.t 44), (some 45), none, []⟩ :: ⟨.faddr 2 (.t 45), (some 46), none, []⟩ :: L58_23
theorem v58_24 : VS L58_24.eq_1 := rfl
def L58_25 : List AStep := ⟨.load 1 false (.t 42), (some 43), none, []⟩ :: ⟨.mov (.t 4), (some 44), none, []⟩ :: L58_24
theorem v58_25 : VS L58_25.eq_1 := rfl
def L58_26 : List AStep := ⟨.mov (.t 4), (some 41), none, []⟩ :: ⟨.faddr 0 (.t 3), (some 42), none, []⟩ :: L58_25
theorem v58_26 : VS L58_26.eq_1 := rfl
def L58_27 : List AStep := ⟨.faddr 0 (.t 3), (some 39), none, []⟩ :: ⟨.load 1 false (.t 39), (some 40), none, []⟩ :: L58_26
theorem v58_27 : VS L58_27.eq_1 := rfl
def L58_28 : List AStep := [⟨.bin .eql (.t 17) (.c (.int .i64 3)), (some 52), none, []⟩, ⟨.mov (.t 52), (some 51), none, []⟩]
theorem v58_28 : VS L58_28.eq_1 := rfl
def L58_29 : List AStep := [⟨.store 1 (.t 60) (.t 58), none, none, []⟩]
theorem v58_29 : VS L58_29.eq_1 := rfl
def L58_30 : List AStep := ⟨.iaddr 4 (.t 54) (.t 55), (some 59), none, []⟩ :: ⟨.faddr 3 (.t 59), (some 60), none, []⟩ :: L58_29
theorem v58_30 : VS L58_30.eq_1 := rfl
def L58_31 : List AStep := ⟨.buildSlice 3 2 [(.int .i64 0)] [(0, 1, (.c (.int .i64 100))), (1, 1, (.c (.int .i64 5)))], (some 57), none, []⟩ :: ⟨.call 108 [(.t 56), (.t 57)], (some 58), none, [(.load 1 false (.t 53), (some 54), none)]⟩ :: L58_30
theorem v58_31 : VS L58_31.eq_1 := rfl
def L58_32 : List AStep := ⟨.mov (.t 4), (some 55), none, []⟩ :: ⟨.mov (.t 0), (some 56), none, []⟩ :: L58_31
theorem v58_32 : VS L58_32.eq_1 := rfl
def L58_33 : List AStep := ⟨.faddr 0 (.t 3), (some 53), none, []⟩ :: ⟨.load 1 false (.t 53), (some 54), none, []⟩ :: L58_32
theorem v58_33 : VS L58_33.eq_1 := rfl
def L58_34 : List AStep := [⟨.load 1 true (.t 3), (some 61), none, []⟩, ⟨.store 1 (.t 2) (.t 61), none, none, []⟩]
theorem v58_34 : VS L58_34.eq_1 := rfl
def C58_0 : ACode := .cond (.t 51) (.reg L58_33) .skip
theorem u58_0 : VC C58_0.eq_1 := rfl
def C58_1 : ACode := .seq (.reg L58_28) C58_0
theorem u58_1 : VC C58_1.eq_1 := rfl
def C58_2 : ACode := .cond (.t 37) (.reg L58_27) C58_1
theorem u58_2 : VC C58_2.eq_1 := rfl
def C58_3 : ACode := .seq (.reg L58_20) C58_2
theorem u58_3 : VC C58_3.eq_1 := rfl
def C58_4 : ACode := .cond (.t 27) (.reg L58_19) C58_3
theorem u58_4 : VC C58_4.eq_1 := rfl
def C58_5 : ACode := .seq (.reg L58_14) C58_4
theorem u58_5 : VC C58_5.eq_1 := rfl
def C58_6 : ACode := .cond (.t 18) (.reg L58_13) C58_5
theorem u58_6 : VC C58_6.eq_1 := rfl
def C58_7 : ACode := .seq (.reg L58_9) C58_6
theorem u58_7 : VC C58_7.eq_1 := rfl
def C58_8 : ACode := .block 0 C58_7
theorem u58_8 : VC C58_8.eq_1 := rfl
def C58_9 : ACode := .seq (.reg L58_8) C58_8
theorem u58_9 : VC C58_9.eq_1 := rfl
def C58_10 : ACode := .seq (.reg L58_7) C58_9
theorem u58_10 : VC C58_10.eq_1 := rfl
def C58_11 : ACode := .cond (.t 10) C58_10 .skip
theorem u58_11 : VC C58_11.eq_1 := rfl
def C58_12 : ACode := .seq (.reg L58_4) C58_11
theorem u58_12 : VC C58_12.eq_1 := rfl
def C58_13 : ACode := .seq (.reg L58_34) .ret
theorem u58_13 : VC C58_13.eq_1 := rfl
def C58_14 : ACode := .seq C58_12 C58_13
theorem u58_14 : VC C58_14.eq_1 := rfl
def C58_15 : ACode := .seq (.reg L58_2) C58_14
theorem u58_15 : VC C58_15.eq_1 := rfl
def C58_16 : ACode := .seq (.reg L58_0) C58_15
theorem u58_16 : VC C58_16.eq_1 := rfl
def F58 : AFunc := ⟨62, [.cell 2 1 true], C58_16⟩
theorem cF58 : compB Try.prog 58 = some F58 := by kernel_rfl
attribute [local go_sem ↓] u58_0 u58_1 u58_2 u58_3 u58_4 u58_5 u58_6 u58_7 u58_8 u58_9 u58_10 u58_11 u58_12 u58_13 u58_14 u58_15 u58_16 v58_0 v58_1 v58_2 v58_3 v58_4 v58_5 v58_6 v58_7 v58_8 v58_9 v58_10 v58_11 v58_12 v58_13 v58_14 v58_15 v58_16 v58_17 v58_18 v58_19 v58_20 v58_21 v58_22 v58_23 v58_24 v58_25 v58_26 v58_27 v58_28 v58_29 v58_30 v58_31 v58_32 v58_33 v58_34
theorem c_someSignature (b : Nat) (p : Int) (h : H) (r : Rd h b p) (hp : p ≤ 2 ^ 37) : callK (bm Try.prog 58 [.one (.ptr (some (b, 0)))] h) fun q h' => (∃ x l, q = .agg [x] ∧ NwQ h h' (.one x) l ∧ tinyQ l) ∧ Drew b p 46 h h' := by
  refine bm_of cF58 ?_
  have hbn := r.lt
  simp +contextual (maxSteps := 2000000) only [go_sem, Nat.reduceEqDiff, reduceCtorEq, Nat.reduceAdd, Nat.reduceLeDiff, F58]
  refine wp_call (c_goodSignature b p h r (by omega)) ?_
  rintro q h1 ⟨⟨x, l, rfl, z1, tl⟩, d1⟩
  obtain ⟨p1, hp1, hp2, r1⟩ := d1.ex
  cases en : decide ((l.length : Int) > 0) with
  | false =>
    have d1 := d1.more (show 42 ≤ 46 by omega)
    simp +contextual (maxSteps := 2000000) only [go_sem, Nat.reduceEqDiff, reduceCtorEq, Nat.reduceAdd, Nat.reduceLeDiff, z1.length, en]
    exact gcK_drew r d1 ⟨⟨x, l, rfl, z1, tl⟩, d1⟩
  | true =>
  have en2 : 0 < l.length := by have := of_decide_eq_true en; omega
  simp +contextual (maxSteps := 2000000) only [go_sem, Nat.reduceEqDiff, reduceCtorEq, Nat.reduceAdd, Nat.reduceLeDiff, z1.length, en]
  refine wp_call (c_pick b l.length p1 h1 r1 (by omega)) ?_
  rintro q h2 ⟨⟨k, rfl, k0, k1⟩, d2⟩
  obtain ⟨k, rfl⟩ := Int.eq_ofNat_of_zero_le k0
  have hk : k < l.length := by omega
  have z2 := z1.drew d2 hbn
  obtain ⟨p2, hq1, hq2, r2⟩ := d2.ex
  have d2 := d2.then d1.st (by omega) hp2
  simp +contextual (maxSteps := 2000000) only [go_sem, Nat.reduceEqDiff, reduceCtorEq, Nat.reduceAdd, Nat.reduceLeDiff]
  refine wp_call (c_pick b 24 p2 h2 r2 (by omega)) ?_
  rintro q h3 ⟨⟨e, rfl, _, _⟩, d3⟩
  have z3 := z2.drew d3 hbn
  obtain ⟨p3, hs1, hs2, r3⟩ := d3.ex
  have d3 := d3.then d2.st (by omega) (show p2 ≤ p + ((42 + 1 : Nat) : Int) by omega)
  have fin : ∀ {h4 h5 : H} {c : Nat} {m : List Param}, NwQ h h4 (.one x) l → Drew b p c h h4 → NwQ h h5 (.one x) m → Stay (.one x) h4 h5 → c ≤ 46 → Drew b p 46 h h5 := fun z d n st hc => (d.stay st (fun i hi => (z.lt hi).2) hbn).more hc
  by_cases e0 : e = 0
  · simp +contextual (maxSteps := 2000000) only [go_sem, Nat.reduceEqDiff, reduceCtorEq, Nat.reduceAdd, Nat.reduceLeDiff, decide_eq_true e0]
    refine wp_call (c_anyName b p3 h3 r3 (by omega)) ?_
    rintro q h4 ⟨⟨s, rfl, hs⟩, d4⟩
    have z4 := z3.drew d4 hbn
    have d4 := d4.then d3.st (by omega) (show p3 ≤ p + ((42 + 1 + 1 : Nat) : Int) by omega)
    simp +contextual (maxSteps := 2000000) only [go_sem, Nat.reduceEqDiff, reduceCtorEq, Nat.reduceAdd, Nat.reduceLeDiff, z4.iaddr hk]
    refine wp_setD (x := (⟨s, l[k].kind, l[k].has, l[k].dflt⟩ : Param)) (off := 0) (vs := [.str s]) lenQ z4 hk rfl rfl (Nat.le_of_ble_eq_true rfl) d4.st.n ?_
    intro h5 n5 st5
    have d5 := fin z4 d4 n5 st5 (by omega)
    simp +contextual (maxSteps := 2000000) only [go_sem, Nat.reduceEqDiff, reduceCtorEq, Nat.reduceAdd, Nat.reduceLeDiff]
    exact gcK_drew r d5 ⟨⟨x, _, rfl, n5, tl.set hs⟩, d5⟩
  by_cases e1 : e = 1
  · simp +contextual (maxSteps := 2000000) only [go_sem, Nat.reduceEqDiff, reduceCtorEq, Nat.reduceAdd, Nat.reduceLeDiff, decide_eq_false e0, decide_eq_true e1]
    refine wp_lit (enc := encI) (k := 1) (l := [-1, 5, 0, 2, 4]) rfl rfl ?_
    intro h4 w4 g4 n4 b4
    simp +contextual (maxSteps := 2000000) only [go_sem, Nat.reduceEqDiff, reduceCtorEq, Nat.reduceAdd, Nat.reduceLeDiff]
    refine wp_call (c_one b p3 _ w4 h4 (r3.grow g4) (by omega) (n4.sl lenI) (fun i hi => Nat.lt_of_lt_of_le r3.lt (b4 i hi)) (by decide) (by decide)) ?_
    rintro q h5 ⟨⟨n, _, rfl⟩, d5⟩
    have z5 := (z3.grow g4).drew d5 hbn
    have d5 := (d5.pre g4).then d3.st (by omega) (show p3 ≤ p + ((42 + 1 + 1 : Nat) : Int) by omega)
    simp +contextual (maxSteps := 2000000) only [go_sem, Nat.reduceEqDiff, reduceCtorEq, Nat.reduceAdd, Nat.reduceLeDiff, z5.iaddr hk]
    refine wp_setD (x := (⟨l[k].name, n, l[k].has, l[k].dflt⟩ : Param)) (off := 1) (vs := [.int .i64 n]) lenQ z5 hk rfl rfl (Nat.le_of_ble_eq_true rfl) d5.st.n ?_
    intro h6 n6 st6
    have d6 := fin z5 d5 n6 st6 (by omega)
    simp +contextual (maxSteps := 2000000) only [go_sem, Nat.reduceEqDiff, reduceCtorEq, Nat.reduceAdd, Nat.reduceLeDiff]
    exact gcK_drew r d6 ⟨⟨x, _, rfl, n6, tl.set (show l[k].name.size ≤ 10 from tl.nm l[k] (List.getElem_mem hk))⟩, d6⟩
  by_cases e2 : e = 2
  · have sl := z3.sl lenQ
    simp +contextual (maxSteps := 2000000) only [go_sem, Nat.reduceEqDiff, reduceCtorEq, Nat.reduceAdd, Nat.reduceLeDiff, decide_eq_false e0, decide_eq_false e1, decide_eq_true e2, z3.iaddr hk, sl.fieldO hk]
    refine wp_setD (x := (⟨l[k].name, l[k].kind, !l[k].has, l[k].dflt⟩ : Param)) (off := 2) (vs := [.bool (!l[k].has)]) lenQ z3 hk rfl rfl (Nat.le_of_ble_eq_true rfl) d3.st.n ?_
    intro h6 n6 st6
    have d6 := fin z3 d3 n6 st6 (by omega)
    simp +contextual (maxSteps := 2000000) only [go_sem, Nat.reduceEqDiff, reduceCtorEq, Nat.reduceAdd, Nat.reduceLeDiff]
    exact gcK_drew r d6 ⟨⟨x, _, rfl, n6, tl.set (show l[k].name.size ≤ 10 from tl.nm l[k] (List.getElem_mem hk))⟩, d6⟩
  by_cases e3 : e = 3
  · simp +contextual (maxSteps := 2000000) only [go_sem, Nat.reduceEqDiff, reduceCtorEq, Nat.reduceAdd, Nat.reduceLeDiff, decide_eq_false e0, decide_eq_false e1, decide_eq_false e2, decide_eq_true e3]
    refine wp_lit (enc := encI) (k := 1) (l := [100, 5]) rfl rfl ?_
    intro h4 w4 g4 n4 b4
    simp +contextual (maxSteps := 2000000) only [go_sem, Nat.reduceEqDiff, reduceCtorEq, Nat.reduceAdd, Nat.reduceLeDiff]
    refine wp_call (c_one b p3 _ w4 h4 (r3.grow g4) (by omega) (n4.sl lenI) (fun i hi => Nat.lt_of_lt_of_le r3.lt (b4 i hi)) (by decide) (by decide)) ?_
    rintro q h5 ⟨⟨n, _, rfl⟩, d5⟩
    have z5 := (z3.grow g4).drew d5 hbn
    have d5 := (d5.pre g4).then d3.st (by omega) (show p3 ≤ p + ((42 + 1 + 1 : Nat) : Int) by omega)
    simp +contextual (maxSteps := 2000000) only [go_sem, Nat.reduceEqDiff, reduceCtorEq, Nat.reduceAdd, Nat.reduceLeDiff, z5.iaddr hk]
    refine wp_setD (x := (⟨l[k].name, l[k].kind, l[k].has, n⟩ : Param)) (off := 3) (vs := [.int .i64 n]) lenQ z5 hk rfl rfl (Nat.le_of_ble_eq_true rfl) d5.st.n ?_
    intro h6 n6 st6
    have d6 := fin z5 d5 n6 st6 (by omega)
    simp +contextual (maxSteps := 2000000) only [go_sem, Nat.reduceEqDiff, reduceCtorEq, Nat.reduceAdd, Nat.reduceLeDiff]
    exact gcK_drew r d6 ⟨⟨x, _, rfl, n6, tl.set (show l[k].name.size ≤ 10 from tl.nm l[k] (List.getElem_mem hk))⟩, d6⟩
  · have d4 := d3.more (show 42 + 1 + 1 ≤ 46 by omega)
    simp +contextual (maxSteps := 2000000) only [go_sem, Nat.reduceEqDiff, reduceCtorEq, Nat.reduceAdd, Nat.reduceLeDiff, decide_eq_false e0, decide_eq_false e1, decide_eq_false e2, decide_eq_false e3]
    exact gcK_drew r d4 ⟨⟨x, l, rfl, z3, tl⟩, d4⟩
/-! spec.signatureCall -/
def L49_0 : List AStep := [⟨.alloc 25 [(.sl none 0 (some 0))], (some 2), none, []⟩, ⟨.alloc 29 [(.sl none 0 (some 0)), (.sl none 0 (some 0))], (some 3), none, []⟩]
theorem v49_0 : VS L49_0.eq_1 := rfl
def L49_1 : List AStep := [⟨.alloc 25 [(.sl none 0 (some 0))], (some 4), none, []⟩, ⟨.store 1 (.t 4) (.t 7), none, none, []⟩]
theorem v49_1 : VS L49_1.eq_1 := rfl
def L49_2 : List AStep := ⟨.mov (.t 0), (some 6), none, []⟩ :: ⟨.call 58 [(.t 6)], (some 7), none, []⟩ :: L49_1
theorem v49_2 : VS L49_2.eq_1 := rfl
def L49_3 : List AStep := [⟨.mov (.t 0), (some 8), none, []⟩, ⟨.call 69 [(.t 8), (.c (.int .i64 5))], (some 9), none, []⟩]
theorem v49_3 : VS L49_3.eq_1 := rfl
def L49_4 : List AStep := [⟨.bin .eql (.t 9) (.c (.int .i64 0)), (some 11), none, []⟩, ⟨.mov (.t 11), (some 10), none, []⟩]
theorem v49_4 : VS L49_4.eq_1 := rfl
def L49_5 : List AStep := [⟨.store 2 (.t 3) (.t 14), none, none, []⟩]
theorem v49_5 : VS L49_5.eq_1 := rfl
def L49_6 : List AStep := ⟨.call 90 [(.t 13)], (some 14), none, [(.load 1 true (.t 4), (some 12), none)]⟩ :: ⟨.store 1 (.t 2) (.t 12), none, none, []⟩ :: L49_5
theorem v49_6 : VS L49_6.eq_1 := rfl
def L49_7 : List AStep := ⟨.load 1 true (.t 4), (some 12), none, []⟩ :: ⟨.mov (.t 0), (some 13), none, []⟩ :: L49_6
theorem v49_7 : VS L49_7.eq_1 := rfl
def L49_8 : List AStep := [⟨.bin .eql (.t 9) (.c (.int .i64 1)), (some 16), none, []⟩, ⟨.mov (.t 16), (some 15), none, []⟩]
theorem v49_8 : VS L49_8.eq_1 := rfl
def L49_9 : List AStep := [⟨.load 1 true (.t 4), (some 17), none, []⟩, ⟨.call 53 [(.t 17)], (some 18), none, []⟩]
theorem v49_9 : VS L49_9.eq_1 := rfl
def L49_10 : List AStep := [⟨.store 2 (.t 5) (.t 21), none, none, []⟩]
theorem v49_10 : VS L49_10.eq_1 := rfl
def L49_11 : List AStep := ⟨.call 86 [(.t 19), (.t 20)], (some 21), none, []⟩ :: ⟨.alloc 29 [(.sl none 0 (some 0)), (.sl none 0 (some 0))], (some 5), none, []⟩ :: L49_10
theorem v49_11 : VS L49_11.eq_1 := rfl
def L49_12 : List AStep := ⟨.mov (.t 0), (some 19), none, []⟩ :: ⟨.load 1 true (.t 4), (some 20), none, []⟩ :: L49_11
theorem v49_12 : VS L49_12.eq_1 := rfl
def L49_13 : List AStep := [⟨.faddr 1 (.t 5), (some 30), none, []⟩, ⟨.store 1 (.t 30) (.t 29), none, none, []⟩]
theorem v49_13 : VS L49_13.eq_1 := rfl
def L49_14 : List AStep := ⟨.build [(.str (strOfNums [])), (.int .i64 0)] [(0, 1, (.t 25)), (1, 1, (.t 27))], (some 28), none, []⟩ :: ⟨.call 87 [(.t 23), (.t 28)], (some 29), none, []⟩ :: L49_13
theorem v49_14 : VS L49_14.eq_1 := rfl
def L49_15 : List AStep := ⟨.call 88 [(.t 24)], (some 25), none, [(.load 1 false (.t 22), (some 23), none)]⟩ :: ⟨.call 89 [(.t 26)], (some 27), none, [(.load 1 false (.t 22), (some 23), none)]⟩ :: L49_14
theorem v49_15 : VS L49_15.eq_1 := rfl
def L49_16 : List AStep := ⟨.mov (.t 0), (some 24), none, []⟩ :: ⟨.mov (.t 0), (some 26), none, []⟩ :: L49_15
theorem v49_16 : VS L49_16.eq_1 := rfl
def L49_17 : List AStep := ⟨.faddr 1 (.t 5), (some 22), none, []⟩ :: ⟨.load 1 false (.t 22), (some 23), none, []⟩ :: L49_16
theorem v49_17 : VS L49_17.eq_1 := rfl
def L49_18 : List AStep := [⟨.store 1 (.t 2) (.t 31), none, none, [(.load 2 true (.t 5), (some 32), none)]⟩, ⟨.store 2 (.t 3) (.t 32), none, none, []⟩]
theorem v49_18 : VS L49_18.eq_1 := rfl
def L49_19 : List AStep := ⟨.load 1 true (.t 4), (some 31), none, []⟩ :: ⟨.load 2 true (.t 5), (some 32), none, []⟩ :: L49_18
theorem v49_19 : VS L49_19.eq_1 := rfl
def L49_20 : List AStep := [⟨.load 1 true (.t 4), (some 33), none, []⟩, ⟨.call 53 [(.t 33)], (some 34), none, []⟩]
theorem v49_20 : VS L49_20.eq_1 := rfl
def L49_21 : List AStep := [⟨.store 1 (.t 2) (.t 35), none, none, []⟩, ⟨.store 2 (.t 3) (.t 38), none, none, []⟩]
theorem v49_21 : VS L49_21.eq_1 := rfl
def L49_22 : List AStep := ⟨.load 1 true (.t 4), (some 37), none, []⟩ :: ⟨.call 86 [(.t 36), (.t 37)], (some 38), none, [(.load 1 true (.t 4), (some 35), none)]⟩ :: L49_21
theorem v49_22 : VS L49_22.eq_1 := rfl
def L49_23 : List AStep := ⟨.load 1 true (.t 4), (some 35), none, []⟩ :: ⟨.mov (.t 0), (some 36), none, []⟩ :: L49_22
theorem v49_23 : VS L49_23.eq_1 := rfl
def L49_24 : List AStep := [⟨.store 2 (.t 3) (.t 41), none, none, []⟩]
theorem v49_24 : VS L49_24.eq_1 := rfl
def L49_25 : List AStep := ⟨.call 100 [(.t 40)], (some 41), none, [(.load 1 true (.t 4), (some 39), none)]⟩ :: ⟨.store 1 (.t 2) (.t 39), none, none, []⟩ :: L49_24
theorem v49_25 : VS L49_25.eq_1 := rfl
def L49_26 : List AStep := ⟨.load 1 true (.t 4), (some 39), none, []⟩ :: ⟨.mov (.t 0), (some 40), none, []⟩ :: L49_25
theorem v49_26 : VS L49_26.eq_1 := rfl
def C49_0 : ACode := .seq (.reg L49_7) .ret
theorem u49_0 : VC C49_0.eq_1 := rfl
def C49_1 : ACode := .seq (.reg L49_19) .ret
theorem u49_1 : VC C49_1.eq_1 := rfl
def C49_2 : ACode := .seq (.reg L49_17) C49_1
theorem u49_2 : VC C49_2.eq_1 := rfl
def C49_3 : ACode := .seq (.reg L49_12) C49_2
theorem u49_3 : VC C49_3.eq_1 := rfl
def C49_4 : ACode := .cond (.t 18) C49_3 .skip
theorem u49_4 : VC C49_4.eq_1 := rfl
def C49_5 : ACode := .seq (.reg L49_9) C49_4
theorem u49_5 : VC C49_5.eq_1 := rfl
def C49_6 : ACode := .cond (.t 15) C49_5 .skip
theorem u49_6 : VC C49_6.eq_1 := rfl
def C49_7 : ACode := .seq (.reg L49_8) C49_6
theorem u49_7 : VC C49_7.eq_1 := rfl
def C49_8 : ACode := .cond (.t 10) C49_0 C49_7
theorem u49_8 : VC C49_8.eq_1 := rfl
def C49_9 : ACode := .seq (.reg L49_4) C49_8
theorem u49_9 : VC C49_9.eq_1 := rfl
def C49_10 : ACode := .block 0 C49_9
theorem u49_10 : VC C49_10.eq_1 := rfl
def C49_11 : ACode := .seq (.reg L49_3) C49_10
theorem u49_11 : VC C49_11.eq_1 := rfl
def C49_12 : ACode := .seq (.reg L49_23) .ret
theorem u49_12 : VC C49_12.eq_1 := rfl
def C49_13 : ACode := .cond (.t 34) C49_12 .skip
theorem u49_13 : VC C49_13.eq_1 := rfl
def C49_14 : ACode := .seq (.reg L49_20) C49_13
theorem u49_14 : VC C49_14.eq_1 := rfl
def C49_15 : ACode := .seq (.reg L49_26) .ret
theorem u49_15 : VC C49_15.eq_1 := rfl
def C49_16 : ACode := .seq C49_14 C49_15
theorem u49_16 : VC C49_16.eq_1 := rfl
def C49_17 : ACode := .seq C49_11 C49_16
theorem u49_17 : VC C49_17.eq_1 := rfl
def C49_18 : ACode := .seq (.reg L49_2) C49_17
theorem u49_18 : VC C49_18.eq_1 := rfl
def C49_19 : ACode := .seq (.reg L49_0) C49_18
theorem u49_19 : VC C49_19.eq_1 := rfl
def F49 : AFunc := ⟨42, [.cell 2 1 true, .cell 3 2 true], C49_19⟩
theorem cF49 : compB Try.prog 49 = some F49 := by kernel_rfl
attribute [local go_sem ↓] u49_0 u49_1 u49_2 u49_3 u49_4 u49_5 u49_6 u49_7 u49_8 u49_9 u49_10 u49_11 u49_12 u49_13 u49_14 u49_15 u49_17 u49_18 u49_19 v49_0 v49_1 v49_2 v49_3 v49_4 v49_5 v49_6 v49_7 v49_8 v49_9 v49_10 v49_11 v49_12 v49_13 v49_14 v49_15 v49_16 v49_17 v49_18 v49_19 v49_20 v49_21 v49_22 v49_23 v49_24 v49_25 v49_26
theorem c_signatureCall (b : Nat) (p : Int) (h : H) (r : Rd h b p) (hp : p ≤ 2 ^ 36) : callK (bm Try.prog 49 [.one (.ptr (some (b, 0)))] h) fun q h' => (∃ x u w l f, q = .tup [.agg [x], .agg [u, w]] ∧ NwQ h h' (.one x) l ∧ NwF h h' u w f ∧ tinyQ l ∧ miniF f) ∧ Drew b p 120 h h' := by
  refine bm_of cF49 ?_
  have hbn := r.lt
  simp +contextual (maxSteps := 2000000) only [go_sem, Nat.reduceEqDiff, reduceCtorEq, Nat.reduceAdd, Nat.reduceLeDiff, F49]
  refine wp_call (c_someSignature b p h r (by omega)) ?_
  rintro q h1 ⟨⟨x, l, rfl, z1, tl⟩, d1⟩
  obtain ⟨p1, hp1, hp2, r1⟩ := d1.ex
  have hx : baseOf (.one x) ≠ some b := fun e => by have := (z1.lt e).2; omega
  have mini : ∀ {f : Flat}, f.pl.length ≤ 24 → f.nl.length ≤ 8 → (∀ a ∈ f.nl, a.name.size ≤ 10) → miniF f := fun h1 h2 h3 => ⟨Nat.le_trans h1 (by decide), Nat.le_trans h2 (by decide), fun a ha => Nat.le_trans (h3 a ha) (by decide)⟩
  simp +contextual (maxSteps := 2000000) only [go_sem, Nat.reduceEqDiff, reduceCtorEq, Nat.reduceAdd, Nat.reduceLeDiff]
  refine wp_call (c_pick b 5 p1 h1 r1 (by omega)) ?_
  rintro q h2 ⟨⟨k, rfl, _, _⟩, d2⟩
  have z2 := z1.drew d2 hbn
  obtain ⟨p2, hq1, hq2, r2⟩ := d2.ex
  have d2 := d2.then d1.st (by omega) hp2
  have ev := c_validSignature l x h2 (z2.sl lenQ) tl.mini.sm
  apply joinC (P := Try.prog) (c := C49_16) (M := fun T L h' => h' = h2 ∧ T 0 = .v (.one (.ptr (some (b, 0)))) ∧ T 2 = .lp 2 0 ∧ (L 2).2 = [.sl none 0 (some 0)] ∧ T 3 = .lp 3 0 ∧ (L 3).2 = [.sl none 0 (some 0), .sl none 0 (some 0)] ∧ T 4 = .lp 4 0 ∧ (L 4).2 = [x])
  · intro J
    by_cases e0 : k = 0
    · simp +contextual (maxSteps := 2000000) only [go_sem, Nat.reduceEqDiff, reduceCtorEq, Nat.reduceAdd, Nat.reduceLeDiff, decide_eq_true e0]
      refine wp_call (c_someFlat b p2 h2 r2 (by omega)) ?_
      rintro q h3 ⟨⟨u, w, f, rfl, z3, mf⟩, d3⟩
      have zq := z2.drew d3 hbn
      have z3 := z3.from d2.st.n
      have d3 := (d3.then d2.st (by omega) (show p2 ≤ p + ((46 + 1 : Nat) : Int) by omega)).more (show 46 + 1 + 21 ≤ 120 by omega)
      simp +contextual (maxSteps := 2000000) only [go_sem, Nat.reduceEqDiff, reduceCtorEq, Nat.reduceAdd, Nat.reduceLeDiff]
      exact gcK_drew r d3 ⟨⟨x, u, w, l, f, rfl, zq, z3, tl, mf⟩, d3⟩
    by_cases e1 : k = 1
    · cases eo : okSig l with
      | false =>
        simp +contextual (maxSteps := 2000000) only [go_sem, Nat.reduceEqDiff, reduceCtorEq, Nat.reduceAdd, Nat.reduceLeDiff, decide_eq_false e0, decide_eq_true e1, ev, eo]
        refine J _ _ _ ?_
        simp +contextual (maxSteps := 2000000) only [go_sem, Nat.reduceEqDiff, reduceCtorEq, Nat.reduceAdd, Nat.reduceLeDiff]
      | true =>
        simp +contextual (maxSteps := 2000000) only [go_sem, Nat.reduceEqDiff, reduceCtorEq, Nat.reduceAdd, Nat.reduceLeDiff, decide_eq_false e0, decide_eq_true e1, ev, eo]
        refine wp_call (c_callFor b p2 l x h2 r2 (by omega) (z2.sl lenQ) hx (okSig_len eo) tl.nm) ?_
        rintro q h3 ⟨⟨u, w, f, rfl, z3, y1, y2, y3⟩, d3⟩
        have zq := z2.drew d3 hbn
        have z3 := z3.from d2.st.n
        obtain ⟨p3, hs1, hs2, r3⟩ := d3.ex
        have d3 := d3.then d2.st (by omega) (show p2 ≤ p + ((46 + 1 : Nat) : Int) by omega)
        simp +contextual (maxSteps := 2000000) only [go_sem, Nat.reduceEqDiff, reduceCtorEq, Nat.reduceAdd, Nat.reduceLeDiff]
        refine wp_call (c_aName b p3 h3 r3 (by omega)) ?_
        rintro q h4 ⟨⟨s, rfl, hs⟩, d4⟩
        have zq := zq.drew d4 hbn
        have z4 := z3.drew d4 hbn
        obtain ⟨p4, hu1, hu2, r4⟩ := d4.ex
        have d4 := d4.then d3.st (by omega) (show p3 ≤ p + ((46 + 1 + 65 : Nat) : Int) by omega)
        simp +contextual (maxSteps := 2000000) only [go_sem, Nat.reduceEqDiff, reduceCtorEq, Nat.reduceAdd, Nat.reduceLeDiff]
        refine wp_call (c_aNumber b p4 h4 r4 (by omega)) ?_
        rintro q h5 ⟨⟨n, rfl⟩, d5⟩
        have zq := zq.drew d5 hbn
        have z5 := z4.drew d5 hbn
        have d5 := d5.then d4.st (by omega) (show p4 ≤ p + ((46 + 1 + 65 + 1 : Nat) : Int) by omega)
        simp +contextual (maxSteps := 2000000) only [go_sem, Nat.reduceEqDiff, reduceCtorEq, Nat.reduceAdd, Nat.reduceLeDiff]
        refine wp_call (c_putPair f.nl (.one w) ⟨s, n⟩ h5 z5.sl.nl ⟨by unfold big; omega, fun a ha => Nat.le_trans (y3 a ha) (by decide)⟩) ?_
        rintro q h6 ⟨g6, n6⟩
        obtain ⟨c6, rfl⟩ := n6.one
        have z6 : NwF h h6 u c6 ⟨f.pl, putP f.nl ⟨s, n⟩⟩ := ⟨z5.pl.grow g6, n6.from d5.st.n, z5.pl.apart n6⟩
        have zq := zq.grow g6
        have d6 := (d5.grow g6).more (show 46 + 1 + 65 + 1 + 1 ≤ 120 by omega)
        have m6 : miniF ⟨f.pl, putP f.nl ⟨s, n⟩⟩ := ⟨Nat.le_trans y1 (by decide), Nat.le_trans putP_short (by omega), fun a ha => by
          rcases putP_in ha with e | e
          · exact Nat.le_trans (y3 a e) (by decide)
          · rw [e]; exact Nat.le_trans hs (by decide)⟩
        simp +contextual (maxSteps := 2000000) only [go_sem, Nat.reduceEqDiff, reduceCtorEq, Nat.reduceAdd, Nat.reduceLeDiff]
        exact gcK_drew r d6 ⟨⟨x, u, c6, l, _, rfl, zq, z6, tl, m6⟩, d6⟩
    · simp +contextual (maxSteps := 2000000) only [go_sem, Nat.reduceEqDiff, reduceCtorEq, Nat.reduceAdd, Nat.reduceLeDiff, decide_eq_false e0, decide_eq_false e1]
      refine J _ _ _ ?_
      simp +contextual (maxSteps := 2000000) only [go_sem, Nat.reduceEqDiff, reduceCtorEq, Nat.reduceAdd, Nat.reduceLeDiff]
  · rintro T L h' ⟨rfl, t0, t2, l2, t3, l3, t4, l4⟩
    cases eo : okSig l with
    | false =>
      simp +contextual (maxSteps := 2000000) only [go_sem, Nat.reduceEqDiff, reduceCtorEq, Nat.reduceAdd, Nat.reduceLeDiff, ↓u49_16, t0, t2, l2, t3, l3, t4, l4, ev, eo]
      refine wp_call (c_goodFlat b p2 h' r2 (by omega)) ?_
      rintro q h3 ⟨⟨u, w, f, rfl, z3, tf⟩, d3⟩
      have zq := z2.drew d3 hbn
      have z3 := z3.from d2.st.n
      have d3 := (d3.then d2.st (by omega) (show p2 ≤ p + ((46 + 1 : Nat) : Int) by omega)).more (show 46 + 1 + 16 ≤ 120 by omega)
      simp +contextual (maxSteps := 2000000) only [go_sem, Nat.reduceEqDiff, reduceCtorEq, Nat.reduceAdd, Nat.reduceLeDiff, t0, t2, l2, t3, l3, t4, l4]
      exact gcK_drew r d3 ⟨⟨x, u, w, l, f, rfl, zq, z3, tl, tf.mini⟩, d3⟩
    | true =>
      simp +contextual (maxSteps := 2000000) only [go_sem, Nat.reduceEqDiff, reduceCtorEq, Nat.reduceAdd, Nat.reduceLeDiff, ↓u49_16, t0, t2, l2, t3, l3, t4, l4, ev, eo]
      refine wp_call (c_callFor b p2 l x h' r2 (by omega) (z2.sl lenQ) hx (okSig_len eo) tl.nm) ?_
      rintro q h3 ⟨⟨u, w, f, rfl, z3, y1, y2, y3⟩, d3⟩
      have zq := z2.drew d3 hbn
      have z3 := z3.from d2.st.n
      have d3 := (d3.then d2.st (by omega) (show p2 ≤ p + ((46 + 1 : Nat) : Int) by omega)).more (show 46 + 1 + 65 ≤ 120 by omega)
      simp +contextual (maxSteps := 2000000) only [go_sem, Nat.reduceEqDiff, reduceCtorEq, Nat.reduceAdd, Nat.reduceLeDiff, t0, t2, l2, t3, l3, t4, l4]
      exact gcK_drew r d3 ⟨⟨x, u, w, l, f, rfl, zq, z3, tl, mini y1 y2 y3⟩, d3⟩
/-! spec.DrawProblems -/
def L22_0 : List AStep := [⟨.alloc 25 [(.sl none 0 (some 0))], (some 2), none, []⟩, ⟨.alloc 29 [(.sl none 0 (some 0)), (.sl none 0 (some 0))], (some 3), none, []⟩]
theorem v22_0 : VS L22_0.eq_1 := rfl
def L22_1 : List AStep := [⟨.store 2 (.t 3) (.t 8), none, none, []⟩]
theorem v22_1 : VS L22_1.eq_1 := rfl
def L22_2 : List AStep := ⟨.extract (.t 6) 1, (some 8), none, []⟩ :: ⟨.store 1 (.t 2) (.t 7), none, none, []⟩ :: L22_1
theorem v22_2 : VS L22_2.eq_1 := rfl
def L22_3 : List AStep := ⟨.call 49 [(.t 5)], (some 6), none, []⟩ :: ⟨.extract (.t 6) 0, (some 7), none, []⟩ :: L22_2
theorem v22_3 : VS L22_3.eq_1 := rfl
def L22_4 : List AStep := ⟨.mov (.t 0), (some 4), none, []⟩ :: ⟨.call 50 [(.t 4)], (some 5), none, []⟩ :: L22_3
theorem v22_4 : VS L22_4.eq_1 := rfl
def C22_0 : ACode := .seq (.reg L22_4) .ret
theorem u22_0 : VC C22_0.eq_1 := rfl
def C22_1 : ACode := .seq (.reg L22_0) C22_0
theorem u22_1 : VC C22_1.eq_1 := rfl
def F22 : AFunc := ⟨9, [.cell 2 1 true, .cell 3 2 true], C22_1⟩
theorem cF22 : compB Try.prog 22 = some F22 := by kernel_rfl
attribute [local go_sem ↓] u22_0 u22_1 v22_0 v22_1 v22_2 v22_3 v22_4
theorem c_drawProblems (code : List Int) (v : CV) (h : H) (hl : Sl encBy 1 5 h (.one v) code) (hc : ∀ x ∈ code, 0 ≤ x ∧ x ≤ 255) : callK (bm Try.prog 22 [.one v] h) fun q h' => Grow h h' ∧ ∃ x u w l f, q = .tup [.agg [x], .agg [u, w]] ∧ NwQ h h' (.one x) l ∧ NwF h h' u w f ∧ tinyQ l ∧ miniF f := by
  refine bm_of cF22 ?_
  simp +contextual (maxSteps := 2000000) only [go_sem, Nat.reduceEqDiff, reduceCtorEq, Nat.reduceAdd, Nat.reduceLeDiff, F22]
  refine wp_call (c_newReader code v h hl hc) ?_
  rintro q h1 ⟨g1, b, rfl, r1, hb⟩
  simp +contextual (maxSteps := 2000000) only [go_sem, Nat.reduceEqDiff, reduceCtorEq, Nat.reduceAdd, Nat.reduceLeDiff]
  refine wp_call (c_signatureCall b 0 h1 r1 (by decide)) ?_
  rintro q h2 ⟨⟨x, u, w, l, f, rfl, zq, z2, tl, mf⟩, d2⟩
  have zq := zq.from g1.n
  have z2 := z2.from g1.n
  have G := d2.out g1 hb
  simp +contextual (maxSteps := 2000000) only [go_sem, Nat.reduceEqDiff, reduceCtorEq, Nat.reduceAdd, Nat.reduceLeDiff]
  exact gcK_of ⟨G, x, u, w, l, f, rfl, zq, z2, tl, mf⟩ (fun hs _ => by
    simp [AV.scalar, AV.scalars] at hs
    exact ⟨Grow.refl h, x, u, w, l, f, rfl, zq.scalar hs.1 h, ⟨z2.pl.scalar hs.2.1 h, z2.nl.scalar hs.2.2 h, z2.sep⟩, tl, mf⟩)
/-! spec.DrawBindPart -/
def L27_0 : List AStep := [⟨.alloc 25 [(.sl none 0 (some 0))], (some 2), none, []⟩, ⟨.alloc 29 [(.sl none 0 (some 0)), (.sl none 0 (some 0))], (some 3), none, []⟩]
theorem v27_0 : VS L27_0.eq_1 := rfl
def L27_1 : List AStep := [⟨.mov (.t 8), (some 4), none, []⟩]
theorem v27_1 : VS L27_1.eq_1 := rfl
def L27_2 : List AStep := ⟨.mov (.t 0), (some 7), none, []⟩ :: ⟨.call 50 [(.t 7)], (some 8), none, []⟩ :: L27_1
theorem v27_2 : VS L27_2.eq_1 := rfl
def L27_3 : List AStep := [⟨.store 2 (.t 6) (.t 13), none, none, []⟩]
theorem v27_3 : VS L27_3.eq_1 := rfl
def L27_4 : List AStep := ⟨.alloc 29 [(.sl none 0 (some 0)), (.sl none 0 (some 0))], (some 6), none, []⟩ :: ⟨.store 1 (.t 5) (.t 12), none, none, []⟩ :: L27_3
theorem v27_4 : VS L27_4.eq_1 := rfl
def L27_5 : List AStep := ⟨.extract (.t 9) 1, (some 13), none, []⟩ :: ⟨.alloc 25 [(.sl none 0 (some 0))], (some 5), none, []⟩ :: L27_4
theorem v27_5 : VS L27_5.eq_1 := rfl
def L27_6 : List AStep := ⟨.mov (.t 11), (some 9), none, []⟩ :: ⟨.extract (.t 9) 0, (some 12), none, []⟩ :: L27_5
theorem v27_6 : VS L27_6.eq_1 := rfl
def L27_7 : List AStep := ⟨.mov (.t 4), (some 10), none, []⟩ :: ⟨.call 49 [(.t 10)], (some 11), none, []⟩ :: L27_6
theorem v27_7 : VS L27_7.eq_1 := rfl
def L27_8 : List AStep := [⟨.pick (.t 18) (.t 21) (.c (.bool false)), (some 22), none, []⟩]
theorem v27_8 : VS L27_8.eq_1 := rfl
def L27_9 : List AStep := ⟨.call 69 [(.t 19), (.c (.int .i64 2))], (some 20), (some (18, true)), []⟩ :: ⟨.bin .eql (.t 20) (.c (.int .i64 0)), (some 21), (some (18, true)), []⟩ :: L27_8
theorem v27_9 : VS L27_9.eq_1 := rfl
def L27_10 : List AStep := ⟨.mov (.t 17), (some 18), none, []⟩ :: ⟨.mov (.t 4), (some 19), (some (18, true)), []⟩ :: L27_9
theorem v27_10 : VS L27_10.eq_1 := rfl
def L27_11 : List AStep := ⟨.len (.t 15), (some 16), none, []⟩ :: ⟨.bin .gtr (.t 16) (.c (.int .i64 0)), (some 17), none, []⟩ :: L27_10
theorem v27_11 : VS L27_11.eq_1 := rfl
def L27_12 : List AStep := ⟨.faddr 1 (.t 6), (some 14), none, []⟩ :: ⟨.load 1 false (.t 14), (some 15), none, []⟩ :: L27_11
theorem v27_12 : VS L27_12.eq_1 := rfl
def L27_13 : List AStep := [⟨.store 1 (.t 26) (.t 25), none, none, []⟩]
theorem v27_13 : VS L27_13.eq_1 := rfl
def L27_14 : List AStep := ⟨.slice 64 2 (.t 24) (some (.c (.int .i64 1))) none none, (some 25), none, []⟩ :: ⟨.faddr 1 (.t 6), (some 26), none, []⟩ :: L27_13
theorem v27_14 : VS L27_14.eq_1 := rfl
def L27_15 : List AStep := ⟨.faddr 1 (.t 6), (some 23), none, []⟩ :: ⟨.load 1 false (.t 23), (some 24), none, []⟩ :: L27_14
theorem v27_15 : VS L27_15.eq_1 := rfl
def L27_16 : List AStep := [⟨.store 1 (.t 2) (.t 27), none, none, [(.load 2 true (.t 6), (some 28), none)]⟩, ⟨.store 2 (.t 3) (.t 28), none, none, []⟩]
theorem v27_16 : VS L27_16.eq_1 := rfl
def L27_17 : List AStep := ⟨.load 1 true (.t 5), (some 27), none, []⟩ :: ⟨.load 2 true (.t 6), (some 28), none, []⟩ :: L27_16
theorem v27_17 : VS L27_17.eq_1 := rfl
def C27_0 : ACode := .cond (.t 22) (.reg L27_15) .skip
theorem u27_0 : VC C27_0.eq_1 := rfl
def C27_1 : ACode := .seq (.reg L27_12) C27_0
theorem u27_1 : VC C27_1.eq_1 := rfl
def C27_2 : ACode := .seq (.reg L27_17) .ret
theorem u27_2 : VC C27_2.eq_1 := rfl
def C27_3 : ACode := .seq C27_1 C27_2
theorem u27_3 : VC C27_3.eq_1 := rfl
def C27_4 : ACode := .seq (.reg L27_7) C27_3
theorem u27_4 : VC C27_4.eq_1 := rfl
def C27_5 : ACode := .seq (.reg L27_2) C27_4
theorem u27_5 : VC C27_5.eq_1 := rfl
def C27_6 : ACode := .seq (.reg L27_0) C27_5
theorem u27_6 : VC C27_6.eq_1 := rfl
def F27 : AFunc := ⟨29, [.cell 2 1 true, .cell 3 2 true], C27_6⟩
theorem cF27 : compB Try.prog 27 = some F27 := by kernel_rfl
attribute [local go_sem ↓] u27_0 u27_1 u27_2 u27_3 u27_4 u27_5 u27_6 v27_0 v27_1 v27_2 v27_3 v27_4 v27_5 v27_6 v27_7 v27_8 v27_9 v27_10 v27_11 v27_12 v27_13 v27_14 v27_15 v27_16 v27_17
theorem c_drawBindPart (code : List Int) (v : CV) (h : H) (hl : Sl encBy 1 5 h (.one v) code) (hc : ∀ x ∈ code, 0 ≤ x ∧ x ≤ 255) : callK (bm Try.prog 27 [.one v] h) fun q h' => Grow h h' ∧ ∃ x u w l f, q = .tup [.agg [x], .agg [u, w]] ∧ SlQ h' (.one x) l ∧ SlF h' u w f ∧ tinyQ l ∧ miniF f := by
  refine bm_of cF27 ?_
  simp +contextual (maxSteps := 2000000) only [go_sem, Nat.reduceEqDiff, reduceCtorEq, Nat.reduceAdd, Nat.reduceLeDiff, F27]
  refine wp_call (c_newReader code v h hl hc) ?_
  rintro q h1 ⟨g1, b, rfl, r1, hb⟩
  simp +contextual (maxSteps := 2000000) only [go_sem, Nat.reduceEqDiff, reduceCtorEq, Nat.reduceAdd, Nat.reduceLeDiff]
  refine wp_call (c_signatureCall b 0 h1 r1 (by decide)) ?_
  rintro q h2 ⟨⟨x, u, w, l, f, rfl, zq, z2, tl, mf⟩, d2⟩
  have hbn := r1.lt
  obtain ⟨p2, hp1, hp2, r2⟩ := d2.ex
  have fin : ∀ {h3 : H} {w' : CV} {f' : Flat}, Grow h h3 → SlQ h3 (.one x) l → SlF h3 u w' f' → miniF f' → gcK h (.tup [.agg [x], .agg [u, w']]) (rdy h3) fun q h' => Grow h h' ∧ ∃ x u w l f, q = .tup [.agg [x], .agg [u, w]] ∧ SlQ h' (.one x) l ∧ SlF h' u w f ∧ tinyQ l ∧ miniF f := fun G sq sf m =>
    gcK_of ⟨G, x, u, _, l, _, rfl, sq, sf, tl, m⟩ (fun hs _ => by
      simp [AV.scalar, AV.scalars] at hs
      exact ⟨Grow.refl h, x, u, _, l, _, rfl, sq.scalar hs.1 h, ⟨sf.pl.scalar hs.2.1 h, sf.nl.scalar hs.2.2 h⟩, tl, m⟩)
  cases en : decide ((f.nl.length : Int) > 0) with
  | false =>
    simp +contextual (maxSteps := 2000000) only [go_sem, Nat.reduceEqDiff, reduceCtorEq, Nat.reduceAdd, Nat.reduceLeDiff, z2.nl.length, en]
    exact fin (d2.out g1 hb) (zq.sl lenQ) z2.sl mf
  | true =>
  have hn : 1 ≤ f.nl.length := by have := of_decide_eq_true en; omega
  simp +contextual (maxSteps := 2000000) only [go_sem, Nat.reduceEqDiff, reduceCtorEq, Nat.reduceAdd, Nat.reduceLeDiff, z2.nl.length, en]
  refine wp_call (c_pick b 2 p2 h2 r2 (by omega)) ?_
  rintro q h3 ⟨⟨k, rfl, _, _⟩, d3⟩
  have zq3 := (zq.drew d3 hbn).sl lenQ
  have z3 := (z2.drew d3 hbn).sl
  have G := (d3.then d2.st (by omega) hp2).out g1 hb
  by_cases e0 : k = 0
  · obtain ⟨p3, ep3, sp3⟩ := z3.nl.dropO hn (kd := .i64)
    obtain ⟨p3, rfl⟩ := sp3.isOne
    have ep3 : cutO 64 2 h3 (.one w) (some (.one (.int .i64 1))) none none = some (.one p3) := ep3
    simp +contextual (maxSteps := 2000000) only [go_sem, Nat.reduceEqDiff, reduceCtorEq, Nat.reduceAdd, Nat.reduceLeDiff, decide_eq_true e0, ep3]
    exact fin (f' := ⟨f.pl, f.nl.drop 1⟩) G zq3 ⟨z3.pl, sp3⟩ ⟨mf.pl, by have := mf.nl; simp; omega, fun a ha => mf.nm a (List.mem_of_mem_drop ha)⟩
  · simp +contextual (maxSteps := 2000000) only [go_sem, Nat.reduceEqDiff, reduceCtorEq, Nat.reduceAdd, Nat.reduceLeDiff, decide_eq_false e0]
    exact fin G zq3 z3 mf
end Go.Proofs.Ytekkimfdcbgcoab.Am
