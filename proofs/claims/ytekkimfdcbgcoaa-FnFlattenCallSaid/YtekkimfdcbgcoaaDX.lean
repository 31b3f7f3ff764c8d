/- Contracts: calls that are drawn, and may be invalid. -/
import Derived.Test.YtekkimfdcbgcoaaDQ
import Derived.Test.YtekkimfdcbgcoaaDT
namespace Go.Proofs.Ytekkimfdcbgcoaa.Am
open Go
set_option maxRecDepth 100000
set_option maxHeartbeats 4000000
set_option linter.unusedSimpArgs false
set_option linter.unusedVariables false
attribute [local go_sem ↓] bv_t bv_c ev_t ev_c put_same put_ne put_none kill_at pro_at lb_same lb_ne start_zero start_succ wpC_seq wpC_reg wpC_cond wpC_block wpC_skip wpC_exit wpC_ret thenQ_normal thenQ_exit thenQ_ret inBlk_normal inBlk_exit inBlk_ret wpS_nil wpS_step wpS_again wpS_guard wpO_mov wpO_load wpO_faddr wpO_nilCheck wpO_pick wpO_build wpO_bin wpO_eqb wpO_eqst wpO_eqnil wpO_not wpO_conv wpO_bytesStr wpO_iaddr wpO_idxStr wpO_field wpO_extract wpO_len wpO_lenStr wpO_cap wpO_min wpO_slice wpO_sliceStr wpO_alloc wpO_box wpO_store wpO_call wpO_callv wpO_mkfn wpO_buildSlice wpO_mkslice wpO_append wpO_appz proA_nil proA_cons tmpX_nil tmpX_tmp tmpX_cell doneB_normal doneB_ret agK_cons agK_nil agK_guard agG_tt agG_ff agG_tf agG_ft agG_undef pureB_load results_one results_two results_nil resBs_cons resBs_nil resB_tmp resB_cell
attribute [local go_sem] kill_v kill_lp_ne kill_lp_same pro_v pro_lp_same pro_lp_ne av_v av_lp optB_some optX_some valX_eq ldX_lp ldX_v faX_lp faX_v ncX_lp ncX_ptr ncX_fn boxK_one boxK_agg stL_some stK_lp_one stK_lp_agg stK_v_one stK_v_agg proM_v proM_lp callG_mk callVG_mk callvK_fn fnG_mk ptrsA_nil ptrsA_cons callH_some whenA_true whenA_false guardH_tt guardH_ff guardH_tf guardH_ft guardH_undef agV_one agV_agg lenO_sl lenStrO_str notO_bool pickO_bool convO_int eqbO_bool eqnilO_sl extractO_tup capO_sl minO_int loadL_one loadL_all storeL_eq fillA_nil fillA_one fillA_agg nat_ge neg_ge nat_lt neg_lt buildO bin_add bin_sub bin_mul bin_eql bin_neq bin_lss bin_leq bin_gtr bin_geq str_eql str_neq str_lss str_leq str_gtr str_geq retK_some endK_mk gcK_same gcK_int gcK_bool tupO_one tupO_agg rdy_self ib ii Option.map_none Option.map_some Option.some.injEq exists_eq_left' exists_eq_left ne_eq not_false_eq_true if_true if_false List.map_cons List.map_nil List.getElem?_cons_zero List.getElem?_cons_succ List.length_cons List.length_nil List.take_succ_cons List.take_zero List.take_nil List.drop_succ_cons List.drop_zero List.drop_nil List.cons_append List.nil_append List.append_nil List.set_cons_zero List.set_cons_succ Nat.zero_add forall_const true_and and_true and_self Bool.false_eq_true false_implies true_implies implies_true Bool.not_true Bool.not_false Bool.not_eq_true' Bool.not_eq_false' beq_self_eq_true Bool.bne_true Bool.bne_false
attribute [local go_sem] lenI lenS lenP lenQ lenB lenL lenT encI_0 encS_0 encP_0 encP_1 encQ_0 encQ_1 encQ_2 encQ_3 encB_0 encB_1 encL_0 encL_1 encT_0 encT_1
attribute [local go_sem low] whenA_bool guardH_bool
attribute [local go_sem] lenC encC_0 encC_1 encC_2 encC_3
theorem SlC.scalar {h : H} {v : CV} {l : List Arg} (x : SlC h v l) (hs : v.scalar = true) (h2 : H) : SlC h2 v l := by
  obtain ⟨rs, y⟩ := x.ex
  have e : rs = [] := by
    cases hr : rs with
    | nil => rfl
    | cons a t =>
      obtain ⟨a, c, e, _⟩ := y.out.base (i := 0) (by simp [hr])
      have e := AV.one.inj e
      subst e
      simp [CV.scalar] at hs
  exact ⟨rs, y.out.scalar (by simpa [AV.scalar] using hs) h2, y.len, fun i hi => absurd hi (by simp [e])⟩
theorem getC_put {l : List Arg} {i j : Nat} {a : Arg} (hj : j < l.length) : getC (l.set i a) j = if j = i then a else getC l j := by
  unfold getC
  by_cases e : j = i
  · subst e; rw [if_pos rfl, List.getElem?_set_self hj]; rfl
  · rw [if_neg e, List.getElem?_set_ne (Ne.symm e)]
/-- One argument is turned, of which the slices are still good. -/
theorem SlC.put {h0 h1 h2 : H} {v : CV} {rs : List RArg} {l : List Arg} {k : Nat} {r : RArg} {a : Arg} (x : NwC h0 h1 v rs l) (hk : k < rs.length) (n : Nw encC 4 64 h0 h2 (.one v) (rs.set k r)) (e : AtC 3 53 h2 r a)
    (o : ∀ j (hj : j < rs.length), j ≠ k → AtC 3 53 h2 rs[j] (getC l j)) : SlC h2 v (l.set k a) := by
  have hl := x.out.len
  refine ⟨rs.set k r, n.sl lenC, by simp [hl], fun j hj => ?_⟩
  have hj2 : j < rs.length := by simpa using hj
  rw [getC_put (by omega), List.getElem_set]
  by_cases c : j = k
  · rw [if_pos c, if_pos c.symm]; exact e
  · rw [if_neg c, if_neg (Ne.symm c)]; exact o j hj2 c
theorem NtC.keep {h0 h h1 : H} {v : CV} {r : RArg} {a : Arg} (x : NtC h0 h r a) (st : Stay (.one v) h h1) (e1 : SepC v r.lv) (e2 : SepC v r.pv) : NtC h0 h1 r a := ⟨x.kind, x.name, x.list.stay st e1.symm, x.pairs.stay st e2.symm⟩
structure tinyC (l : List Arg) : Prop where
  len : l.length ≤ 16
  el : ∀ a ∈ l, tinyA a
theorem tinyC.mini {l : List Arg} (h : tinyC l) : miniC l := miniC.tiny h.len h.el
theorem tinyC.take {l : List Arg} (h : tinyC l) (n : Nat) : tinyC (l.take n) := ⟨Nat.le_trans (List.length_take_le' _ _) h.len, fun a ha => h.el a (List.mem_of_mem_take ha)⟩
theorem tinyA.mini {l : List Arg} (hl : l.length ≤ 16) (h : ∀ a ∈ l, tinyA a) : tinyC l := ⟨hl, h⟩
theorem tinyA.set {l : List Arg} {k : Nat} {a : Arg} (h : ∀ a ∈ l, tinyA a) (ha : tinyA a) : ∀ x ∈ l.set k a, tinyA x := fun x hx => by
  rcases List.mem_or_eq_of_mem_set hx with e | e
  · exact h x e
  · rw [e]; exact ha
/-! spec.someCall -/
def L78_0 : List AStep := [⟨.alloc 58 [(.sl none 0 (some 0))], (some 2), none, []⟩]
theorem v78_0 : VS L78_0.eq_1 := rfl
def L78_1 : List AStep := [⟨.alloc 58 [(.sl none 0 (some 0))], (some 3), none, []⟩, ⟨.store 1 (.t 3) (.t 6), none, none, []⟩]
theorem v78_1 : VS L78_1.eq_1 := rfl
def L78_2 : List AStep := ⟨.mov (.t 0), (some 5), none, []⟩ :: ⟨.call 131 [(.t 5)], (some 6), none, []⟩ :: L78_1
theorem v78_2 : VS L78_2.eq_1 := rfl
def L78_3 : List AStep := [⟨.len (.t 8), (some 9), none, []⟩, ⟨.bin .gtr (.t 9) (.c (.int .i64 0)), (some 10), none, []⟩]
theorem v78_3 : VS L78_3.eq_1 := rfl
def L78_4 : List AStep := ⟨.faddr 0 (.t 3), (some 7), none, []⟩ :: ⟨.load 1 false (.t 7), (some 8), none, []⟩ :: L78_3
theorem v78_4 : VS L78_4.eq_1 := rfl
def L78_5 : List AStep := [⟨.call 106 [(.t 11), (.t 14)], (some 15), none, []⟩, ⟨.mov (.t 15), (some 4), none, []⟩]
theorem v78_5 : VS L78_5.eq_1 := rfl
def L78_6 : List AStep := ⟨.load 1 false (.t 12), (some 13), none, []⟩ :: ⟨.len (.t 13), (some 14), none, []⟩ :: L78_5
theorem v78_6 : VS L78_6.eq_1 := rfl
def L78_7 : List AStep := ⟨.mov (.t 0), (some 11), none, []⟩ :: ⟨.faddr 0 (.t 3), (some 12), none, []⟩ :: L78_6
theorem v78_7 : VS L78_7.eq_1 := rfl
def L78_8 : List AStep := [⟨.mov (.t 0), (some 16), none, []⟩, ⟨.call 106 [(.t 16), (.c (.int .i64 24))], (some 17), none, []⟩]
theorem v78_8 : VS L78_8.eq_1 := rfl
def L78_9 : List AStep := [⟨.bin .eql (.t 17) (.c (.int .i64 0)), (some 19), none, []⟩, ⟨.mov (.t 19), (some 18), none, []⟩]
theorem v78_9 : VS L78_9.eq_1 := rfl
def L78_10 : List AStep := [⟨.store 1 (.t 27) (.t 25), none, none, []⟩]
theorem v78_10 : VS L78_10.eq_1 := rfl
def L78_11 : List AStep := ⟨.iaddr 4 (.t 21) (.t 22), (some 26), none, []⟩ :: ⟨.faddr 0 (.t 26), (some 27), none, []⟩ :: L78_10
theorem v78_11 : VS L78_11.eq_1 := rfl
def L78_12 : List AStep := ⟨.buildSlice 3 4 [(.int .i64 0)] [(0, 1, (.c (.int .i64 (-1)))), (1, 1, (.c (.int .i64 4))), (2, 1, (.c (.int .i64 0))), (3, 1, (.c (.int .i64 3)))], (some 24), none, []⟩ :: ⟨.call 109 [(.t 23), (.t 24)], (some 25), none, [(.load 1 false (.t 20), (some 21), none)]⟩ :: L78_11
theorem v78_12 : VS L78_12.eq_1 := rfl
def L78_13 : List AStep := ⟨.mov (.t 4), (some 22), none, []⟩ :: ⟨.mov (.t 0), (some 23), none, []⟩ :: L78_12
theorem v78_13 : VS L78_13.eq_1 := rfl
def L78_14 : List AStep := ⟨.faddr 0 (.t 3), (some 20), none, []⟩ :: ⟨.load 1 false (.t 20), (some 21), none, []⟩ :: L78_13
theorem v78_14 : VS L78_14.eq_1 := rfl
def L78_15 : List AStep := [⟨.bin .eql (.t 17) (.c (.int .i64 1)), (some 29), none, []⟩, ⟨.mov (.t 29), (some 28), none, []⟩]
theorem v78_15 : VS L78_15.eq_1 := rfl
def L78_16 : List AStep := [⟨.faddr 2 (.t 43), (some 44), none, []⟩, ⟨.store 1 (.t 44) (.t 42), none, none, []⟩]
theorem v78_16 : VS L78_16.eq_1 := rfl
def L78_17 : List AStep := ⟨.append 3 1 8 (.t 38) (.t 41), (some 42), none, [(.load 1 false (.t 30), (some 31), none)]⟩ :: ⟨.iaddr 4 (.t 31) (.t 32), (some 43), none, []⟩ :: L78_16
theorem v78_17 : VS L78_17.eq_1 := rfl
def L78_18 : List AStep := ⟨.call 110 [(.t 39)], (some 40), none, [(.load 1 false (.t 30), (some 31), none), (.load 1 false (.t 33), (some 34), none), (.load 1 false (.t 37), (some 38), none)]⟩ :: ⟨.buildSlice 3 1 [(.int .i64 0)] [(0, 1, (.t 40))], (some 41), none, []⟩ :: L78_17
theorem v78_18 : VS L78_18.eq_1 := rfl
def L78_19 : List AStep := ⟨.load 1 false (.t 37), (some 38), none, []⟩ :: ⟨.mov (.t 0), (some 39), none, []⟩ :: L78_18
theorem v78_19 : VS L78_19.eq_1 := rfl
def L78_20 : List AStep := ⟨.iaddr 4 (.t 34) (.t 35), (some 36), none, []⟩ :: ⟨.faddr 2 (.t 36), (some 37), none, []⟩ :: L78_19
theorem v78_20 : VS L78_20.eq_1 := rfl
def L78_21 : List AStep := ⟨.load 1 false (.t 33), (some 34), none, []⟩ :: ⟨.mov (.t 4), (some 35), none, []⟩ :: L78_20
theorem v78_21 : VS L78_21.eq_1 := rfl
def L78_22 : List AStep := ⟨.mov (.t 4), (some 32), none, []⟩ :: ⟨.faddr 0 (.t 3), (some 33), none, []⟩ :: L78_21
theorem v78_22 : VS L78_22.eq_1 := rfl
def L78_23 : List AStep := ⟨.faddr 0 (.t 3), (some 30), none, []⟩ :: ⟨.load 1 false (.t 30), (some 31), none, []⟩ :: L78_22
theorem v78_23 : VS L78_23.eq_1 := rfl
def L78_24 : List AStep := [⟨.bin .eql (.t 17) (.c (.int .i64 2)), (some 46), none, []⟩, ⟨.mov (.t 46), (some 45), none, []⟩]
theorem v78_24 : VS L78_24.eq_1 := rfl
def L78_25 : List AStep := [⟨.faddr 1 (.t 52), (some 53), none, []⟩, ⟨.store 1 (.t 53) (.t 51), none, none, []⟩]
theorem v78_25 : VS L78_25.eq_1 := rfl
def L78_26 : List AStep := ⟨.call 107 [(.t 50)], (some 51), none, [(.load 1 false (.t 47), (some 48), none)]⟩ :: ⟨.iaddr 4 (.t 48) (.t 49), (some 52), none, []⟩ :: L78_25
theorem v78_26 : VS L78_26.eq_1 := rfl
def L78_27 : List AStep := ⟨.mov (.t 4), (some 49), none, []⟩ :: ⟨.mov (.t 0), (some 50), none, []⟩ :: L78_26
theorem v78_27 : VS L78_27.eq_1 := rfl
def L78_28 : List AStep := ⟨.faddr 0 (.t 3), (some 47), none, []⟩ :: ⟨.load 1 false (.t 47), (some 48), none, []⟩ :: L78_27
theorem v78_28 : VS L78_28.eq_1 := rfl
def L78_29 : List AStep := [⟨.bin .eql (.t 17) (.c (.int .i64 3)), (some 55), none, []⟩, ⟨.mov (.t 55), (some 54), none, []⟩]
theorem v78_29 : VS L78_29.eq_1 := rfl
def L78_30 : List AStep := [⟨.faddr 0 (.t 3), (some 64), none, []⟩, ⟨.store 1 (.t 64) (.t 63), none, none, []⟩]
theorem v78_30 : VS L78_30.eq_1 := rfl
def L78_31 : List AStep := ⟨.buildSlice 64 1 [(.int .i64 0), (.str (strOfNums [])), (.sl none 0 (some 0)), (.sl none 0 (some 0))] [(0, 4, (.t 61))], (some 62), none, []⟩ :: ⟨.append 64 4 72 (.t 57) (.t 62), (some 63), none, []⟩ :: L78_30
theorem v78_31 : VS L78_31.eq_1 := rfl
def L78_32 : List AStep := ⟨.iaddr 4 (.t 59) (.c (.int .i64 0)), (some 60), none, []⟩ :: ⟨.load 4 true (.t 60), (some 61), none, []⟩ :: L78_31
theorem v78_32 : VS L78_32.eq_1 := rfl
def L78_33 : List AStep := ⟨.faddr 0 (.t 3), (some 58), none, []⟩ :: ⟨.load 1 false (.t 58), (some 59), none, []⟩ :: L78_32
theorem v78_33 : VS L78_33.eq_1 := rfl
def L78_34 : List AStep := ⟨.faddr 0 (.t 3), (some 56), none, []⟩ :: ⟨.load 1 false (.t 56), (some 57), none, []⟩ :: L78_33
theorem v78_34 : VS L78_34.eq_1 := rfl
def L78_35 : List AStep := [⟨.load 1 true (.t 3), (some 65), none, []⟩, ⟨.store 1 (.t 2) (.t 65), none, none, []⟩]
theorem v78_35 : VS L78_35.eq_1 := rfl
def C78_0 : ACode := .cond (.t 54) (.reg L78_34) .skip
theorem u78_0 : VC C78_0.eq_1 := rfl
def C78_1 : ACode := .seq (.reg L78_29) C78_0
theorem u78_1 : VC C78_1.eq_1 := rfl
def C78_2 : ACode := .cond (.t 45) (.reg L78_28) C78_1
theorem u78_2 : VC C78_2.eq_1 := rfl
def C78_3 : ACode := .seq (.reg L78_24) C78_2
theorem u78_3 : VC C78_3.eq_1 := rfl
def C78_4 : ACode := .cond (.t 28) (.reg L78_23) C78_3
theorem u78_4 : VC C78_4.eq_1 := rfl
def C78_5 : ACode := .seq (.reg L78_15) C78_4
theorem u78_5 : VC C78_5.eq_1 := rfl
def C78_6 : ACode := .cond (.t 18) (.reg L78_14) C78_5
theorem u78_6 : VC C78_6.eq_1 := rfl
def C78_7 : ACode := .seq (.reg L78_9) C78_6
theorem u78_7 : VC C78_7.eq_1 := rfl
def C78_8 : ACode := .block 0 C78_7
theorem u78_8 : VC C78_8.eq_1 := rfl
def C78_9 : ACode := .seq (.reg L78_8) C78_8
theorem u78_9 : VC C78_9.eq_1 := rfl
def C78_10 : ACode := .seq (.reg L78_7) C78_9
theorem u78_10 : VC C78_10.eq_1 := rfl
def C78_11 : ACode := .cond (.t 10) C78_10 .skip
theorem u78_11 : VC C78_11.eq_1 := rfl
def C78_12 : ACode := .seq (.reg L78_4) C78_11
theorem u78_12 : VC C78_12.eq_1 := rfl
def C78_13 : ACode := .seq (.reg L78_35) .ret
theorem u78_13 : VC C78_13.eq_1 := rfl
def C78_14 : ACode := .seq C78_12 C78_13
theorem u78_14 : VC C78_14.eq_1 := rfl
def C78_15 : ACode := .seq (.reg L78_2) C78_14
theorem u78_15 : VC C78_15.eq_1 := rfl
def C78_16 : ACode := .seq (.reg L78_0) C78_15
theorem u78_16 : VC C78_16.eq_1 := rfl
def F78 : AFunc := ⟨66, [.cell 2 1 true], C78_16⟩
theorem cF78 : compB Try.prog 78 = some F78 := by kernel_rfl
attribute [local go_sem ↓] u78_0 u78_1 u78_2 u78_3 u78_4 u78_5 u78_6 u78_7 u78_8 u78_9 u78_10 u78_11 u78_12 u78_13 u78_14 u78_15 u78_16 v78_0 v78_1 v78_2 v78_3 v78_4 v78_5 v78_6 v78_7 v78_8 v78_9 v78_10 v78_11 v78_12 v78_13 v78_14 v78_15 v78_16 v78_17 v78_18 v78_19 v78_20 v78_21 v78_22 v78_23 v78_24 v78_25 v78_26 v78_27 v78_28 v78_29 v78_30 v78_31 v78_32 v78_33 v78_34 v78_35
theorem c_someCall (b : Nat) (p : Int) (h : H) (r : Rd h b p) (hp : p ≤ 2 ^ 37) : callK (bm Try.prog 78 [.one (.ptr (some (b, 0)))] h) fun q h' => (∃ x l, q = .agg [x] ∧ SlC h' x l ∧ tinyC l) ∧ Drew b p 108 h h' := by
  refine bm_of cF78 ?_
  have hbn := r.lt
  simp +contextual (maxSteps := 2000000) only [go_sem, Nat.reduceEqDiff, reduceCtorEq, Nat.reduceAdd, Nat.reduceLeDiff, F78]
  refine wp_call (c_goodCallOf b p h r (by omega)) ?_
  rintro q h1 ⟨⟨x, rs, l, rfl, xc, hl6, tA, hn1⟩, d1⟩
  obtain ⟨p1, hp1, hp2, r1⟩ := d1.ex
  have hlen := xc.out.len
  have tl : ∀ a ∈ l, tinyA a := fun a ha => (tA a ha).1
  have slen : lenO (.one x) = some (ii l.length) := by rw [xc.out.out.length, hlen]
  cases e0 : decide ((l.length : Int) > 0) with
  | false =>
    have d := d1.more (show 104 ≤ 108 by omega)
    simp +contextual (maxSteps := 2000000) only [go_sem, Nat.reduceEqDiff, reduceCtorEq, Nat.reduceAdd, Nat.reduceLeDiff, slen, e0]
    exact gcK_drew r d ⟨⟨x, l, rfl, xc.sl, tinyA.mini (by omega) tl⟩, d⟩
  | true =>
  have h0 : 0 < l.length := by have := of_decide_eq_true e0; omega
  simp +contextual (maxSteps := 2000000) only [go_sem, Nat.reduceEqDiff, reduceCtorEq, Nat.reduceAdd, Nat.reduceLeDiff, slen, e0]
  refine wp_call (c_pick b l.length p1 h1 r1 (by omega)) ?_
  rintro q h2 ⟨⟨k, rfl, k0, k1⟩, d2⟩
  obtain ⟨k, rfl⟩ := Int.eq_ofNat_of_zero_le k0
  have hk : k < rs.length := by omega
  have hkl : k < l.length := by omega
  have x2 := xc.drew d2 hbn
  obtain ⟨p2, hq1, hq2, r2⟩ := d2.ex
  have d2 := d2.then d1.st (by omega) hp2
  simp +contextual (maxSteps := 2000000) only [go_sem, Nat.reduceEqDiff, reduceCtorEq, Nat.reduceAdd, Nat.reduceLeDiff]
  refine wp_call (c_pick b 24 p2 h2 r2 (by omega)) ?_
  rintro q h3 ⟨⟨e, rfl, _, _⟩, d3⟩
  have x3 := x2.drew d3 hbn
  obtain ⟨p3, hs1, hs2, r3⟩ := d3.ex
  have d3 := d3.then d2.st (by omega) (show p2 ≤ p + ((104 + 1 : Nat) : Int) by omega)
  have ta := tl _ (List.getElem_mem hkl)
  by_cases e0 : e = 0
  · simp +contextual (maxSteps := 2000000) only [go_sem, Nat.reduceEqDiff, reduceCtorEq, Nat.reduceAdd, Nat.reduceLeDiff, decide_eq_true e0]
    refine wp_lit (enc := encI) (k := 1) (l := [-1, 4, 0, 3]) rfl rfl ?_
    intro h4 w4 g4 n4 b4
    simp +contextual (maxSteps := 2000000) only [go_sem, Nat.reduceEqDiff, reduceCtorEq, Nat.reduceAdd, Nat.reduceLeDiff]
    refine wp_call (c_one b p3 _ w4 h4 (r3.grow g4) (by omega) (n4.sl lenI) (fun i hi => Nat.lt_of_lt_of_le r3.lt (b4 i hi)) (by decide) (by decide)) ?_
    rintro q h5 ⟨⟨m, hm, rfl⟩, d5⟩
    have x5 := (x3.grow g4).drew d5 hbn
    have d5 := (d5.pre g4).then d3.st (by omega) (show p3 ≤ p + ((104 + 1 + 1 : Nat) : Int) by omega)
    simp +contextual (maxSteps := 2000000) only [go_sem, Nat.reduceEqDiff, reduceCtorEq, Nat.reduceAdd, Nat.reduceLeDiff, x5.out.out.iaddr hk]
    refine wp_setD (x := (⟨m, rs[k].name, rs[k].lv, rs[k].pv⟩ : RArg)) (off := 0) (vs := [.int .i64 m]) lenC x5.out.out hk rfl rfl (Nat.le_of_ble_eq_true rfl) d5.st.n ?_
    intro h6 n6 st6
    have ek := (x5.out.el k hk).keep st6 (x5.out.vlv k hk) (x5.out.vpv k hk)
    rw [getC_eq hkl] at ek
    have z : SlC h6 x (l.set k ⟨m, l[k].name, l[k].list, l[k].pairs⟩) := SlC.put x5 hk n6 ⟨rfl, ek.name, ek.list.sl lenI, ek.pairs.sl lenP⟩ fun j hj _ => ((x5.out.el j hj).keep st6 (x5.out.vlv j hj) (x5.out.vpv j hj)).rd
    have d6 := (d5.stay st6 (fun i hi => (x5.out.out.lt hi).2) hbn).more (show 104 + 1 + 1 + 1 ≤ 108 by omega)
    simp +contextual (maxSteps := 2000000) only [go_sem, Nat.reduceEqDiff, reduceCtorEq, Nat.reduceAdd, Nat.reduceLeDiff]
    exact gcK_drew r d6 ⟨⟨x, _, rfl, z, tinyA.mini (by simp; omega) (tinyA.set tl ⟨ta.name, ta.list, ta.pairs, ta.nm⟩)⟩, d6⟩
  by_cases e1 : e = 1
  · simp +contextual (maxSteps := 2000000) only [go_sem, Nat.reduceEqDiff, reduceCtorEq, Nat.reduceAdd, Nat.reduceLeDiff, decide_eq_false e0, decide_eq_true e1, x3.out.out.iaddr hk, (x3.out.out.sl lenC).fieldO hk]
    refine wp_call (c_anyNumber b p3 h3 r3 (by omega)) ?_
    rintro q h4 ⟨⟨m, rfl⟩, d4⟩
    have x4 := x3.drew d4 hbn
    have d4 := d4.then d3.st (by omega) (show p3 ≤ p + ((104 + 1 + 1 : Nat) : Int) by omega)
    simp +contextual (maxSteps := 2000000) only [go_sem, Nat.reduceEqDiff, reduceCtorEq, Nat.reduceAdd, Nat.reduceLeDiff, (x4.out.out.sl lenC).fieldO hk]
    refine wp_lit (enc := encI) (k := 1) (l := [m]) rfl rfl ?_
    intro h5 w5 g5 n5 b5
    have x5 := x4.grow g5
    have z5 := x5.out.el k hk
    rw [getC_eq hkl] at z5
    have hl12 := (tA _ (List.getElem_mem hkl)).2
    simp +contextual (maxSteps := 2000000) only [go_sem, Nat.reduceEqDiff, reduceCtorEq, Nat.reduceAdd, Nat.reduceLeDiff]
    refine wp_appendD lenI z5.list (n5.sl lenI) (Nat.le_trans d4.st.n g5.n) (by simp; omega) ?_
    intro h6 s6 n6 st6 hb6
    obtain ⟨c6, rfl⟩ := n6.one
    have v6 := x5.out.out.stay st6 (x5.out.vlv k hk)
    have d6 := (d4.grow g5).stay st6 (fun i hi => (z5.list.lt hi).2) hbn
    simp +contextual (maxSteps := 2000000) only [go_sem, Nat.reduceEqDiff, reduceCtorEq, Nat.reduceAdd, Nat.reduceLeDiff, v6.iaddr hk]
    refine wp_setD (x := (⟨rs[k].kind, rs[k].name, c6, rs[k].pv⟩ : RArg)) (off := 2) (vs := [c6]) lenC v6 hk rfl rfl (Nat.le_of_ble_eq_true rfl) d6.st.n ?_
    intro h7 n7 st7
    have sep : SepC x c6 := fun i hi hj => by
      rcases hb6 i hj with c | c
      · exact x5.out.vlv k hk i hi c
      · have := (x5.out.out.lt hi).1; omega
    have z : SlC h7 x (l.set k ⟨l[k].kind, l[k].name, l[k].list ++ [m], l[k].pairs⟩) := SlC.put x5 hk n7 ⟨z5.kind, z5.name, (n6.stay st7 sep.symm).sl lenI, ((z5.pairs.stay st6 (x5.out.slvpv k hk).symm).stay st7 (x5.out.vpv k hk).symm).sl lenP⟩ fun j hj hjk => by
      have y := x5.out.el j hj
      exact ⟨y.kind, y.name, ((y.list.stay st6 (x5.out.olvlv j k hj hk hjk)).stay st7 (x5.out.vlv j hj).symm).sl lenI, ((y.pairs.stay st6 (x5.out.opvlv j k hj hk hjk)).stay st7 (x5.out.vpv j hj).symm).sl lenP⟩
    have d7 := d6.stay st7 (fun i hi => (v6.lt hi).2) hbn
    simp +contextual (maxSteps := 2000000) only [go_sem, Nat.reduceEqDiff, reduceCtorEq, Nat.reduceAdd, Nat.reduceLeDiff]
    exact gcK_drew r d7 ⟨⟨x, _, rfl, z, tinyA.mini (by simp; omega) (tinyA.set tl ⟨ta.name, by simp; omega, ta.pairs, ta.nm⟩)⟩, d7⟩
  by_cases e2 : e = 2
  · simp +contextual (maxSteps := 2000000) only [go_sem, Nat.reduceEqDiff, reduceCtorEq, Nat.reduceAdd, Nat.reduceLeDiff, decide_eq_false e0, decide_eq_false e1, decide_eq_true e2]
    refine wp_call (c_anyName b p3 h3 r3 (by omega)) ?_
    rintro q h5 ⟨⟨s, rfl, hs⟩, d5⟩
    have x5 := x3.drew d5 hbn
    have d5 := d5.then d3.st (by omega) (show p3 ≤ p + ((104 + 1 + 1 : Nat) : Int) by omega)
    simp +contextual (maxSteps := 2000000) only [go_sem, Nat.reduceEqDiff, reduceCtorEq, Nat.reduceAdd, Nat.reduceLeDiff, x5.out.out.iaddr hk]
    refine wp_setD (x := (⟨rs[k].kind, s, rs[k].lv, rs[k].pv⟩ : RArg)) (off := 1) (vs := [.str s]) lenC x5.out.out hk rfl rfl (Nat.le_of_ble_eq_true rfl) d5.st.n ?_
    intro h6 n6 st6
    have ek := (x5.out.el k hk).keep st6 (x5.out.vlv k hk) (x5.out.vpv k hk)
    rw [getC_eq hkl] at ek
    have z : SlC h6 x (l.set k ⟨l[k].kind, s, l[k].list, l[k].pairs⟩) := SlC.put x5 hk n6 ⟨ek.kind, rfl, ek.list.sl lenI, ek.pairs.sl lenP⟩ fun j hj _ => ((x5.out.el j hj).keep st6 (x5.out.vlv j hj) (x5.out.vpv j hj)).rd
    have d6 := d5.stay st6 (fun i hi => (x5.out.out.lt hi).2) hbn
    simp +contextual (maxSteps := 2000000) only [go_sem, Nat.reduceEqDiff, reduceCtorEq, Nat.reduceAdd, Nat.reduceLeDiff]
    exact gcK_drew r d6 ⟨⟨x, _, rfl, z, tinyA.mini (by simp; omega) (tinyA.set tl ⟨hs, ta.list, ta.pairs, ta.nm⟩)⟩, d6⟩
  by_cases e3 : e = 3
  · have hk0 : 0 < rs.length := by omega
    have ei : iaddrO 4 (.one x) (.one (.int .i64 0)) = some (.one (.ptr (some (elem 4 (.one x) 0)))) := x3.out.out.iaddr hk0
    simp +contextual (maxSteps := 2000000) only [go_sem, Nat.reduceEqDiff, reduceCtorEq, Nat.reduceAdd, Nat.reduceLeDiff, decide_eq_false e0, decide_eq_false e1, decide_eq_false e2, decide_eq_true e3, ei, (x3.out.out.sl lenC).whole hk0]
    refine wp_lit (enc := encC) (k := 4) (l := [rs[0]]) rfl rfl ?_
    intro h5 w5 g5 n5 b5
    have x5 := x3.grow g5
    simp +contextual (maxSteps := 2000000) only [go_sem, Nat.reduceEqDiff, reduceCtorEq, Nat.reduceAdd, Nat.reduceLeDiff]
    refine wp_appendD lenC x5.out.out (n5.sl lenC) (Nat.le_trans d3.st.n g5.n) (by simp; omega) ?_
    intro h6 s6 n6 st6 hb6
    obtain ⟨c6, rfl⟩ := n6.one
    have z : SlC h6 c6 (l ++ [l[0]]) := by
      refine ⟨_, n6.sl lenC, by simp [hlen], fun j hj => ?_⟩
      have y0 := ((x5.out.el 0 hk0).keep st6 (x5.out.vlv 0 hk0) (x5.out.vpv 0 hk0)).rd
      rw [getC_eq h0] at y0
      by_cases c : j < rs.length
      · have y := ((x5.out.el j c).keep st6 (x5.out.vlv j c) (x5.out.vpv j c)).rd
        rw [getC_eq (show j < l.length by omega)] at y
        rw [getC_eq (by simp; omega), List.getElem_append_left c, List.getElem_append_left (show j < l.length by omega)]
        exact y
      · have hjl : j = rs.length := by simp at hj; omega
        rw [getC_eq (by simp; omega), List.getElem_append_right (by omega), List.getElem_append_right (by omega)]
        simp only [List.getElem_singleton]
        exact y0
    have d6 := ((d3.grow g5).stay st6 (fun i hi => (x5.out.out.lt hi).2) hbn).more (show 104 + 1 + 1 ≤ 108 by omega)
    simp +contextual (maxSteps := 2000000) only [go_sem, Nat.reduceEqDiff, reduceCtorEq, Nat.reduceAdd, Nat.reduceLeDiff]
    refine gcK_drew r d6 ⟨⟨c6, _, rfl, z, tinyA.mini (by simp; omega) fun a ha => ?_⟩, d6⟩
    rcases List.mem_append.1 ha with ha | ha
    · exact tl a ha
    · rw [List.mem_singleton.1 ha]; exact tl _ (List.getElem_mem h0)
  · have d := d3.more (show 104 + 1 + 1 ≤ 108 by omega)
    simp +contextual (maxSteps := 2000000) only [go_sem, Nat.reduceEqDiff, reduceCtorEq, Nat.reduceAdd, Nat.reduceLeDiff, decide_eq_false e0, decide_eq_false e1, decide_eq_false e2, decide_eq_false e3]
    exact gcK_drew r d ⟨⟨x, l, rfl, x3.sl, tinyA.mini (by omega) tl⟩, d⟩
/-! spec.DrawFlattenCall -/
def L28_0 : List AStep := [⟨.alloc 58 [(.sl none 0 (some 0))], (some 2), none, []⟩]
theorem v28_0 : VS L28_0.eq_1 := rfl
def L28_1 : List AStep := [⟨.call 78 [(.t 4)], (some 5), none, []⟩, ⟨.store 1 (.t 2) (.t 5), none, none, []⟩]
theorem v28_1 : VS L28_1.eq_1 := rfl
def L28_2 : List AStep := ⟨.mov (.t 0), (some 3), none, []⟩ :: ⟨.call 51 [(.t 3)], (some 4), none, []⟩ :: L28_1
theorem v28_2 : VS L28_2.eq_1 := rfl
def C28_0 : ACode := .seq (.reg L28_2) .ret
theorem u28_0 : VC C28_0.eq_1 := rfl
def C28_1 : ACode := .seq (.reg L28_0) C28_0
theorem u28_1 : VC C28_1.eq_1 := rfl
def F28 : AFunc := ⟨6, [.cell 2 1 true], C28_1⟩
theorem cF28 : compB Try.prog 28 = some F28 := by kernel_rfl
attribute [local go_sem ↓] u28_0 u28_1 v28_0 v28_1 v28_2
theorem c_drawFlattenCall (code : List Int) (v : CV) (h : H) (hl : Sl encBy 1 5 h (.one v) code) (hc : ∀ x ∈ code, 0 ≤ x ∧ x ≤ 255) : callK (bm Try.prog 28 [.one v] h) fun q h' => Grow h h' ∧ ∃ x l, q = .agg [x] ∧ SlC h' x l ∧ tinyC l := by
  refine bm_of cF28 ?_
  simp +contextual (maxSteps := 2000000) only [go_sem, Nat.reduceEqDiff, reduceCtorEq, Nat.reduceAdd, Nat.reduceLeDiff, F28]
  refine wp_call (c_newReader code v h hl hc) ?_
  rintro q h1 ⟨g1, b, rfl, r1, hb⟩
  simp +contextual (maxSteps := 2000000) only [go_sem, Nat.reduceEqDiff, reduceCtorEq, Nat.reduceAdd, Nat.reduceLeDiff]
  refine wp_call (c_someCall b 0 h1 r1 (by decide)) ?_
  rintro q h2 ⟨⟨x, l, rfl, z, m⟩, d2⟩
  have G := d2.out g1 hb
  simp +contextual (maxSteps := 2000000) only [go_sem, Nat.reduceEqDiff, reduceCtorEq, Nat.reduceAdd, Nat.reduceLeDiff]
  exact gcK_of ⟨G, x, l, rfl, z, m⟩ (fun hs _ => ⟨Grow.refl h, x, l, rfl, z.scalar (by simpa [AV.scalar] using hs) h, m⟩)
end Go.Proofs.Ytekkimfdcbgcoaa.Am
