/- Contracts: signatures that are drawn. -/
import Derived.Test.YtekkimfdcbgcoaaDG
import Derived.Test.YtekkimfdcbgcoaaA2
namespace Go.Proofs.Ytekkimfdcbgcoaa.Am
open Go
set_option maxRecDepth 100000
set_option maxHeartbeats 4000000
set_option linter.unusedSimpArgs false
set_option linter.unusedVariables false
attribute [local go_sem ↓] bv_t bv_c ev_t ev_c put_same put_ne put_none kill_at pro_at lb_same lb_ne start_zero start_succ wpC_seq wpC_reg wpC_cond wpC_block wpC_skip wpC_exit wpC_ret thenQ_normal thenQ_exit thenQ_ret inBlk_normal inBlk_exit inBlk_ret wpS_nil wpS_step wpS_again wpS_guard wpO_mov wpO_load wpO_faddr wpO_nilCheck wpO_pick wpO_build wpO_bin wpO_eqb wpO_eqst wpO_eqnil wpO_not wpO_conv wpO_bytesStr wpO_iaddr wpO_idxStr wpO_field wpO_extract wpO_len wpO_lenStr wpO_cap wpO_min wpO_slice wpO_sliceStr wpO_alloc wpO_box wpO_store wpO_call wpO_callv wpO_mkfn wpO_buildSlice wpO_mkslice wpO_append wpO_appz proA_nil proA_cons tmpX_nil tmpX_tmp tmpX_cell doneB_normal doneB_ret agK_cons agK_nil agK_guard agG_tt agG_ff agG_tf agG_ft agG_undef pureB_load results_one results_two results_nil resBs_cons resBs_nil resB_tmp resB_cell
attribute [local go_sem] kill_v kill_lp_ne kill_lp_same pro_v pro_lp_same pro_lp_ne av_v av_lp optB_some optX_some valX_eq ldX_lp ldX_v faX_lp faX_v ncX_lp ncX_ptr ncX_fn boxK_one boxK_agg stL_some stK_lp_one stK_lp_agg stK_v_one stK_v_agg proM_v proM_lp callG_mk callVG_mk callvK_fn fnG_mk ptrsA_nil ptrsA_cons callH_some whenA_true whenA_false guardH_tt guardH_ff guardH_tf guardH_ft guardH_undef agV_one agV_agg lenO_sl lenStrO_str notO_bool pickO_bool convO_int eqbO_bool eqnilO_sl extractO_tup capO_sl minO_int loadL_one loadL_all storeL_eq fillA_nil fillA_one fillA_agg nat_ge neg_ge nat_lt neg_lt buildO bin_add bin_sub bin_mul bin_eql bin_neq bin_lss bin_leq bin_gtr bin_geq str_eql str_neq str_lss str_leq str_gtr str_geq retK_some endK_mk gcK_same gcK_int gcK_bool tupO_one tupO_agg rdy_self ib ii Option.map_none Option.map_some Option.some.injEq exists_eq_left' exists_eq_left ne_eq not_false_eq_true if_true if_false List.map_cons List.map_nil List.getElem?_cons_zero List.getElem?_cons_succ List.length_cons List.length_nil List.take_succ_cons List.take_zero List.take_nil List.drop_succ_cons List.drop_zero List.drop_nil List.cons_append List.nil_append List.append_nil List.set_cons_zero List.set_cons_succ Nat.zero_add forall_const true_and and_true and_self Bool.false_eq_true false_implies true_implies implies_true Bool.not_true Bool.not_false Bool.not_eq_true' Bool.not_eq_false' beq_self_eq_true Bool.bne_true Bool.bne_false
attribute [local go_sem] lenI lenS lenP lenQ lenB lenL lenT encI_0 encS_0 encP_0 encP_1 encQ_0 encQ_1 encQ_2 encQ_3 encB_0 encB_1 encL_0 encL_1 encT_0 encT_1
attribute [local go_sem low] whenA_bool guardH_bool
/-- Ways that meet again at c. -/
theorem joinC {P : Program} {c : ACode} {Q : PostC} {G : Prop} (M : Post) (main : (∀ T L h, M T L h → wpC P c T L (rdy h) Q) → G) (join : ∀ T L h, M T L h → wpC P c T L (rdy h) Q) : G := main join
structure tinyQ (l : List Param) : Prop where
  len : l.length ≤ 10
  nm : ∀ x ∈ l, x.name.size ≤ 10
theorem tinyQ.mini {l : List Param} (t : tinyQ l) : miniG l := ⟨Nat.le_trans t.len (by decide), fun x hx => Nat.le_trans (t.nm x hx) (by decide)⟩
/-! spec.goodSignature -/
def L135_0 : List AStep := [⟨.alloc 38 [(.sl none 0 (some 0))], (some 2), none, []⟩]
theorem v135_0 : VS L135_0.eq_1 := rfl
def L135_1 : List AStep := [⟨.buildSlice 35 0 [(.str (strOfNums [])), (.int .i64 0), (.bool false), (.int .i64 0)] [], (some 8), none, []⟩, ⟨.mov (.t 8), (some 3), none, []⟩]
theorem v135_1 : VS L135_1.eq_1 := rfl
def L135_2 : List AStep := [⟨.mov (.c (.int .i64 0)), (some 4), none, []⟩]
theorem v135_2 : VS L135_2.eq_1 := rfl
def L135_3 : List AStep := [⟨.bin .eql (.t 10) (.c (.int .i64 0)), (some 11), none, []⟩]
theorem v135_3 : VS L135_3.eq_1 := rfl
def L135_4 : List AStep := ⟨.mov (.t 0), (some 9), none, []⟩ :: ⟨.call 106 [(.t 9), (.c (.int .i64 2))], (some 10), none, []⟩ :: L135_3
theorem v135_4 : VS L135_4.eq_1 := rfl
def L135_5 : List AStep := [⟨.mov (.c (.int .i64 1)), (some 4), none, []⟩]
theorem v135_5 : VS L135_5.eq_1 := rfl
def L135_6 : List AStep := [⟨.call 109 [(.t 12), (.t 13)], (some 14), none, []⟩, ⟨.mov (.t 14), (some 5), none, []⟩]
theorem v135_6 : VS L135_6.eq_1 := rfl
def L135_7 : List AStep := ⟨.mov (.t 0), (some 12), none, []⟩ :: ⟨.buildSlice 3 8 [(.int .i64 0)] [(0, 1, (.c (.int .i64 3))), (1, 1, (.c (.int .i64 4))), (2, 1, (.c (.int .i64 2))), (3, 1, (.c (.int .i64 5))), (4, 1, (.c (.int .i64 1))), (5, 1, (.c (.int .i64 0))), (6, 1, (.c (.int .i64 6))), (7, 1, (.c (.int .i64 8)))], (some 13), none, []⟩ :: L135_6
theorem v135_7 : VS L135_7.eq_1 := rfl
def L135_8 : List AStep := [⟨.mov (.t 5), (some 15), none, []⟩, ⟨.bin .gtr (.t 15) (.c (.int .i64 0)), (some 16), none, []⟩]
theorem v135_8 : VS L135_8.eq_1 := rfl
def L135_9 : List AStep := [⟨.pick (.t 22) (.t 24) (.c (.bool false)), (some 25), none, []⟩]
theorem v135_9 : VS L135_9.eq_1 := rfl
def L135_10 : List AStep := ⟨.mov (.t 4), (some 23), (some (22, true)), []⟩ :: ⟨.bin .lss (.t 23) (.c (.int .i64 4)), (some 24), (some (22, true)), []⟩ :: L135_9
theorem v135_10 : VS L135_10.eq_1 := rfl
def L135_11 : List AStep := ⟨.bin .eql (.t 20) (.c (.int .i64 0)), (some 21), none, []⟩ :: ⟨.mov (.t 21), (some 22), none, []⟩ :: L135_10
theorem v135_11 : VS L135_11.eq_1 := rfl
def L135_12 : List AStep := ⟨.mov (.t 0), (some 19), none, []⟩ :: ⟨.call 106 [(.t 19), (.c (.int .i64 3))], (some 20), none, []⟩ :: L135_11
theorem v135_12 : VS L135_12.eq_1 := rfl
def L135_13 : List AStep := [⟨.bin .add (.t 27) (.t 31), (some 32), none, []⟩, ⟨.mov (.t 32), (some 4), none, []⟩]
theorem v135_13 : VS L135_13.eq_1 := rfl
def L135_14 : List AStep := ⟨.bin .sub (.c (.int .i64 4)) (.t 29), (some 30), none, []⟩ :: ⟨.call 106 [(.t 28), (.t 30)], (some 31), none, []⟩ :: L135_13
theorem v135_14 : VS L135_14.eq_1 := rfl
def L135_15 : List AStep := ⟨.mov (.t 0), (some 28), none, []⟩ :: ⟨.mov (.t 4), (some 29), none, []⟩ :: L135_14
theorem v135_15 : VS L135_15.eq_1 := rfl
def L135_16 : List AStep := ⟨.mov (.t 4), (some 26), none, []⟩ :: ⟨.bin .add (.t 26) (.c (.int .i64 1)), (some 27), none, []⟩ :: L135_15
theorem v135_16 : VS L135_16.eq_1 := rfl
def L135_17 : List AStep := [⟨.store 4 (.t 6) (.t 37), none, none, []⟩]
theorem v135_17 : VS L135_17.eq_1 := rfl
def L135_18 : List AStep := ⟨.build [(.str (strOfNums [])), (.int .i64 0), (.bool false), (.int .i64 0)] [(0, 1, (.t 35)), (1, 1, (.t 36))], (some 37), none, []⟩ :: ⟨.alloc 35 [(.str (strOfNums [])), (.int .i64 0), (.bool false), (.int .i64 0)], (some 6), none, []⟩ :: L135_17
theorem v135_18 : VS L135_18.eq_1 := rfl
def L135_19 : List AStep := ⟨.call 141 [(.t 33), (.t 34)], (some 35), none, []⟩ :: ⟨.mov (.t 4), (some 36), none, []⟩ :: L135_18
theorem v135_19 : VS L135_19.eq_1 := rfl
def L135_20 : List AStep := ⟨.mov (.t 0), (some 33), none, []⟩ :: ⟨.buildSlice 9 10 [(.str (strOfNums []))] [(0, 1, (.c (.str (strOfNums [97])))), (1, 1, (.c (.str (strOfNums [98])))), (2, 1, (.c (.str (strOfNums [99])))), (3, 1, (.c (.str (strOfNums [100])))), (4, 1, (.c (.str (strOfNums [120])))), (5, 1, (.c (.str (strOfNums [121])))), (6, 1, (.c (.str (strOfNums [112])))), (7, 1, (.c (.str (strOfNums [113])))), (8, 1, (.c (.str (strOfNums [97, 114, 103, 115])))), (9, 1, (.c (.str (strOfNums [107, 119]))))], (some 34), none, []⟩ :: L135_19
theorem v135_20 : VS L135_20.eq_1 := rfl
def L135_21 : List AStep := [⟨.pick (.t 41) (.t 43) (.c (.bool false)), (some 44), none, []⟩]
theorem v135_21 : VS L135_21.eq_1 := rfl
def L135_22 : List AStep := ⟨.load 4 true (.t 6), (some 42), (some (41, true)), []⟩ :: ⟨.call 159 [(.t 42)], (some 43), (some (41, true)), []⟩ :: L135_21
theorem v135_22 : VS L135_22.eq_1 := rfl
def L135_23 : List AStep := ⟨.bin .eql (.t 39) (.c (.int .i64 0)), (some 40), none, []⟩ :: ⟨.mov (.t 40), (some 41), none, []⟩ :: L135_22
theorem v135_23 : VS L135_23.eq_1 := rfl
def L135_24 : List AStep := ⟨.mov (.t 0), (some 38), none, []⟩ :: ⟨.call 106 [(.t 38), (.c (.int .i64 3))], (some 39), none, []⟩ :: L135_23
theorem v135_24 : VS L135_24.eq_1 := rfl
def L135_25 : List AStep := [⟨.faddr 2 (.t 6), (some 45), none, []⟩, ⟨.store 1 (.t 45) (.c (.bool true)), none, none, []⟩]
theorem v135_25 : VS L135_25.eq_1 := rfl
def L135_26 : List AStep := [⟨.faddr 3 (.t 6), (some 48), none, []⟩, ⟨.store 1 (.t 48) (.t 47), none, none, []⟩]
theorem v135_26 : VS L135_26.eq_1 := rfl
def L135_27 : List AStep := ⟨.mov (.t 0), (some 46), none, []⟩ :: ⟨.call 145 [(.t 46)], (some 47), none, []⟩ :: L135_26
theorem v135_27 : VS L135_27.eq_1 := rfl
def L135_28 : List AStep := [⟨.not (.t 50), (some 51), none, []⟩]
theorem v135_28 : VS L135_28.eq_1 := rfl
def L135_29 : List AStep := ⟨.load 4 true (.t 6), (some 49), none, []⟩ :: ⟨.call 159 [(.t 49)], (some 50), none, []⟩ :: L135_28
theorem v135_29 : VS L135_29.eq_1 := rfl
def L135_30 : List AStep := [⟨.min (.t 53) (.c (.int .i64 4)), (some 54), none, []⟩, ⟨.mov (.t 54), (some 4), none, []⟩]
theorem v135_30 : VS L135_30.eq_1 := rfl
def L135_31 : List AStep := ⟨.mov (.t 4), (some 52), none, []⟩ :: ⟨.bin .add (.t 52) (.c (.int .i64 1)), (some 53), none, []⟩ :: L135_30
theorem v135_31 : VS L135_31.eq_1 := rfl
def L135_32 : List AStep := [⟨.append 35 4 40 (.t 56) (.t 58), (some 59), none, []⟩, ⟨.mov (.t 59), (some 7), none, []⟩]
theorem v135_32 : VS L135_32.eq_1 := rfl
def L135_33 : List AStep := ⟨.buildSlice 35 1 [(.str (strOfNums [])), (.int .i64 0), (.bool false), (.int .i64 0)] [(0, 4, (.t 57))], (some 58), none, []⟩ :: ⟨.call 160 [(.t 55)], (some 56), none, [(.load 4 true (.t 6), (some 57), none)]⟩ :: L135_32
theorem v135_33 : VS L135_33.eq_1 := rfl
def L135_34 : List AStep := ⟨.mov (.t 3), (some 55), none, []⟩ :: ⟨.load 4 true (.t 6), (some 57), none, []⟩ :: L135_33
theorem v135_34 : VS L135_34.eq_1 := rfl
def L135_35 : List AStep := [⟨.mov (.t 7), (some 60), none, []⟩, ⟨.call 138 [(.t 60)], (some 61), none, []⟩]
theorem v135_35 : VS L135_35.eq_1 := rfl
def L135_36 : List AStep := [⟨.mov (.t 7), (some 62), none, []⟩, ⟨.mov (.t 62), (some 3), none, []⟩]
theorem v135_36 : VS L135_36.eq_1 := rfl
def L135_37 : List AStep := [⟨.mov (.t 18), (some 5), none, []⟩]
theorem v135_37 : VS L135_37.eq_1 := rfl
def L135_38 : List AStep := ⟨.mov (.t 5), (some 17), none, []⟩ :: ⟨.bin .sub (.t 17) (.c (.int .i64 1)), (some 18), none, []⟩ :: L135_37
theorem v135_38 : VS L135_38.eq_1 := rfl
def L135_39 : List AStep := [⟨.store 1 (.t 2) (.t 64), none, none, []⟩]
theorem v135_39 : VS L135_39.eq_1 := rfl
def L135_40 : List AStep := ⟨.mov (.t 3), (some 63), none, []⟩ :: ⟨.build [(.sl none 0 (some 0))] [(0, 1, (.t 63))], (some 64), none, []⟩ :: L135_39
theorem v135_40 : VS L135_40.eq_1 := rfl
def C135_0 : ACode := .cond (.t 11) (.reg L135_5) .skip
theorem u135_0 : VC C135_0.eq_1 := rfl
def C135_1 : ACode := .seq (.reg L135_4) C135_0
theorem u135_1 : VC C135_1.eq_1 := rfl
def C135_2 : ACode := .cond (.t 16) .skip (.exit 0)
theorem u135_2 : VC C135_2.eq_1 := rfl
def C135_3 : ACode := .seq (.reg L135_8) C135_2
theorem u135_3 : VC C135_3.eq_1 := rfl
def C135_4 : ACode := .cond (.t 25) (.reg L135_16) .skip
theorem u135_4 : VC C135_4.eq_1 := rfl
def C135_5 : ACode := .seq (.reg L135_12) C135_4
theorem u135_5 : VC C135_5.eq_1 := rfl
def C135_6 : ACode := .seq (.reg L135_25) (.reg L135_27)
theorem u135_6 : VC C135_6.eq_1 := rfl
def C135_7 : ACode := .cond (.t 44) C135_6 .skip
theorem u135_7 : VC C135_7.eq_1 := rfl
def C135_8 : ACode := .seq (.reg L135_24) C135_7
theorem u135_8 : VC C135_8.eq_1 := rfl
def C135_9 : ACode := .cond (.t 51) (.reg L135_31) .skip
theorem u135_9 : VC C135_9.eq_1 := rfl
def C135_10 : ACode := .seq (.reg L135_29) C135_9
theorem u135_10 : VC C135_10.eq_1 := rfl
def C135_11 : ACode := .cond (.t 61) (.reg L135_36) .skip
theorem u135_11 : VC C135_11.eq_1 := rfl
def C135_12 : ACode := .seq (.reg L135_35) C135_11
theorem u135_12 : VC C135_12.eq_1 := rfl
def C135_13 : ACode := .seq (.reg L135_34) C135_12
theorem u135_13 : VC C135_13.eq_1 := rfl
def C135_14 : ACode := .seq C135_10 C135_13
theorem u135_14 : VC C135_14.eq_1 := rfl
def C135_15 : ACode := .seq C135_8 C135_14
theorem u135_15 : VC C135_15.eq_1 := rfl
def C135_16 : ACode := .seq (.reg L135_20) C135_15
theorem u135_16 : VC C135_16.eq_1 := rfl
def C135_17 : ACode := .seq C135_5 C135_16
theorem u135_17 : VC C135_17.eq_1 := rfl
def C135_18 : ACode := .block 1 C135_17
theorem u135_18 : VC C135_18.eq_1 := rfl
def C135_19 : ACode := .seq C135_18 (.reg L135_38)
theorem u135_19 : VC C135_19.eq_1 := rfl
def C135_20 : ACode := .seq C135_3 C135_19
theorem u135_20 : VC C135_20.eq_1 := rfl
def C135_21 : ACode := .block 0 (.loop C135_20)
theorem u135_21 : VC C135_21.eq_1 := rfl
def C135_22 : ACode := .seq (.reg L135_7) C135_21
theorem u135_22 : VC C135_22.eq_1 := rfl
def C135_23 : ACode := .seq (.reg L135_40) .ret
theorem u135_23 : VC C135_23.eq_1 := rfl
def C135_24 : ACode := .seq C135_22 C135_23
theorem u135_24 : VC C135_24.eq_1 := rfl
def C135_25 : ACode := .seq C135_1 C135_24
theorem u135_25 : VC C135_25.eq_1 := rfl
def C135_26 : ACode := .seq (.reg L135_2) C135_25
theorem u135_26 : VC C135_26.eq_1 := rfl
def C135_27 : ACode := .seq (.reg L135_1) C135_26
theorem u135_27 : VC C135_27.eq_1 := rfl
def C135_28 : ACode := .seq (.reg L135_0) C135_27
theorem u135_28 : VC C135_28.eq_1 := rfl
def F135 : AFunc := ⟨65, [.cell 2 1 true], C135_28⟩
theorem cF135 : compB Try.prog 135 = some F135 := by kernel_rfl
attribute [local go_sem ↓] u135_0 u135_1 u135_2 u135_3 u135_4 u135_5 u135_6 u135_7 u135_8 u135_9 u135_10 u135_11 u135_12 u135_15 u135_17 u135_18 u135_19 u135_20 u135_21 u135_22 u135_23 u135_25 u135_26 u135_27 u135_28 v135_0 v135_1 v135_2 v135_3 v135_4 v135_5 v135_6 v135_7 v135_8 v135_9 v135_10 v135_11 v135_12 v135_13 v135_14 v135_15 v135_16 v135_17 v135_18 v135_19 v135_20 v135_21 v135_22 v135_23 v135_24 v135_25 v135_26 v135_27 v135_28 v135_29 v135_30 v135_31 v135_32 v135_33 v135_34 v135_35 v135_36 v135_37 v135_38 v135_39 v135_40
theorem c_goodSignature (b : Nat) (p : Int) (h : H) (r : Rd h b p) (hp : p ≤ 2 ^ 38) : callK (bm Try.prog 135 [.one (.ptr (some (b, 0)))] h) fun q h' => (∃ x l, q = .agg [x] ∧ NwQ h h' (.one x) l ∧ tinyQ l) ∧ Drew b p 42 h h' := by
  refine bm_of cF135 ?_
  have hbn := r.lt
  simp +contextual (maxSteps := 2000000) only [go_sem, Nat.reduceEqDiff, reduceCtorEq, Nat.reduceAdd, Nat.reduceLeDiff, F135]
  refine wp_lit (enc := encQ) (k := 4) (l := []) rfl rfl ?_
  intro h1 w1 g1 n1 b1
  simp +contextual (maxSteps := 2000000) only [go_sem, Nat.reduceEqDiff, reduceCtorEq, Nat.reduceAdd, Nat.reduceLeDiff]
  refine wp_call (c_pick b 2 p h1 (r.grow g1) (by omega)) ?_
  rintro q h2 ⟨⟨k, rfl, k0, k1⟩, d2⟩
  have n2 := n1.drew d2 hbn
  have d2 := d2.pre g1
  apply joinC (P := Try.prog) (c := C135_24) (M := fun T L h' => h' = h2 ∧ T 0 = .v (.one (.ptr (some (b, 0)))) ∧ T 2 = .lp 2 0 ∧ (L 2).2 = [.sl none 0 (some 0)] ∧ T 3 = .v w1 ∧ ∃ kd : Int, T 4 = .v (.one (.int .i64 kd)) ∧ 0 ≤ kd ∧ kd ≤ 4)
  · intro J
    by_cases e : k = 0
    · simp +contextual (maxSteps := 2000000) only [go_sem, Nat.reduceEqDiff, reduceCtorEq, Nat.reduceAdd, Nat.reduceLeDiff, decide_eq_true e]
      refine J _ _ _ ?_
      simp +contextual (maxSteps := 2000000) only [go_sem, Nat.reduceEqDiff, reduceCtorEq, Nat.reduceAdd, Nat.reduceLeDiff]
      exact ⟨1, rfl, by omega, by omega⟩
    · simp +contextual (maxSteps := 2000000) only [go_sem, Nat.reduceEqDiff, reduceCtorEq, Nat.reduceAdd, Nat.reduceLeDiff, decide_eq_false e]
      refine J _ _ _ ?_
      simp +contextual (maxSteps := 2000000) only [go_sem, Nat.reduceEqDiff, reduceCtorEq, Nat.reduceAdd, Nat.reduceLeDiff]
      exact ⟨0, rfl, by omega, by omega⟩
  · rintro T L h' ⟨rfl, t0, t2, l2, t3, kd, t4, kd0, kd4⟩
    obtain ⟨p2, hp1, hp2, r2⟩ := d2.ex
    simp +contextual (maxSteps := 2000000) only [go_sem, Nat.reduceEqDiff, reduceCtorEq, Nat.reduceAdd, Nat.reduceLeDiff, ↓u135_24, t0, t2, l2, t3, t4]
    refine wp_lit (enc := encI) (k := 1) (l := [3, 4, 2, 5, 1, 0, 6, 8]) rfl rfl ?_
    intro h3 w3 g3 n3 b3
    simp +contextual (maxSteps := 2000000) only [go_sem, Nat.reduceEqDiff, reduceCtorEq, Nat.reduceAdd, Nat.reduceLeDiff, t0, t2, l2, t3, t4]
    refine wp_call (c_one b p2 _ w3 h3 (r2.grow g3) (by omega) (n3.sl lenI) (fun i hi => Nat.lt_of_lt_of_le r2.lt (b3 i hi)) (by decide) (by decide)) ?_
    rintro q h4 ⟨⟨m, hm, rfl⟩, d4⟩
    have hm8 : 0 ≤ m ∧ m ≤ 8 := by simp at hm; omega
    obtain ⟨m, rfl⟩ := Int.eq_ofNat_of_zero_le hm8.1
    have n4 := (n2.grow g3).drew d4 hbn
    have d4 := (d4.pre g3).then d2.st (by omega) hp2
    simp +contextual (maxSteps := 2000000) only [go_sem, Nat.reduceEqDiff, reduceCtorEq, Nat.reduceAdd, Nat.reduceLeDiff, t0, t2, l2, t3, t4]
    refine wpC_loop (fun k T L h' => T 0 = .v (.one (.ptr (some (b, 0)))) ∧ T 2 = .lp 2 0 ∧ (L 2).2 = [.sl none 0 (some 0)] ∧ (∃ s l, T 3 = .v s ∧ NwQ h h' s l ∧ l.length ≤ k ∧ ∀ x ∈ l, x.name.size ≤ 10) ∧ (∃ kd : Int, T 4 = .v (.one (.int .i64 kd)) ∧ 0 ≤ kd ∧ kd ≤ 4) ∧ T 5 = .v (.one (.int .i64 ((m - k : Nat) : Int))) ∧ Drew b p (2 + 5 * k) h h') m ?_ ?_ (Nat.zero_le _) ?_
    · rintro k T L h' hk ⟨t0, t2, l2, ⟨s, l, t3, ns, hl1, hl2⟩, ⟨kd, t4, kd0, kd4⟩, t5, d⟩
      obtain ⟨j, hj⟩ : ∃ j, m - k = j + 1 := ⟨m - k - 1, by omega⟩
      rw [hj] at t5
      have a3 : decide (((j + 1 : Nat) : Int) > 0) = true := decide_eq_true (by omega)
      obtain ⟨p', hq1, hq2, r'⟩ := d.ex
      simp +contextual (maxSteps := 2000000) only [go_sem, Nat.reduceEqDiff, reduceCtorEq, Nat.reduceAdd, Nat.reduceLeDiff, t0, t2, l2, t3, t4, t5, a3]
      refine wp_call (c_pick b 3 p' h' r' (by omega)) ?_
      rintro q h5 ⟨⟨e, rfl, e0, e1⟩, d5⟩
      obtain ⟨p5, hs1, hs2, r5⟩ := d5.ex
      have ns5 := ns.drew d5 hbn
      have d5 := d5.then d.st (by omega) hq2
      apply joinC (P := Try.prog) (c := C135_16) (M := fun T L h' => T 0 = .v (.one (.ptr (some (b, 0)))) ∧ T 2 = .lp 2 0 ∧ (L 2).2 = [.sl none 0 (some 0)] ∧ T 3 = .v s ∧ NwQ h h' s l ∧ (∃ kd : Int, T 4 = .v (.one (.int .i64 kd)) ∧ 0 ≤ kd ∧ kd ≤ 4) ∧ T 5 = .v (.one (.int .i64 ((j + 1 : Nat) : Int))) ∧ Drew b p (2 + 5 * k + 2) h h')
      · intro J
        by_cases ee : e = 0
        · by_cases ek : kd < 4
          · simp +contextual (maxSteps := 2000000) only [go_sem, Nat.reduceEqDiff, reduceCtorEq, Nat.reduceAdd, Nat.reduceLeDiff, t0, t2, l2, t3, t4, t5, decide_eq_true ee, decide_eq_true ek]
            have v1 : IntKind.i64.wrap (kd + 1) = kd + 1 := i64_wrap (by omega) (by omega)
            have v2 : IntKind.i64.wrap (4 - kd) = 4 - kd := i64_wrap (by omega) (by omega)
            rw [v2]
            refine wp_call (c_pick b (4 - kd) p5 h5 r5 (by omega)) ?_
            rintro q h6 ⟨⟨e6, rfl, e60, e61⟩, d6⟩
            have ns6 := ns5.drew d6 hbn
            have d6 := d6.then d5.st (by omega) (show p5 ≤ p + ((2 + 5 * k + 1 : Nat) : Int) by omega)
            simp +contextual (maxSteps := 2000000) only [go_sem, Nat.reduceEqDiff, reduceCtorEq, Nat.reduceAdd, Nat.reduceLeDiff, t0, t2, l2, t3, t4, t5]
            refine J _ _ _ ?_
            simp +contextual (maxSteps := 2000000) only [go_sem, Nat.reduceEqDiff, reduceCtorEq, Nat.reduceAdd, Nat.reduceLeDiff, t0, t2, l2, t3, t4, t5]
            refine ⟨ns6, ⟨_, rfl, ?_⟩, d6⟩
            rw [v1, i64_wrap (by omega) (by omega)]
            omega
          · simp +contextual (maxSteps := 2000000) only [go_sem, Nat.reduceEqDiff, reduceCtorEq, Nat.reduceAdd, Nat.reduceLeDiff, t0, t2, l2, t3, t4, t5, decide_eq_true ee, decide_eq_false ek]
            refine J _ _ _ ?_
            simp +contextual (maxSteps := 2000000) only [go_sem, Nat.reduceEqDiff, reduceCtorEq, Nat.reduceAdd, Nat.reduceLeDiff, t0, t2, l2, t3, t4, t5]
            exact ⟨ns5, ⟨_, rfl, kd0, kd4⟩, d5.more (by omega)⟩
        · simp +contextual (maxSteps := 2000000) only [go_sem, Nat.reduceEqDiff, reduceCtorEq, Nat.reduceAdd, Nat.reduceLeDiff, t0, t2, l2, t3, t4, t5, decide_eq_false ee]
          refine J _ _ _ ?_
          simp +contextual (maxSteps := 2000000) only [go_sem, Nat.reduceEqDiff, reduceCtorEq, Nat.reduceAdd, Nat.reduceLeDiff, t0, t2, l2, t3, t4, t5]
          exact ⟨ns5, ⟨_, rfl, kd0, kd4⟩, d5.more (by omega)⟩
      · clear d5 ns5 r5 hs1 hs2 hq1 hq2 r' d ns
        rintro T L h' ⟨t0, t2, l2, t3, ns, ⟨kd, t4, kd0, kd4⟩, t5, d⟩
        obtain ⟨p', hq1, hq2, r'⟩ := d.ex
        simp +contextual (maxSteps := 2000000) only [go_sem, Nat.reduceEqDiff, reduceCtorEq, Nat.reduceAdd, Nat.reduceLeDiff, ↓u135_16, t0, t2, l2, t3, t4, t5]
        refine wp_lit (enc := encS) (k := 1) (l := [strOfNums [97], strOfNums [98], strOfNums [99], strOfNums [100], strOfNums [120], strOfNums [121], strOfNums [112], strOfNums [113], strOfNums [97, 114, 103, 115], strOfNums [107, 119]]) rfl rfl ?_
        intro h5 w5 g5 n5 b5
        simp +contextual (maxSteps := 2000000) only [go_sem, Nat.reduceEqDiff, reduceCtorEq, Nat.reduceAdd, Nat.reduceLeDiff, t0, t2, l2, t3, t4, t5]
        refine wp_call (c_of b p' _ w5 h5 (r'.grow g5) (by omega) (n5.sl lenS) (fun i hi => Nat.lt_of_lt_of_le r'.lt (b5 i hi)) (by decide) (by decide)) ?_
        rintro q h6 ⟨⟨nm, hnm, rfl⟩, d6⟩
        have hnm : nm.size ≤ 10 := by
          simp only [List.mem_cons, List.not_mem_nil, or_false] at hnm
          rcases hnm with rfl | rfl | rfl | rfl | rfl | rfl | rfl | rfl | rfl | rfl <;> exact Nat.le_of_ble_eq_true rfl
        have ns6 := (ns.grow g5).drew d6 hbn
        obtain ⟨p6, hs1, hs2, r6⟩ := d6.ex
        have d6 := (d6.pre g5).then d.st (by omega) hq2
        simp +contextual (maxSteps := 2000000) only [go_sem, Nat.reduceEqDiff, reduceCtorEq, Nat.reduceAdd, Nat.reduceLeDiff, t0, t2, l2, t3, t4, t5]
        refine wp_call (c_pick b 3 p6 h6 r6 (by omega)) ?_
        rintro q h7 ⟨⟨e, rfl, e0, e1⟩, d7⟩
        have ns7 := ns6.drew d7 hbn
        obtain ⟨p7, hu1, hu2, r7⟩ := d7.ex
        have d7 := d7.then d6.st (by omega) (show p6 ≤ p + ((2 + 5 * k + 2 + 1 : Nat) : Int) by omega)
        have es : ∀ h0 : H, bm Try.prog 159 [.agg [.str nm, .int .i64 kd, .bool false, .int .i64 0]] h0 = some (ib (single ⟨nm, kd, false, 0⟩), h0) := fun h0 => c_isSingle ⟨nm, kd, false, 0⟩ h0
        apply joinC (P := Try.prog) (c := C135_14) (M := fun T L h' => T 0 = .v (.one (.ptr (some (b, 0)))) ∧ T 2 = .lp 2 0 ∧ (L 2).2 = [.sl none 0 (some 0)] ∧ T 3 = .v s ∧ NwQ h h' s l ∧ T 4 = .v (.one (.int .i64 kd)) ∧ T 5 = .v (.one (.int .i64 ((j + 1 : Nat) : Int))) ∧ T 6 = .lp 6 0 ∧ (∃ x : Param, (L 6).2 = encQ x ∧ x.name.size ≤ 10) ∧ Drew b p (2 + 5 * k + 5) h h')
        · intro J
          by_cases ee : e = 0
          · cases sg : single ⟨nm, kd, false, 0⟩ with
            | false =>
              simp +contextual (maxSteps := 2000000) only [go_sem, Nat.reduceEqDiff, reduceCtorEq, Nat.reduceAdd, Nat.reduceLeDiff, t0, t2, l2, t3, t4, t5, decide_eq_true ee, es, sg]
              refine J _ _ _ ?_
              simp +contextual (maxSteps := 2000000) only [go_sem, Nat.reduceEqDiff, reduceCtorEq, Nat.reduceAdd, Nat.reduceLeDiff, t0, t2, l2, t3, t4, t5]
              exact ⟨ns7, ⟨⟨nm, kd, false, 0⟩, rfl, hnm⟩, d7.more (by omega)⟩
            | true =>
              simp +contextual (maxSteps := 2000000) only [go_sem, Nat.reduceEqDiff, reduceCtorEq, Nat.reduceAdd, Nat.reduceLeDiff, t0, t2, l2, t3, t4, t5, decide_eq_true ee, es, sg]
              refine wp_call (c_aNumber b p7 h7 r7 (by omega)) ?_
              rintro q h8 ⟨⟨n, rfl⟩, d8⟩
              have ns8 := ns7.drew d8 hbn
              have d8 := d8.then d7.st (by omega) (show p7 ≤ p + ((2 + 5 * k + 2 + 1 + 1 : Nat) : Int) by omega)
              simp +contextual (maxSteps := 2000000) only [go_sem, Nat.reduceEqDiff, reduceCtorEq, Nat.reduceAdd, Nat.reduceLeDiff, t0, t2, l2, t3, t4, t5]
              refine J _ _ _ ?_
              simp +contextual (maxSteps := 2000000) only [go_sem, Nat.reduceEqDiff, reduceCtorEq, Nat.reduceAdd, Nat.reduceLeDiff, t0, t2, l2, t3, t4, t5]
              exact ⟨ns8, ⟨⟨nm, kd, true, n⟩, rfl, hnm⟩, d8⟩
          · simp +contextual (maxSteps := 2000000) only [go_sem, Nat.reduceEqDiff, reduceCtorEq, Nat.reduceAdd, Nat.reduceLeDiff, t0, t2, l2, t3, t4, t5, decide_eq_false ee]
            refine J _ _ _ ?_
            simp +contextual (maxSteps := 2000000) only [go_sem, Nat.reduceEqDiff, reduceCtorEq, Nat.reduceAdd, Nat.reduceLeDiff, t0, t2, l2, t3, t4, t5]
            exact ⟨ns7, ⟨⟨nm, kd, false, 0⟩, rfl, hnm⟩, d7.more (by omega)⟩
        · clear d7 d6 d ns7 ns6 ns r7 r6 hu1 hu2 hs1 hs2 hq1 hq2 r' es
          rintro T L h' ⟨t0, t2, l2, t3, ns, t4, t5, t6, ⟨x, l6, hx⟩, d⟩
          apply joinC (P := Try.prog) (c := C135_13) (M := fun T L h2 => h2 = h' ∧ T 0 = .v (.one (.ptr (some (b, 0)))) ∧ T 2 = .lp 2 0 ∧ (L 2).2 = [.sl none 0 (some 0)] ∧ T 3 = .v s ∧ (∃ kd : Int, T 4 = .v (.one (.int .i64 kd)) ∧ 0 ≤ kd ∧ kd ≤ 4) ∧ T 5 = .v (.one (.int .i64 ((j + 1 : Nat) : Int))) ∧ T 6 = .lp 6 0 ∧ (L 6).2 = encQ x)
          · intro J
            have es := c_isSingle x h'
            have v1 : IntKind.i64.wrap (kd + 1) = kd + 1 := i64_wrap (by omega) (by omega)
            cases sg : single x with
            | true =>
              simp +contextual (maxSteps := 2000000) only [go_sem, Nat.reduceEqDiff, reduceCtorEq, Nat.reduceAdd, Nat.reduceLeDiff, ↓u135_14, t0, t2, l2, t3, t4, t5, t6, l6, es, sg]
              refine J _ _ _ ?_
              simp +contextual (maxSteps := 2000000) only [go_sem, Nat.reduceEqDiff, reduceCtorEq, Nat.reduceAdd, Nat.reduceLeDiff, t0, t2, l2, t3, t4, t5, t6, l6]
              exact ⟨_, rfl, kd0, kd4⟩
            | false =>
              simp +contextual (maxSteps := 2000000) only [go_sem, Nat.reduceEqDiff, reduceCtorEq, Nat.reduceAdd, Nat.reduceLeDiff, ↓u135_14, t0, t2, l2, t3, t4, t5, t6, l6, es, sg, v1]
              refine J _ _ _ ?_
              simp +contextual (maxSteps := 2000000) only [go_sem, Nat.reduceEqDiff, reduceCtorEq, Nat.reduceAdd, Nat.reduceLeDiff, t0, t2, l2, t3, t4, t5, t6, l6]
              refine ⟨_, rfl, ?_⟩
              split <;> omega
          · clear t0 t2 l2 t3 t4 t5 t6 l6
            rintro T L h2 ⟨rfl, t0, t2, l2, t3, ⟨kd, t4, kd0, kd4⟩, t5, t6, l6⟩
            simp +contextual (maxSteps := 2000000) only [go_sem, Nat.reduceEqDiff, reduceCtorEq, Nat.reduceAdd, Nat.reduceLeDiff, ↓u135_13, t0, t2, l2, t3, t4, t5, t6, l6]
            refine wp_lit (enc := encQ) (k := 4) (l := [x]) rfl rfl ?_
            intro h3 w3 g3 n3 b3
            have ns3 := ns.grow g3
            simp +contextual (maxSteps := 2000000) only [go_sem, Nat.reduceEqDiff, reduceCtorEq, Nat.reduceAdd, Nat.reduceLeDiff, t0, t2, l2, t3, t4, t5, t6, l6]
            refine wp_call (c_copyParams l s h3 (ns3.sl lenQ) (by unfold big; omega)) ?_
            rintro q h5 ⟨g5, n5⟩
            simp +contextual (maxSteps := 2000000) only [go_sem, Nat.reduceEqDiff, reduceCtorEq, Nat.reduceAdd, Nat.reduceLeDiff, t0, t2, l2, t3, t4, t5, t6, l6]
            refine wp_append lenQ n5 ((n3.sl lenQ).grow g5) g5 (by simp; omega) ?_
            intro h6 s6 g6 n6 st6 hb6
            have g26 := g3.trans g6
            have d6 := d.grow g26
            have ns6 := ns.grow g26
            have n6' := n6.from (Nat.le_trans d.st.n g3.n)
            have hs6 : smQ (l ++ [x]) := ⟨by simp; unfold big; omega, fun y hy => by
              rcases List.mem_append.1 hy with hy | hy
              · exact Nat.le_trans (hl2 y hy) (by decide)
              · rw [List.mem_singleton.1 hy]; exact Nat.le_trans hx (by decide)⟩
            have ev := c_validParams (l ++ [x]) s6 h6 (n6.sl lenQ) hs6
            have ej : m - (k + 1) = j := by omega
            cases eo : okSig (l ++ [x]) with
            | true =>
              simp +contextual (maxSteps := 2000000) only [go_sem, Nat.reduceEqDiff, reduceCtorEq, Nat.reduceAdd, Nat.reduceLeDiff, t0, t2, l2, t3, t4, t5, t6, l6, ev, eo, wrap_pred (show j < 2 ^ 62 by omega)]
              refine ⟨⟨s6, l ++ [x], rfl, n6', by simp; omega, fun y hy => ?_⟩, ⟨_, rfl, kd0, kd4⟩, by rw [ej], d6.more (by omega)⟩
              rcases List.mem_append.1 hy with hy | hy
              · exact hl2 y hy
              · rw [List.mem_singleton.1 hy]; exact hx
            | false =>
              simp +contextual (maxSteps := 2000000) only [go_sem, Nat.reduceEqDiff, reduceCtorEq, Nat.reduceAdd, Nat.reduceLeDiff, t0, t2, l2, t3, t4, t5, t6, l6, ev, eo, wrap_pred (show j < 2 ^ 62 by omega)]
              exact ⟨⟨s, l, rfl, ns6, by omega, hl2⟩, ⟨_, rfl, kd0, kd4⟩, by rw [ej], d6.more (by omega)⟩
    · rintro T L h' ⟨t0, t2, l2, ⟨s, l, t3, ns, hl1, hl2⟩, ⟨kd, t4, kd0, kd4⟩, t5, d⟩
      rw [Nat.sub_self] at t5
      have hz : decide (((0 : Nat) : Int) > 0) = false := rfl
      obtain ⟨c, rfl⟩ := ns.one
      have d := d.more (show 2 + 5 * m ≤ 42 by omega)
      simp +contextual (maxSteps := 2000000) only [go_sem, Nat.reduceEqDiff, reduceCtorEq, Nat.reduceAdd, Nat.reduceLeDiff, t0, t2, l2, t3, t4, t5, hz]
      exact gcK_drew r d ⟨⟨c, l, rfl, ns, ⟨by omega, hl2⟩⟩, d⟩
    · simp +contextual (maxSteps := 2000000) only [go_sem, Nat.reduceEqDiff, reduceCtorEq, Nat.reduceAdd, Nat.reduceLeDiff, t0, t2, l2, t3, t4]
      exact ⟨⟨w1, [], rfl, n4, Nat.le_refl 0, fun x hx => by simp at hx⟩, ⟨kd, rfl, kd0, kd4⟩, rfl, d4⟩
end Go.Proofs.Ytekkimfdcbgcoaa.Am
