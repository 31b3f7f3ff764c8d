/- Contracts: signatures that are drawn. -/
import Derived.Test.YtekkimfdcbgcoabDG
import Derived.Test.YtekkimfdcbgcoabA2
namespace Go.Proofs.Ytekkimfdcbgcoab.Am
open Go
set_option maxRecDepth 100000
set_option maxHeartbeats 4000000
set_option linter.unusedSimpArgs false
set_option linter.unusedVariables false
attribute [local go_sem ↓] bv_t bv_c ev_t ev_c put_same put_ne put_none kill_at pro_at lb_same lb_ne start_zero start_succ wpC_seq wpC_reg wpC_cond wpC_block wpC_skip wpC_exit wpC_ret thenQ_normal thenQ_exit thenQ_ret inBlk_normal inBlk_exit inBlk_ret wpS_nil wpS_step wpS_again wpS_guard wpO_mov wpO_load wpO_faddr wpO_nilCheck wpO_pick wpO_build wpO_bin wpO_eqb wpO_eqst wpO_eqnil wpO_not wpO_conv wpO_bytesStr wpO_iaddr wpO_idxStr wpO_field wpO_extract wpO_len wpO_lenStr wpO_cap wpO_min wpO_slice wpO_sliceStr wpO_alloc wpO_box wpO_store wpO_call wpO_callv wpO_mkfn wpO_buildSlice wpO_mkslice wpO_append wpO_appz proA_nil proA_cons tmpX_nil tmpX_tmp tmpX_cell doneB_normal doneB_ret agK_cons agK_nil agK_guard agG_tt agG_ff agG_tf agG_ft agG_undef pureB_load results_one results_two results_nil resBs_cons resBs_nil resB_tmp resB_cell
attribute [local go_sem] kill_v kill_lp_ne kill_lp_same pro_v pro_lp_same pro_lp_ne av_v av_lp optB_some optX_some valX_eq ldX_lp ldX_v faX_lp faX_v ncX_lp ncX_ptr ncX_fn boxK_one boxK_agg stL_some stK_lp_one stK_lp_agg stK_v_one stK_v_agg proM_v proM_lp callG_mk callVG_mk callvK_fn fnG_mk ptrsA_nil ptrsA_cons callH_some whenA_true whenA_false guardH_tt guardH_ff guardH_tf guardH_ft guardH_undef agV_one agV_agg lenO_sl lenStrO_str notO_bool pickO_bool convO_int eqbO_bool eqnilO_sl extractO_tup capO_sl minO_int loadL_one loadL_all storeL_eq fillA_nil fillA_one fillA_agg nat_ge neg_ge nat_lt neg_lt buildO bin_add bin_sub bin_mul bin_eql bin_neq bin_lss bin_leq bin_gtr bin_geq str_eql str_neq str_lss str_leq str_gtr str_geq retK_some endK_mk gcK_same gcK_int gcK_bool tupO_one tupO_agg rdy_self ib ii Option.map_none Option.map_some Option.some.injEq exists_eq_left' exists_eq_left ne_eq not_false_eq_true if_true if_false List.map_cons List.map_nil List.getElem?_cons_zero List.getElem?_cons_succ List.length_cons List.length_nil List.take_succ_cons List.take_zero List.take_nil List.drop_succ_cons List.drop_zero List.drop_nil List.cons_append List.nil_append List.append_nil List.set_cons_zero List.set_cons_succ Nat.zero_add forall_const true_and and_true and_self Bool.false_eq_true false_implies true_implies implies_true Bool.not_true Bool.not_false Bool.not_eq_true' Bool.not_eq_false' beq_self_eq_true Bool.bne_true Bool.bne_false
attribute [local go_sem] lenI lenS lenP lenQ lenB lenL lenT encI_0 encS_0 encP_0 encP_1 encQ_0 encQ_1 encQ_2 encQ_3 encB_0 encB_1 encL_0 encL_1 encT_0 encT_1
attribute [local go_sem low] whenA_bool guardH_bool
/-- Ways that meet again at c. -/
theorem joinC {P : Program} {c : ACode} {Q : PostC} {G : Prop} (M : Post) (main : (∀ T L h, M T L h → wpC P c T L (rdy h) Q) → G) (join : ∀ T L h, M T L h → wpC P c T L (rdy h) Q) : G := main join
structure tinyQ (l : List Param) : Prop where
  len : l.length ≤ 10
  nm : ∀ x ∈ l, x.name.size ≤ 10
theorem tinyQ.mini {l : List Param} (t : tinyQ l) : miniG l := ⟨Nat.le_trans t.len (by decide), fun x hx => Nat.le_trans (t.nm x hx) (by decide)⟩
/-! spec.goodSignature -/
def L106_0 : List AStep := [⟨.alloc 25 [(.sl none 0 (some 0))], (some 2), none, []⟩]
theorem v106_0 : VS L106_0.eq_1 := rfl
def L106_1 : List AStep := [⟨.buildSlice 39 0 [(.str (strOfNums [])), (.int .i64 0), (.bool false), (.int .i64 0)] [], (some 8), none, []⟩, ⟨.mov (.t 8), (some 3), none, []⟩]
theorem v106_1 : VS L106_1.eq_1 := rfl
def L106_2 : List AStep := [⟨.mov (.c (.int .i64 0)), (some 4), none, []⟩]
theorem v106_2 : VS L106_2.eq_1 := rfl
def L106_3 : List AStep := [⟨.bin .eql (.t 10) (.c (.int .i64 0)), (some 11), none, []⟩]
theorem v106_3 : VS L106_3.eq_1 := rfl
def L106_4 : List AStep := ⟨.mov (.t 0), (some 9), none, []⟩ :: ⟨.call 69 [(.t 9), (.c (.int .i64 2))], (some 10), none, []⟩ :: L106_3
theorem v106_4 : VS L106_4.eq_1 := rfl
def L106_5 : List AStep := [⟨.mov (.c (.int .i64 1)), (some 4), none, []⟩]
theorem v106_5 : VS L106_5.eq_1 := rfl
def L106_6 : List AStep := [⟨.call 108 [(.t 12), (.t 13)], (some 14), none, []⟩, ⟨.mov (.t 14), (some 5), none, []⟩]
theorem v106_6 : VS L106_6.eq_1 := rfl
def L106_7 : List AStep := ⟨.mov (.t 0), (some 12), none, []⟩ :: ⟨.buildSlice 3 8 [(.int .i64 0)] [(0, 1, (.c (.int .i64 3))), (1, 1, (.c (.int .i64 4))), (2, 1, (.c (.int .i64 2))), (3, 1, (.c (.int .i64 5))), (4, 1, (.c (.int .i64 1))), (5, 1, (.c (.int .i64 0))), (6, 1, (.c (.int .i64 6))), (7, 1, (.c (.int .i64 8)))], (some 13), none, []⟩ :: L106_6
theorem v106_7 : VS L106_7.eq_1 := rfl
def L106_8 : List AStep := [⟨.mov (.t 5), (some 15), none, []⟩, ⟨.bin .gtr (.t 15) (.c (.int .i64 0)), (some 16), none, []⟩]
theorem v106_8 : VS L106_8.eq_1 := rfl
def L106_9 : List AStep := [⟨.pick (.t 22) (.t 24) (.c (.bool false)), (some 25), none, []⟩]
theorem v106_9 : VS L106_9.eq_1 := rfl
def L106_10 : List AStep := ⟨.mov (.t 4), (some 23), (some (22, true)), []⟩ :: ⟨.bin .lss (.t 23) (.c (.int .i64 4)), (some 24), (some (22, true)), []⟩ :: L106_9
theorem v106_10 : VS L106_10.eq_1 := rfl
def L106_11 : List AStep := ⟨.bin .eql (.t 20) (.c (.int .i64 0)), (some 21), none, []⟩ :: ⟨.mov (.t 21), (some 22), none, []⟩ :: L106_10
theorem v106_11 : VS L106_11.eq_1 := rfl
def L106_12 : List AStep := ⟨.mov (.t 0), (some 19), none, []⟩ :: ⟨.call 69 [(.t 19), (.c (.int .i64 3))], (some 20), none, []⟩ :: L106_11
theorem v106_12 : VS L106_12.eq_1 := rfl
def L106_13 : List AStep := [⟨.bin .add (.t 27) (.t 31), (some 32), none, []⟩, ⟨.mov (.t 32), (some 4), none, []⟩]
theorem v106_13 : VS L106_13.eq_1 := rfl
def L106_14 : List AStep := ⟨.bin .sub (.c (.int .i64 4)) (.t 29), (some 30), none, []⟩ :: ⟨.call 69 [(.t 28), (.t 30)], (some 31), none, []⟩ :: L106_13
theorem v106_14 : VS L106_14.eq_1 := rfl
def L106_15 : List AStep := ⟨.mov (.t 0), (some 28), none, []⟩ :: ⟨.mov (.t 4), (some 29), none, []⟩ :: L106_14
theorem v106_15 : VS L106_15.eq_1 := rfl
def L106_16 : List AStep := ⟨.mov (.t 4), (some 26), none, []⟩ :: ⟨.bin .add (.t 26) (.c (.int .i64 1)), (some 27), none, []⟩ :: L106_15
theorem v106_16 : VS L106_16.eq_1 := rfl
def L106_17 : List AStep := [⟨.store 4 (.t 6) (.t 37), none, none, []⟩]
theorem v106_17 : VS L106_17.eq_1 := rfl
def L106_18 : List AStep := ⟨.build [(.str (strOfNums [])), (.int .i64 0), (.bool false), (.int .i64 0)] [(0, 1, (.t 35)), (1, 1, (.t 36))], (some 37), none, []⟩ :: ⟨.alloc 39 [(.str (strOfNums [])), (.int .i64 0), (.bool false), (.int .i64 0)], (some 6), none, []⟩ :: L106_17
theorem v106_18 : VS L106_18.eq_1 := rfl
def L106_19 : List AStep := ⟨.call 129 [(.t 33), (.t 34)], (some 35), none, []⟩ :: ⟨.mov (.t 4), (some 36), none, []⟩ :: L106_18
theorem v106_19 : VS L106_19.eq_1 := rfl
def L106_20 : List AStep := ⟨.mov (.t 0), (some 33), none, []⟩ :: ⟨.buildSlice 9 10 [(.str (strOfNums []))] [(0, 1, (.c (.str (strOfNums [97])))), (1, 1, (.c (.str (strOfNums [98])))), (2, 1, (.c (.str (strOfNums [99])))), (3, 1, (.c (.str (strOfNums [100])))), (4, 1, (.c (.str (strOfNums [120])))), (5, 1, (.c (.str (strOfNums [121])))), (6, 1, (.c (.str (strOfNums [112])))), (7, 1, (.c (.str (strOfNums [113])))), (8, 1, (.c (.str (strOfNums [97, 114, 103, 115])))), (9, 1, (.c (.str (strOfNums [107, 119]))))], (some 34), none, []⟩ :: L106_19
theorem v106_20 : VS L106_20.eq_1 := rfl
def L106_21 : List AStep := [⟨.pick (.t 41) (.t 43) (.c (.bool false)), (some 44), none, []⟩]
theorem v106_21 : VS L106_21.eq_1 := rfl
def L106_22 : List AStep := ⟨.load 4 true (.t 6), (some 42), (some (41, true)), []⟩ :: ⟨.call 135 [(.t 42)], (some 43), (some (41, true)), []⟩ :: L106_21
theorem v106_22 : VS L106_22.eq_1 := rfl
def L106_23 : List AStep := ⟨.bin .eql (.t 39) (.c (.int .i64 0)), (some 40), none, []⟩ :: ⟨.mov (.t 40), (some 41), none, []⟩ :: L106_22
theorem v106_23 : VS L106_23.eq_1 := rfl
def L106_24 : List AStep := ⟨.mov (.t 0), (some 38), none, []⟩ :: ⟨.call 69 [(.t 38), (.c (.int .i64 3))], (some 39), none, []⟩ :: L106_23
theorem v106_24 : VS L106_24.eq_1 := rfl
def L106_25 : List AStep := [⟨.faddr 2 (.t 6), (some 45), none, []⟩, ⟨.store 1 (.t 45) (.c (.bool true)), none, none, []⟩]
theorem v106_25 : VS L106_25.eq_1 := rfl
def L106_26 : List AStep := [⟨.faddr 3 (.t 6), (some 48), none, []⟩, ⟨.store 1 (.t 48) (.t 47), none, none, []⟩]
theorem v106_26 : VS L106_26.eq_1 := rfl
def L106_27 : List AStep := ⟨.mov (.t 0), (some 46), none, []⟩ :: ⟨.call 89 [(.t 46)], (some 47), none, []⟩ :: L106_26
theorem v106_27 : VS L106_27.eq_1 := rfl
def L106_28 : List AStep := [⟨.not (.t 50), (some 51), none, []⟩]
theorem v106_28 : VS L106_28.eq_1 := rfl
def L106_29 : List AStep := ⟨.load 4 true (.t 6), (some 49), none, []⟩ :: ⟨.call 135 [(.t 49)], (some 50), none, []⟩ :: L106_28
theorem v106_29 : VS L106_29.eq_1 := rfl
def L106_30 : List AStep := [⟨.min (.t 53) (.c (.int .i64 4)), (some 54), none, []⟩, ⟨.mov (.t 54), (some 4), none, []⟩]
theorem v106_30 : VS L106_30.eq_1 := rfl
def L106_31 : List AStep := ⟨.mov (.t 4), (some 52), none, []⟩ :: ⟨.bin .add (.t 52) (.c (.int .i64 1)), (some 53), none, []⟩ :: L106_30
theorem v106_31 : VS L106_31.eq_1 := rfl
def L106_32 : List AStep := [⟨.append 39 4 40 (.t 56) (.t 58), (some 59), none, []⟩, ⟨.mov (.t 59), (some 7), none, []⟩]
theorem v106_32 : VS L106_32.eq_1 := rfl
def L106_33 : List AStep := ⟨.buildSlice 39 1 [(.str (strOfNums [])), (.int .i64 0), (.bool false), (.int .i64 0)] [(0, 4, (.t 57))], (some 58), none, []⟩ :: ⟨.call 55 [(.t 55)], (some 56), none, [(.load 4 true (.t 6), (some 57), none)]⟩ :: L106_32
theorem v106_33 : VS L106_33.eq_1 := rfl
def L106_34 : List AStep := ⟨.mov (.t 3), (some 55), none, []⟩ :: ⟨.load 4 true (.t 6), (some 57), none, []⟩ :: L106_33
theorem v106_34 : VS L106_34.eq_1 := rfl
def L106_35 : List AStep := [⟨.mov (.t 7), (some 60), none, []⟩, ⟨.call 103 [(.t 60)], (some 61), none, []⟩]
theorem v106_35 : VS L106_35.eq_1 := rfl
def L106_36 : List AStep := [⟨.mov (.t 7), (some 62), none, []⟩, ⟨.mov (.t 62), (some 3), none, []⟩]
theorem v106_36 : VS L106_36.eq_1 := rfl
def L106_37 : List AStep := [⟨.mov (.t 18), (some 5), none, []⟩]
theorem v106_37 : VS L106_37.eq_1 := rfl
def L106_38 : List AStep := ⟨.mov (.t 5), (some 17), none, []⟩ :: ⟨.bin .sub (.t 17) (.c (.int .i64 1)), (some 18), none, []⟩ :: L106_37
theorem v106_38 : VS L106_38.eq_1 := rfl
def L106_39 : List AStep := [⟨.store 1 (.t 2) (.t 64), none, none, []⟩]
theorem v106_39 : VS L106_39.eq_1 := rfl
def L106_40 : List AStep := ⟨.mov (.t 3), (some 63), none, []⟩ :: ⟨.build [(.sl none 0 (some 0))] [(0, 1, (.t 63))], (some 64), none, []⟩ :: L106_39
theorem v106_40 : VS L106_40.eq_1 := rfl
def C106_0 : ACode := .cond (.t 11) (.reg L106_5) .skip
theorem u106_0 : VC C106_0.eq_1 := rfl
def C106_1 : ACode := .seq (.reg L106_4) C106_0
theorem u106_1 : VC C106_1.eq_1 := rfl
def C106_2 : ACode := .cond (.t 16) .skip (.exit 0)
theorem u106_2 : VC C106_2.eq_1 := rfl
def C106_3 : ACode := .seq (.reg L106_8) C106_2
theorem u106_3 : VC C106_3.eq_1 := rfl
def C106_4 : ACode := .cond (.t 25) (.reg L106_16) .skip
theorem u106_4 : VC C106_4.eq_1 := rfl
def C106_5 : ACode := .seq (.reg L106_12) C106_4
theorem u106_5 : VC C106_5.eq_1 := rfl
def C106_6 : ACode := .seq (.reg L106_25) (.reg L106_27)
theorem u106_6 : VC C106_6.eq_1 := rfl
def C106_7 : ACode := .cond (.t 44) C106_6 .skip
theorem u106_7 : VC C106_7.eq_1 := rfl
def C106_8 : ACode := .seq (.reg L106_24) C106_7
theorem u106_8 : VC C106_8.eq_1 := rfl
def C106_9 : ACode := .cond (.t 51) (.reg L106_31) .skip
theorem u106_9 : VC C106_9.eq_1 := rfl
def C106_10 : ACode := .seq (.reg L106_29) C106_9
theorem u106_10 : VC C106_10.eq_1 := rfl
def C106_11 : ACode := .cond (.t 61) (.reg L106_36) .skip
theorem u106_11 : VC C106_11.eq_1 := rfl
def C106_12 : ACode := .seq (.reg L106_35) C106_11
theorem u106_12 : VC C106_12.eq_1 := rfl
def C106_13 : ACode := .seq (.reg L106_34) C106_12
theorem u106_13 : VC C106_13.eq_1 := rfl
def C106_14 : ACode := .seq C106_10 C106_13
theorem u106_14 : VC C106_14.eq_1 := rfl
def C106_15 : ACode := .seq C106_8 C106_14
theorem u106_15 : VC C106_15.eq_1 := rfl
def C106_16 : ACode := .seq (.reg L106_20) C106_15
theorem u106_16 : VC C106_16.eq_1 := rfl
def C106_17 : ACode := .seq C106_5 C106_16
theorem u106_17 : VC C106_17.eq_1 := rfl
def C106_18 : ACode := .block 1 C106_17
theorem u106_18 : VC C106_18.eq_1 := rfl
def C106_19 : ACode := .seq C106_18 (.reg L106_38)
theorem u106_19 : VC C106_19.eq_1 := rfl
def C106_20 : ACode := .seq C106_3 C106_19
theorem u106_20 : VC C106_20.eq_1 := rfl
def C106_21 : ACode := .block 0 (.loop C106_20)
theorem u106_21 : VC C106_21.eq_1 := rfl
def C106_22 : ACode := .seq (.reg L106_7) C106_21
theorem u106_22 : VC C106_22.eq_1 := rfl
def C106_23 : ACode := .seq (.reg L106_40) .ret
theorem u106_23 : VC C106_23.eq_1 := rfl
def C106_24 : ACode := .seq C106_22 C106_23
theorem u106_24 : VC C106_24.eq_1 := rfl
def C106_25 : ACode := .seq C106_1 C106_24
theorem u106_25 : VC C106_25.eq_1 := rfl
def C106_26 : ACode := .seq (.reg L106_2) C106_25
theorem u106_26 : VC C106_26.eq_1 := rfl
def C106_27 : ACode := .seq (.reg L106_1) C106_26
theorem u106_27 : VC C106_27.eq_1 := rfl
def C106_28 : ACode := .seq (.reg L106_0) C106_27
theorem u106_28 : VC C106_28.eq_1 := rfl
def F106 : AFunc := ⟨65, [.cell 2 1 true], C106_28⟩
theorem cF106 : compB Try.prog 106 = some F106 := by kernel_rfl
attribute [local go_sem ↓] u106_0 u106_1 u106_2 u106_3 u106_4 u106_5 u106_6 u106_7 u106_8 u106_9 u106_10 u106_11 u106_12 u106_15 u106_17 u106_18 u106_19 u106_20 u106_21 u106_22 u106_23 u106_25 u106_26 u106_27 u106_28 v106_0 v106_1 v106_2 v106_3 v106_4 v106_5 v106_6 v106_7 v106_8 v106_9 v106_10 v106_11 v106_12 v106_13 v106_14 v106_15 v106_16 v106_17 v106_18 v106_19 v106_20 v106_21 v106_22 v106_23 v106_24 v106_25 v106_26 v106_27 v106_28 v106_29 v106_30 v106_31 v106_32 v106_33 v106_34 v106_35 v106_36 v106_37 v106_38 v106_39 v106_40
theorem c_goodSignature (b : Nat) (p : Int) (h : H) (r : Rd h b p) (hp : p ≤ 2 ^ 38) : callK (bm Try.prog 106 [.one (.ptr (some (b, 0)))] h) fun q h' => (∃ x l, q = .agg [x] ∧ NwQ h h' (.one x) l ∧ tinyQ l) ∧ Drew b p 42 h h' := by
  refine bm_of cF106 ?_
  have hbn := r.lt
  simp +contextual (maxSteps := 2000000) only [go_sem, Nat.reduceEqDiff, reduceCtorEq, Nat.reduceAdd, Nat.reduceLeDiff, F106]
  refine wp_lit (enc := encQ) (k := 4) (l := []) rfl rfl ?_
  intro h1 w1 g1 n1 b1
  simp +contextual (maxSteps := 2000000) only [go_sem, Nat.reduceEqDiff, reduceCtorEq, Nat.reduceAdd, Nat.reduceLeDiff]
  refine wp_call (c_pick b 2 p h1 (r.grow g1) (by omega)) ?_
  rintro q h2 ⟨⟨k, rfl, k0, k1⟩, d2⟩
  have n2 := n1.drew d2 hbn
  have d2 := d2.pre g1
  apply joinC (P := Try.prog) (c := C106_24) (M := fun T L h' => h' = h2 ∧ T 0 = .v (.one (.ptr (some (b, 0)))) ∧ T 2 = .lp 2 0 ∧ (L 2).2 = [.sl none 0 (some 0)] ∧ T 3 = .v w1 ∧ ∃ kd : Int, T 4 = .v (.one (.int .i64 kd)) ∧ 0 ≤ kd ∧ kd ≤ 4)
  · intro J
    by_cases e : k = 0
    · simp +contextual (maxSteps := 2000000) only [go_sem, Nat.reduceEqDiff, reduceCtorEq, Nat.reduceAdd, Nat.reduceLeDiff, decide_eq_true e]
      refine J _ _ _ ?_
      simp +contextual (maxSteps := 2000000) only [go_sem, Nat.reduceEqDiff, reduceCtorEq, Nat.reduceAdd, Nat.reduceLeDiff]
      exact ⟨1, rfl, by omega, by omega⟩
    · simp +contextual (maxSteps := 2000000) only [go_sem, Nat.reduceEqDiff, reduceCtorEq, Nat.reduceAdd, Nat.reduceLeDiff, decide_eq_false e]
      refine J _ _ _ ?_
      simp +contextual (maxSteps := 2000000) only [go_sem, Nat.reduceEqDiff, reduceCtorEq, Nat.reduceAdd, Nat.reduceLeDiff]
      exact ⟨0, rfl, by omega, by omega⟩
  · rintro T L h' ⟨rfl, t0, t2, l2, t3, kd, t4, kd0, kd4⟩
    obtain ⟨p2, hp1, hp2, r2⟩ := d2.ex
    simp +contextual (maxSteps := 2000000) only [go_sem, Nat.reduceEqDiff, reduceCtorEq, Nat.reduceAdd, Nat.reduceLeDiff, ↓u106_24, t0, t2, l2, t3, t4]
    refine wp_lit (enc := encI) (k := 1) (l := [3, 4, 2, 5, 1, 0, 6, 8]) rfl rfl ?_
    intro h3 w3 g3 n3 b3
    simp +contextual (maxSteps := 2000000) only [go_sem, Nat.reduceEqDiff, reduceCtorEq, Nat.reduceAdd, Nat.reduceLeDiff, t0, t2, l2, t3, t4]
    refine wp_call (c_one b p2 _ w3 h3 (r2.grow g3) (by omega) (n3.sl lenI) (fun i hi => Nat.lt_of_lt_of_le r2.lt (b3 i hi)) (by decide) (by decide)) ?_
    rintro q h4 ⟨⟨m, hm, rfl⟩, d4⟩
    have hm8 : 0 ≤ m ∧ m ≤ 8 := by simp at hm; omega
    obtain ⟨m, rfl⟩ := Int.eq_ofNat_of_zero_le hm8.1
    have n4 := (n2.grow g3).drew d4 hbn
    have d4 := (d4.pre g3).then d2.st (by omega) hp2
    simp +contextual (maxSteps := 2000000) only [go_sem, Nat.reduceEqDiff, reduceCtorEq, Nat.reduceAdd, Nat.reduceLeDiff, t0, t2, l2, t3, t4]
    refine wpC_loop (fun k T L h' => T 0 = .v (.one (.ptr (some (b, 0)))) ∧ T 2 = .lp 2 0 ∧ (L 2).2 = [.sl none 0 (some 0)] ∧ (∃ s l, T 3 = .v s ∧ NwQ h h' s l ∧ l.length ≤ k ∧ ∀ x ∈ l, x.name.size ≤ 10) ∧ (∃ kd : Int, T 4 = .v (.one (.int .i64 kd)) ∧ 0 ≤ kd ∧ kd ≤ 4) ∧ T 5 = .v (.one (.int .i64 ((m - k : Nat) : Int))) ∧ Drew b p (2 + 5 * k) h h') m ?_ ?_ (Nat.zero_le _) ?_
    · rintro k T L h' hk ⟨t0, t2, l2, ⟨s, l, t3, ns, hl1, hl2⟩, ⟨kd, t4, kd0, kd4⟩, t5, d⟩
      obtain ⟨j, hj⟩ : ∃ j, m - k = j + 1 := ⟨m - k - 1, by omega⟩
      rw [hj] at t5
      have a3 : decide (((j + 1 : Nat) : Int) > 0) = true := decide_eq_true (by omega)
      obtain ⟨p', hq1, hq2, r'⟩ := d.ex
      simp +contextual (maxSteps := 2000000) only [go_sem, Nat.reduceEqDiff, reduceCtorEq, Nat.reduceAdd, Nat.reduceLeDiff, t0, t2, l2, t3, t4, t5, a3]
      refine wp_call (c_pick b 3 p' h' r' (by omega)) ?_
      rintro q h5 ⟨⟨e, rfl, e0, e1⟩, d5⟩
      obtain ⟨p5, hs1, hs2, r5⟩ := d5.ex
      have ns5 := ns.drew d5 hbn
      have d5 := d5.then d.st (by omega) hq2
      apply joinC (P := Try.prog) (c := C106_16) (M := fun T L h' => T 0 = .v (.one (.ptr (some (b, 0)))) ∧ T 2 = .lp 2 0 ∧ (L 2).2 = [.sl none 0 (some 0)] ∧ T 3 = .v s ∧ NwQ h h' s l ∧ (∃ kd : Int, T 4 = .v (.one (.int .i64 kd)) ∧ 0 ≤ kd ∧ kd ≤ 4) ∧ T 5 = .v (.one (.int .i64 ((j + 1 : Nat) : Int))) ∧ Drew b p (2 + 5 * k + 2) h h')
      · intro J
        by_cases ee : e = 0
        · by_cases ek : kd < 4
          · simp +contextual (maxSteps := 2000000) only [go_sem, Nat.reduceEqDiff, reduceCtorEq, Nat.reduceAdd, Nat.reduceLeDiff, t0, t2, l2, t3, t4, t5, decide_eq_true ee, decide_eq_true ek]
            have v1 : IntKind.i64.wrap (kd + 1) = kd + 1 := i64_wrap (by omega) (by omega)
            have v2 : IntKind.i64.wrap (4 - kd) = 4 - kd := i64_wrap (by omega) (by omega)
            rw [v2]
            refine wp_call (c_pick b (4 - kd) p5 h5 r5 (by omega)) ?_
            rintro q h6 ⟨⟨e6, rfl, e60, e61⟩, d6⟩
            have ns6 := ns5.drew d6 hbn
            have d6 := d6.then d5.st (by omega) (show p5 ≤ p + ((2 + 5 * k + 1 : Nat) : Int) by omega)
            simp +contextual (maxSteps := 2000000) only [go_sem, Nat.reduceEqDiff, reduceCtorEq, Nat.reduceAdd, Nat.reduceLeDiff, t0, t2, l2, t3, t4, t5]
            refine J _ _ _ ?_
            simp +contextual (maxSteps := 2000000) only [go_sem, Nat.reduceEqDiff, reduceCtorEq, Nat.reduceAdd, Nat.reduceLeDiff, t0, t2, l2, t3, t4, t5]
            refine ⟨ns6, ⟨_, rfl, ?_⟩, d6⟩
            rw [v1, i64_wrap (by omega) (by omega)]
            omega
          · simp +contextual (maxSteps := 2000000) only [go_sem, Nat.reduceEqDiff, reduceCtorEq, Nat.reduceAdd, Nat.reduceLeDiff, t0, t2, l2, t3, t4, t5, decide_eq_true ee, decide_eq_false ek]
            refine J _ _ _ ?_
            simp +contextual (maxSteps := 2000000) only [go_sem, Nat.reduceEqDiff, reduceCtorEq, Nat.reduceAdd, Nat.reduceLeDiff, t0, t2, l2, t3, t4, t5]
            exact ⟨ns5, ⟨_, rfl, kd0, kd4⟩, d5.more (by omega)⟩
        · simp +contextual (maxSteps := 2000000) only [go_sem, Nat.reduceEqDiff, reduceCtorEq, Nat.reduceAdd, Nat.reduceLeDiff, t0, t2, l2, t3, t4, t5, decide_eq_false ee]
          refine J _ _ _ ?_
          simp +contextual (maxSteps := 2000000) only [go_sem, Nat.reduceEqDiff, reduceCtorEq, Nat.reduceAdd, Nat.reduceLeDiff, t0, t2, l2, t3, t4, t5]
          exact ⟨ns5, ⟨_, rfl, kd0, kd4⟩, d5.more (by omega)⟩
      · clear d5 ns5 r5 hs1 hs2 hq1 hq2 r' d ns
        rintro T L h' ⟨t0, t2, l2, t3, ns, ⟨kd, t4, kd0, kd4⟩, t5, d⟩
        obtain ⟨p', hq1, hq2, r'⟩ := d.ex
        simp +contextual (maxSteps := 2000000) only [go_sem, Nat.reduceEqDiff, reduceCtorEq, Nat.reduceAdd, Nat.reduceLeDiff, ↓u106_16, t0, t2, l2, t3, t4, t5]
        refine wp_lit (enc := encS) (k := 1) (l := [strOfNums [97], strOfNums [98], strOfNums [99], strOfNums [100], strOfNums [120], strOfNums [121], strOfNums [112], strOfNums [113], strOfNums [97, 114, 103, 115], strOfNums [107, 119]]) rfl rfl ?_
        intro h5 w5 g5 n5 b5
        simp +contextual (maxSteps := 2000000) only [go_sem, Nat.reduceEqDiff, reduceCtorEq, Nat.reduceAdd, Nat.reduceLeDiff, t0, t2, l2, t3, t4, t5]
        refine wp_call (c_of b p' _ w5 h5 (r'.grow g5) (by omega) (n5.sl lenS) (fun i hi => Nat.lt_of_lt_of_le r'.lt (b5 i hi)) (by decide) (by decide)) ?_
        rintro q h6 ⟨⟨nm, hnm, rfl⟩, d6⟩
        have hnm : nm.size ≤ 10 := by
          simp only [List.mem_cons, List.not_mem_nil, or_false] at hnm
          rcases hnm with rfl | rfl | rfl | rfl | rfl | rfl | rfl | rfl | rfl | rfl <;> exact Nat.le_of_ble_eq_true rfl
        have ns6 := (ns.grow g5).drew d6 hbn
        obtain ⟨p6, hs1, hs2, r6⟩ := d6.ex
        have d6 := (d6.pre g5).then d.st (by omega) hq2
        simp +contextual (maxSteps := 2000000) only [go_sem, Nat.reduceEqDiff, reduceCtorEq, Nat.reduceAdd, Nat.reduceLeDiff, t0, t2, l2, t3, t4, t5]
        refine wp_call (c_pick b 3 p6 h6 r6 (by omega)) ?_
        rintro q h7 ⟨⟨e, rfl, e0, e1⟩, d7⟩
        have ns7 := ns6.drew d7 hbn
        obtain ⟨p7, hu1, hu2, r7⟩ := d7.ex
        have d7 := d7.then d6.st (by omega) (show p6 ≤ p + ((2 + 5 * k + 2 + 1 : Nat) : Int) by omega)
        have es : ∀ h0 : H, bm Try.prog 135 [.agg [.str nm, .int .i64 kd, .bool false, .int .i64 0]] h0 = some (ib (single ⟨nm, kd, false, 0⟩), h0) := fun h0 => c_isSingle ⟨nm, kd, false, 0⟩ h0
        apply joinC (P := Try.prog) (c := C106_14) (M := fun T L h' => T 0 = .v (.one (.ptr (some (b, 0)))) ∧ T 2 = .lp 2 0 ∧ (L 2).2 = [.sl none 0 (some 0)] ∧ T 3 = .v s ∧ NwQ h h' s l ∧ T 4 = .v (.one (.int .i64 kd)) ∧ T 5 = .v (.one (.int .i64 ((j + 1 : Nat) : Int))) ∧ T 6 = .lp 6 0 ∧ (∃ x : Param, (L 6).2 = encQ x ∧ x.name.size ≤ 10) ∧ Drew b p (2 + 5 * k + 5) h h')
        · intro J
          by_cases ee : e = 0
          · cases sg : single ⟨nm, kd, false, 0⟩ with
            | false =>
              simp +contextual (maxSteps := 2000000) only [go_sem, Nat.reduceEqDiff, reduceCtorEq, Nat.reduceAdd, Nat.reduceLeDiff, t0, t2, l2, t3, t4, t5, decide_eq_true ee, es, sg]
              refine J _ _ _ ?_
              simp +contextual (maxSteps := 2000000) only [go_sem, Nat.reduceEqDiff, reduceCtorEq, Nat.reduceAdd, Nat.reduceLeDiff, t0, t2, l2, t3, t4, t5]
              exact ⟨ns7, ⟨⟨nm, kd, false, 0⟩, rfl, hnm⟩, d7.more (by omega)⟩
            | true =>
              simp +contextual (maxSteps := 2000000) only [go_sem, Nat.reduceEqDiff, reduceCtorEq, Nat.reduceAdd, Nat.reduceLeDiff, t0, t2, l2, t3, t4, t5, decide_eq_true ee, es, sg]
              refine wp_call (c_aNumber b p7 h7 r7 (by omega)) ?_
              rintro q h8 ⟨⟨n, rfl⟩, d8⟩
              have ns8 := ns7.drew d8 hbn
              have d8 := d8.then d7.st (by omega) (show p7 ≤ p + ((2 + 5 * k + 2 + 1 + 1 : Nat) : Int) by omega)
              simp +contextual (maxSteps := 2000000) only [go_sem, Nat.reduceEqDiff, reduceCtorEq, Nat.reduceAdd, Nat.reduceLeDiff, t0, t2, l2, t3, t4, t5]
              refine J _ _ _ ?_
              simp +contextual (maxSteps := 2000000) only [go_sem, Nat.reduceEqDiff, reduceCtorEq, Nat.reduceAdd, Nat.reduceLeDiff, t0, t2, l2, t3, t4, t5]
              exact ⟨ns8, ⟨⟨nm, kd, true, n⟩, rfl, hnm⟩, d8⟩
          · simp +contextual (maxSteps := 2000000) only [go_sem, Nat.reduceEqDiff, reduceCtorEq, Nat.reduceAdd, Nat.reduceLeDiff, t0, t2, l2, t3, t4, t5, decide_eq_false ee]
            refine J _ _ _ ?_
            simp +contextual (maxSteps := 2000000) only [go_sem, Nat.reduceEqDiff, reduceCtorEq, Nat.reduceAdd, Nat.reduceLeDiff, t0, t2, l2, t3, t4, t5]
            exact ⟨ns7, ⟨⟨nm, kd, false, 0⟩, rfl, hnm⟩, d7.more (by omega)⟩
        · clear d7 d6 d ns7 ns6 ns r7 r6 hu1 hu2 hs1 hs2 hq1 hq2 r' es
          rintro T L h' ⟨t0, t2, l2, t3, ns, t4, t5, t6, ⟨x, l6, hx⟩, d⟩
          apply joinC (P := Try.prog) (c := C106_13) (M := fun T L h2 => h2 = h' ∧ T 0 = .v (.one (.ptr (some (b, 0)))) ∧ T 2 = .lp 2 0 ∧ (L 2).2 = [.sl none 0 (some 0)] ∧ T 3 = .v s ∧ (∃ kd : Int, T 4 = .v (.one (.int .i64 kd)) ∧ 0 ≤ kd ∧ kd ≤ 4) ∧ T 5 = .v (.one (.int .i64 ((j + 1 : Nat) : Int))) ∧ T 6 = .lp 6 0 ∧ (L 6).2 = encQ x)
          · intro J
            have es := c_isSingle x h'
            have v1 : IntKind.i64.wrap (kd + 1) = kd + 1 := i64_wrap (by omega) (by omega)
            cases sg : single x with
            | true =>
              simp +contextual (maxSteps := 2000000) only [go_sem, Nat.reduceEqDiff, reduceCtorEq, Nat.reduceAdd, Nat.reduceLeDiff, ↓u106_14, t0, t2, l2, t3, t4, t5, t6, l6, es, sg]
              refine J _ _ _ ?_
              simp +contextual (maxSteps := 2000000) only [go_sem, Nat.reduceEqDiff, reduceCtorEq, Nat.reduceAdd, Nat.reduceLeDiff, t0, t2, l2, t3, t4, t5, t6, l6]
              exact ⟨_, rfl, kd0, kd4⟩
            | false =>
              simp +contextual (maxSteps := 2000000) only [go_sem, Nat.reduceEqDiff, reduceCtorEq, Nat.reduceAdd, Nat.reduceLeDiff, ↓u106_14, t0, t2, l2, t3, t4, t5, t6, l6, es, sg, v1]
              refine J _ _ _ ?_
              simp +contextual (maxSteps := 2000000) only [go_sem, Nat.reduceEqDiff, reduceCtorEq, Nat.reduceAdd, Nat.reduceLeDiff, t0, t2, l2, t3, t4, t5, t6, l6]
              refine ⟨_, rfl, ?_⟩
              split <;> omega
          · clear t0 t2 l2 t3 t4 t5 t6 l6
            rintro T L h2 ⟨rfl, t0, t2, l2, t3, ⟨kd, t4, kd0, kd4⟩, t5, t6, l6⟩
            simp +contextual (maxSteps := 2000000) only [go_sem, Nat.reduceEqDiff, reduceCtorEq, Nat.reduceAdd, Nat.reduceLeDiff, ↓u106_13, t0, t2, l2, t3, t4, t5, t6, l6]
            refine wp_lit (enc := encQ) (k := 4) (l := [x]) rfl rfl ?_
            intro h3 w3 g3 n3 b3
            have ns3 := ns.grow g3
            simp +contextual (maxSteps := 2000000) only [go_sem, Nat.reduceEqDiff, reduceCtorEq, Nat.reduceAdd, Nat.reduceLeDiff, t0, t2, l2, t3, t4, t5, t6, l6]
            refine wp_call (c_copyParams l s h3 (ns3.sl lenQ) (by unfold big; omega)) ?_
            rintro q h5 ⟨g5, n5⟩
            simp +contextual (maxSteps := 2000000) only [go_sem, Nat.reduceEqDiff, reduceCtorEq, Nat.reduceAdd, Nat.reduceLeDiff, t0, t2, l2, t3, t4, t5, t6, l6]
            refine wp_append lenQ n5 ((n3.sl lenQ).grow g5) g5 (by simp; omega) ?_
            intro h6 s6 g6 n6 st6 hb6
            have g26 := g3.trans g6
            have d6 := d.grow g26
            have ns6 := ns.grow g26
            have n6' := n6.from (Nat.le_trans d.st.n g3.n)
            have hs6 : smQ (l ++ [x]) := ⟨by simp; unfold big; omega, fun y hy => by
              rcases List.mem_append.1 hy with hy | hy
              · exact Nat.le_trans (hl2 y hy) (by decide)
              · rw [List.mem_singleton.1 hy]; exact Nat.le_trans hx (by decide)⟩
            have ev := c_validParams (l ++ [x]) s6 h6 (n6.sl lenQ) hs6
            have ej : m - (k + 1) = j := by omega
            cases eo : okSig (l ++ [x]) with
            | true =>
              simp +contextual (maxSteps := 2000000) only [go_sem, Nat.reduceEqDiff, reduceCtorEq, Nat.reduceAdd, Nat.reduceLeDiff, t0, t2, l2, t3, t4, t5, t6, l6, ev, eo, wrap_pred (show j < 2 ^ 62 by omega)]
              refine ⟨⟨s6, l ++ [x], rfl, n6', by simp; omega, fun y hy => ?_⟩, ⟨_, rfl, kd0, kd4⟩, by rw [ej], d6.more (by omega)⟩
              rcases List.mem_append.1 hy with hy | hy
              · exact hl2 y hy
              · rw [List.mem_singleton.1 hy]; exact hx
            | false =>
              simp +contextual (maxSteps := 2000000) only [go_sem, Nat.reduceEqDiff, reduceCtorEq, Nat.reduceAdd, Nat.reduceLeDiff, t0, t2, l2, t3, t4, t5, t6, l6, ev, eo, wrap_pred (show j < 2 ^ 62 by omega)]
              exact ⟨⟨s, l, rfl, ns6, by omega, hl2⟩, ⟨_, rfl, kd0, kd4⟩, by rw [ej], d6.more (by omega)⟩
    · rintro T L h' ⟨t0, t2, l2, ⟨s, l, t3, ns, hl1, hl2⟩, ⟨kd, t4, kd0, kd4⟩, t5, d⟩
      rw [Nat.sub_self] at t5
      have hz : decide (((0 : Nat) : Int) > 0) = false := rfl
      obtain ⟨c, rfl⟩ := ns.one
      have d := d.more (show 2 + 5 * m ≤ 42 by omega)
      simp +contextual (maxSteps := 2000000) only [go_sem, Nat.reduceEqDiff, reduceCtorEq, Nat.reduceAdd, Nat.reduceLeDiff, t0, t2, l2, t3, t4, t5, hz]
      exact gcK_drew r d ⟨⟨c, l, rfl, ns, ⟨by omega, hl2⟩⟩, d⟩
    · simp +contextual (maxSteps := 2000000) only [go_sem, Nat.reduceEqDiff, reduceCtorEq, Nat.reduceAdd, Nat.reduceLeDiff, t0, t2, l2, t3, t4]
      exact ⟨⟨w1, [], rfl, n4, Nat.le_refl 0, fun x hx => by simp at hx⟩, ⟨kd, rfl, kd0, kd4⟩, rfl, d4⟩
end Go.Proofs.Ytekkimfdcbgcoab.Am
