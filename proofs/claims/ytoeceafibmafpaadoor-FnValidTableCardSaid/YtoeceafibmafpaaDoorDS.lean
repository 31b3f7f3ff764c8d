/- Contracts: signatures that are drawn. -/
import Derived.Test.YtoeceafibmafpaaDoorDG
import Derived.Test.YtoeceafibmafpaaDoorA2
namespace Go.Proofs.YtoeceafibmafpaaDoor.Am
open Go
set_option maxRecDepth 100000
set_option maxHeartbeats 4000000
set_option linter.unusedSimpArgs false
set_option linter.unusedVariables false
attribute [local go_sem ↓] bv_t bv_c ev_t ev_c put_same put_ne put_none kill_at pro_at lb_same lb_ne start_zero start_succ wpC_seq wpC_reg wpC_cond wpC_block wpC_skip wpC_exit wpC_ret thenQ_normal thenQ_exit thenQ_ret inBlk_normal inBlk_exit inBlk_ret wpS_nil wpS_step wpS_again wpS_guard wpO_mov wpO_load wpO_faddr wpO_nilCheck wpO_pick wpO_build wpO_bin wpO_eqb wpO_eqst wpO_eqnil wpO_not wpO_conv wpO_bytesStr wpO_iaddr wpO_idxStr wpO_field wpO_extract wpO_len wpO_lenStr wpO_cap wpO_min wpO_slice wpO_sliceStr wpO_alloc wpO_box wpO_store wpO_call wpO_callv wpO_mkfn wpO_buildSlice wpO_mkslice wpO_append wpO_appz proA_nil proA_cons tmpX_nil tmpX_tmp tmpX_cell doneB_normal doneB_ret agK_cons agK_nil agK_guard agG_tt agG_ff agG_tf agG_ft agG_undef pureB_load results_one results_two results_nil resBs_cons resBs_nil resB_tmp resB_cell
attribute [local go_sem] kill_v kill_lp_ne kill_lp_same pro_v pro_lp_same pro_lp_ne av_v av_lp optB_some optX_some valX_eq ldX_lp ldX_v faX_lp faX_v ncX_lp ncX_ptr ncX_fn boxK_one boxK_agg stL_some stK_lp_one stK_lp_agg stK_v_one stK_v_agg proM_v proM_lp callG_mk callVG_mk callvK_fn fnG_mk ptrsA_nil ptrsA_cons callH_some whenA_true whenA_false guardH_tt guardH_ff guardH_tf guardH_ft guardH_undef agV_one agV_agg lenO_sl lenStrO_str notO_bool pickO_bool convO_int eqbO_bool eqnilO_sl extractO_tup capO_sl minO_int loadL_one loadL_all storeL_eq fillA_nil fillA_one fillA_agg nat_ge neg_ge nat_lt neg_lt buildO bin_add bin_sub bin_mul bin_eql bin_neq bin_lss bin_leq bin_gtr bin_geq str_eql str_neq str_lss str_leq str_gtr str_geq retK_some endK_mk gcK_same gcK_int gcK_bool tupO_one tupO_agg rdy_self ib ii Option.map_none Option.map_some Option.some.injEq exists_eq_left' exists_eq_left ne_eq not_false_eq_true if_true if_false List.map_cons List.map_nil List.getElem?_cons_zero List.getElem?_cons_succ List.length_cons List.length_nil List.take_succ_cons List.take_zero List.take_nil List.drop_succ_cons List.drop_zero List.drop_nil List.cons_append List.nil_append List.append_nil List.set_cons_zero List.set_cons_succ Nat.zero_add forall_const true_and and_true and_self Bool.false_eq_true false_implies true_implies implies_true Bool.not_true Bool.not_false Bool.not_eq_true' Bool.not_eq_false' beq_self_eq_true Bool.bne_true Bool.bne_false
attribute [local go_sem] lenI lenS lenP lenQ lenB lenL lenT encI_0 encS_0 encP_0 encP_1 encQ_0 encQ_1 encQ_2 encQ_3 encB_0 encB_1 encL_0 encL_1 encT_0 encT_1
attribute [local go_sem low] whenA_bool guardH_bool
/-- Ways that meet again at c. -/
theorem joinC {P : Program} {c : ACode} {Q : PostC} {G : Prop} (M : Post) (main : (∀ T L h, M T L h → wpC P c T L (rdy h) Q) → G) (join : ∀ T L h, M T L h → wpC P c T L (rdy h) Q) : G := main join
structure tinyQ (l : List Param) : Prop where
  len : l.length ≤ 10
  nm : ∀ x ∈ l, x.name.size ≤ 10
theorem tinyQ.mini {l : List Param} (t : tinyQ l) : miniG l := ⟨Nat.le_trans t.len (by decide), fun x hx => Nat.le_trans (t.nm x hx) (by decide)⟩
/-! spec.goodSignature -/
def L112_0 : List AStep := [⟨.alloc 38 [(.sl none 0 (some 0))], (some 2), none, []⟩]
theorem v112_0 : VS L112_0.eq_1 := rfl
def L112_1 : List AStep := [⟨.buildSlice 83 0 [(.str (strOfNums [])), (.int .i64 0), (.bool false), (.int .i64 0)] [], (some 8), none, []⟩, ⟨.mov (.t 8), (some 3), none, []⟩]
theorem v112_1 : VS L112_1.eq_1 := rfl
def L112_2 : List AStep := [⟨.mov (.c (.int .i64 0)), (some 4), none, []⟩]
theorem v112_2 : VS L112_2.eq_1 := rfl
def L112_3 : List AStep := [⟨.bin .eql (.t 10) (.c (.int .i64 0)), (some 11), none, []⟩]
theorem v112_3 : VS L112_3.eq_1 := rfl
def L112_4 : List AStep := ⟨.mov (.t 0), (some 9), none, []⟩ :: ⟨.call 89 [(.t 9), (.c (.int .i64 2))], (some 10), none, []⟩ :: L112_3
theorem v112_4 : VS L112_4.eq_1 := rfl
def L112_5 : List AStep := [⟨.mov (.c (.int .i64 1)), (some 4), none, []⟩]
theorem v112_5 : VS L112_5.eq_1 := rfl
def L112_6 : List AStep := [⟨.call 111 [(.t 12), (.t 13)], (some 14), none, []⟩, ⟨.mov (.t 14), (some 5), none, []⟩]
theorem v112_6 : VS L112_6.eq_1 := rfl
def L112_7 : List AStep := ⟨.mov (.t 0), (some 12), none, []⟩ :: ⟨.buildSlice 3 8 [(.int .i64 0)] [(0, 1, (.c (.int .i64 3))), (1, 1, (.c (.int .i64 4))), (2, 1, (.c (.int .i64 2))), (3, 1, (.c (.int .i64 5))), (4, 1, (.c (.int .i64 1))), (5, 1, (.c (.int .i64 0))), (6, 1, (.c (.int .i64 6))), (7, 1, (.c (.int .i64 8)))], (some 13), none, []⟩ :: L112_6
theorem v112_7 : VS L112_7.eq_1 := rfl
def L112_8 : List AStep := [⟨.mov (.t 5), (some 15), none, []⟩, ⟨.bin .gtr (.t 15) (.c (.int .i64 0)), (some 16), none, []⟩]
theorem v112_8 : VS L112_8.eq_1 := rfl
def L112_9 : List AStep := [⟨.pick (.t 22) (.t 24) (.c (.bool false)), (some 25), none, []⟩]
theorem v112_9 : VS L112_9.eq_1 := rfl
def L112_10 : List AStep := ⟨.mov (.t 4), (some 23), (some (22, true)), []⟩ :: ⟨.bin .lss (.t 23) (.c (.int .i64 4)), (some 24), (some (22, true)), []⟩ :: L112_9
theorem v112_10 : VS L112_10.eq_1 := rfl
def L112_11 : List AStep := ⟨.bin .eql (.t 20) (.c (.int .i64 0)), (some 21), none, []⟩ :: ⟨.mov (.t 21), (some 22), none, []⟩ :: L112_10
theorem v112_11 : VS L112_11.eq_1 := rfl
def L112_12 : List AStep := ⟨.mov (.t 0), (some 19), none, []⟩ :: ⟨.call 89 [(.t 19), (.c (.int .i64 3))], (some 20), none, []⟩ :: L112_11
theorem v112_12 : VS L112_12.eq_1 := rfl
def L112_13 : List AStep := [⟨.bin .add (.t 27) (.t 31), (some 32), none, []⟩, ⟨.mov (.t 32), (some 4), none, []⟩]
theorem v112_13 : VS L112_13.eq_1 := rfl
def L112_14 : List AStep := ⟨.bin .sub (.c (.int .i64 4)) (.t 29), (some 30), none, []⟩ :: ⟨.call 89 [(.t 28), (.t 30)], (some 31), none, []⟩ :: L112_13
theorem v112_14 : VS L112_14.eq_1 := rfl
def L112_15 : List AStep := ⟨.mov (.t 0), (some 28), none, []⟩ :: ⟨.mov (.t 4), (some 29), none, []⟩ :: L112_14
theorem v112_15 : VS L112_15.eq_1 := rfl
def L112_16 : List AStep := ⟨.mov (.t 4), (some 26), none, []⟩ :: ⟨.bin .add (.t 26) (.c (.int .i64 1)), (some 27), none, []⟩ :: L112_15
theorem v112_16 : VS L112_16.eq_1 := rfl
def L112_17 : List AStep := [⟨.store 4 (.t 6) (.t 37), none, none, []⟩]
theorem v112_17 : VS L112_17.eq_1 := rfl
def L112_18 : List AStep := ⟨.build [(.str (strOfNums [])), (.int .i64 0), (.bool false), (.int .i64 0)] [(0, 1, (.t 35)), (1, 1, (.t 36))], (some 37), none, []⟩ :: ⟨.alloc 83 [(.str (strOfNums [])), (.int .i64 0), (.bool false), (.int .i64 0)], (some 6), none, []⟩ :: L112_17
theorem v112_18 : VS L112_18.eq_1 := rfl
def L112_19 : List AStep := ⟨.call 114 [(.t 33), (.t 34)], (some 35), none, []⟩ :: ⟨.mov (.t 4), (some 36), none, []⟩ :: L112_18
theorem v112_19 : VS L112_19.eq_1 := rfl
def L112_20 : List AStep := ⟨.mov (.t 0), (some 33), none, []⟩ :: ⟨.buildSlice 9 10 [(.str (strOfNums []))] [(0, 1, (.c (.str (strOfNums [97])))), (1, 1, (.c (.str (strOfNums [98])))), (2, 1, (.c (.str (strOfNums [99])))), (3, 1, (.c (.str (strOfNums [100])))), (4, 1, (.c (.str (strOfNums [120])))), (5, 1, (.c (.str (strOfNums [121])))), (6, 1, (.c (.str (strOfNums [112])))), (7, 1, (.c (.str (strOfNums [113])))), (8, 1, (.c (.str (strOfNums [97, 114, 103, 115])))), (9, 1, (.c (.str (strOfNums [107, 119]))))], (some 34), none, []⟩ :: L112_19
theorem v112_20 : VS L112_20.eq_1 := rfl
def L112_21 : List AStep := [⟨.pick (.t 41) (.t 43) (.c (.bool false)), (some 44), none, []⟩]
theorem v112_21 : VS L112_21.eq_1 := rfl
def L112_22 : List AStep := ⟨.load 4 true (.t 6), (some 42), (some (41, true)), []⟩ :: ⟨.call 107 [(.t 42)], (some 43), (some (41, true)), []⟩ :: L112_21
theorem v112_22 : VS L112_22.eq_1 := rfl
def L112_23 : List AStep := ⟨.bin .eql (.t 39) (.c (.int .i64 0)), (some 40), none, []⟩ :: ⟨.mov (.t 40), (some 41), none, []⟩ :: L112_22
theorem v112_23 : VS L112_23.eq_1 := rfl
def L112_24 : List AStep := ⟨.mov (.t 0), (some 38), none, []⟩ :: ⟨.call 89 [(.t 38), (.c (.int .i64 3))], (some 39), none, []⟩ :: L112_23
theorem v112_24 : VS L112_24.eq_1 := rfl
def L112_25 : List AStep := [⟨.faddr 2 (.t 6), (some 45), none, []⟩, ⟨.store 1 (.t 45) (.c (.bool true)), none, none, []⟩]
theorem v112_25 : VS L112_25.eq_1 := rfl
def L112_26 : List AStep := [⟨.faddr 3 (.t 6), (some 48), none, []⟩, ⟨.store 1 (.t 48) (.t 47), none, none, []⟩]
theorem v112_26 : VS L112_26.eq_1 := rfl
def L112_27 : List AStep := ⟨.mov (.t 0), (some 46), none, []⟩ :: ⟨.call 137 [(.t 46)], (some 47), none, []⟩ :: L112_26
theorem v112_27 : VS L112_27.eq_1 := rfl
def L112_28 : List AStep := [⟨.not (.t 50), (some 51), none, []⟩]
theorem v112_28 : VS L112_28.eq_1 := rfl
def L112_29 : List AStep := ⟨.load 4 true (.t 6), (some 49), none, []⟩ :: ⟨.call 107 [(.t 49)], (some 50), none, []⟩ :: L112_28
theorem v112_29 : VS L112_29.eq_1 := rfl
def L112_30 : List AStep := [⟨.min (.t 53) (.c (.int .i64 4)), (some 54), none, []⟩, ⟨.mov (.t 54), (some 4), none, []⟩]
theorem v112_30 : VS L112_30.eq_1 := rfl
def L112_31 : List AStep := ⟨.mov (.t 4), (some 52), none, []⟩ :: ⟨.bin .add (.t 52) (.c (.int .i64 1)), (some 53), none, []⟩ :: L112_30
theorem v112_31 : VS L112_31.eq_1 := rfl
def L112_32 : List AStep := [⟨.append 83 4 40 (.t 56) (.t 58), (some 59), none, []⟩, ⟨.mov (.t 59), (some 7), none, []⟩]
theorem v112_32 : VS L112_32.eq_1 := rfl
def L112_33 : List AStep := ⟨.buildSlice 83 1 [(.str (strOfNums [])), (.int .i64 0), (.bool false), (.int .i64 0)] [(0, 4, (.t 57))], (some 58), none, []⟩ :: ⟨.call 138 [(.t 55)], (some 56), none, [(.load 4 true (.t 6), (some 57), none)]⟩ :: L112_32
theorem v112_33 : VS L112_33.eq_1 := rfl
def L112_34 : List AStep := ⟨.mov (.t 3), (some 55), none, []⟩ :: ⟨.load 4 true (.t 6), (some 57), none, []⟩ :: L112_33
theorem v112_34 : VS L112_34.eq_1 := rfl
def L112_35 : List AStep := [⟨.mov (.t 7), (some 60), none, []⟩, ⟨.call 76 [(.t 60)], (some 61), none, []⟩]
theorem v112_35 : VS L112_35.eq_1 := rfl
def L112_36 : List AStep := [⟨.mov (.t 7), (some 62), none, []⟩, ⟨.mov (.t 62), (some 3), none, []⟩]
theorem v112_36 : VS L112_36.eq_1 := rfl
def L112_37 : List AStep := [⟨.mov (.t 18), (some 5), none, []⟩]
theorem v112_37 : VS L112_37.eq_1 := rfl
def L112_38 : List AStep := ⟨.mov (.t 5), (some 17), none, []⟩ :: ⟨.bin .sub (.t 17) (.c (.int .i64 1)), (some 18), none, []⟩ :: L112_37
theorem v112_38 : VS L112_38.eq_1 := rfl
def L112_39 : List AStep := [⟨.store 1 (.t 2) (.t 64), none, none, []⟩]
theorem v112_39 : VS L112_39.eq_1 := rfl
def L112_40 : List AStep := ⟨.mov (.t 3), (some 63), none, []⟩ :: ⟨.build [(.sl none 0 (some 0))] [(0, 1, (.t 63))], (some 64), none, []⟩ :: L112_39
theorem v112_40 : VS L112_40.eq_1 := rfl
def C112_0 : ACode := .cond (.t 11) (.reg L112_5) .skip
theorem u112_0 : VC C112_0.eq_1 := rfl
def C112_1 : ACode := .seq (.reg L112_4) C112_0
theorem u112_1 : VC C112_1.eq_1 := rfl
def C112_2 : ACode := .cond (.t 16) .skip (.exit 0)
theorem u112_2 : VC C112_2.eq_1 := rfl
def C112_3 : ACode := .seq (.reg L112_8) C112_2
theorem u112_3 : VC C112_3.eq_1 := rfl
def C112_4 : ACode := .cond (.t 25) (.reg L112_16) .skip
theorem u112_4 : VC C112_4.eq_1 := rfl
def C112_5 : ACode := .seq (.reg L112_12) C112_4
theorem u112_5 : VC C112_5.eq_1 := rfl
def C112_6 : ACode := .seq (.reg L112_25) (.reg L112_27)
theorem u112_6 : VC C112_6.eq_1 := rfl
def C112_7 : ACode := .cond (.t 44) C112_6 .skip
theorem u112_7 : VC C112_7.eq_1 := rfl
def C112_8 : ACode := .seq (.reg L112_24) C112_7
theorem u112_8 : VC C112_8.eq_1 := rfl
def C112_9 : ACode := .cond (.t 51) (.reg L112_31) .skip
theorem u112_9 : VC C112_9.eq_1 := rfl
def C112_10 : ACode := .seq (.reg L112_29) C112_9
theorem u112_10 : VC C112_10.eq_1 := rfl
def C112_11 : ACode := .cond (.t 61) (.reg L112_36) .skip
theorem u112_11 : VC C112_11.eq_1 := rfl
def C112_12 : ACode := .seq (.reg L112_35) C112_11
theorem u112_12 : VC C112_12.eq_1 := rfl
def C112_13 : ACode := .seq (.reg L112_34) C112_12
theorem u112_13 : VC C112_13.eq_1 := rfl
def C112_14 : ACode := .seq C112_10 C112_13
theorem u112_14 : VC C112_14.eq_1 := rfl
def C112_15 : ACode := .seq C112_8 C112_14
theorem u112_15 : VC C112_15.eq_1 := rfl
def C112_16 : ACode := .seq (.reg L112_20) C112_15
theorem u112_16 : VC C112_16.eq_1 := rfl
def C112_17 : ACode := .seq C112_5 C112_16
theorem u112_17 : VC C112_17.eq_1 := rfl
def C112_18 : ACode := .block 1 C112_17
theorem u112_18 : VC C112_18.eq_1 := rfl
def C112_19 : ACode := .seq C112_18 (.reg L112_38)
theorem u112_19 : VC C112_19.eq_1 := rfl
def C112_20 : ACode := .seq C112_3 C112_19
theorem u112_20 : VC C112_20.eq_1 := rfl
def C112_21 : ACode := .block 0 (.loop C112_20)
theorem u112_21 : VC C112_21.eq_1 := rfl
def C112_22 : ACode := .seq (.reg L112_7) C112_21
theorem u112_22 : VC C112_22.eq_1 := rfl
def C112_23 : ACode := .seq (.reg L112_40) .ret
theorem u112_23 : VC C112_23.eq_1 := rfl
def C112_24 : ACode := .seq C112_22 C112_23
theorem u112_24 : VC C112_24.eq_1 := rfl
def C112_25 : ACode := .seq C112_1 C112_24
theorem u112_25 : VC C112_25.eq_1 := rfl
def C112_26 : ACode := .seq (.reg L112_2) C112_25
theorem u112_26 : VC C112_26.eq_1 := rfl
def C112_27 : ACode := .seq (.reg L112_1) C112_26
theorem u112_27 : VC C112_27.eq_1 := rfl
def C112_28 : ACode := .seq (.reg L112_0) C112_27
theorem u112_28 : VC C112_28.eq_1 := rfl
def F112 : AFunc := ⟨65, [.cell 2 1 true], C112_28⟩
theorem cF112 : compB Tryd.prog 112 = some F112 := by kernel_rfl
attribute [local go_sem ↓] u112_0 u112_1 u112_2 u112_3 u112_4 u112_5 u112_6 u112_7 u112_8 u112_9 u112_10 u112_11 u112_12 u112_15 u112_17 u112_18 u112_19 u112_20 u112_21 u112_22 u112_23 u112_25 u112_26 u112_27 u112_28 v112_0 v112_1 v112_2 v112_3 v112_4 v112_5 v112_6 v112_7 v112_8 v112_9 v112_10 v112_11 v112_12 v112_13 v112_14 v112_15 v112_16 v112_17 v112_18 v112_19 v112_20 v112_21 v112_22 v112_23 v112_24 v112_25 v112_26 v112_27 v112_28 v112_29 v112_30 v112_31 v112_32 v112_33 v112_34 v112_35 v112_36 v112_37 v112_38 v112_39 v112_40
theorem c_goodSignature (b : Nat) (p : Int) (h : H) (r : Rd h b p) (hp : p ≤ 2 ^ 38) : callK (bm Tryd.prog 112 [.one (.ptr (some (b, 0)))] h) fun q h' => (∃ x l, q = .agg [x] ∧ NwQ h h' (.one x) l ∧ tinyQ l) ∧ Drew b p 42 h h' := by
  refine bm_of cF112 ?_
  have hbn := r.lt
  simp +contextual (maxSteps := 2000000) only [go_sem, Nat.reduceEqDiff, reduceCtorEq, Nat.reduceAdd, Nat.reduceLeDiff, F112]
  refine wp_lit (enc := encQ) (k := 4) (l := []) rfl rfl ?_
  intro h1 w1 g1 n1 b1
  simp +contextual (maxSteps := 2000000) only [go_sem, Nat.reduceEqDiff, reduceCtorEq, Nat.reduceAdd, Nat.reduceLeDiff]
  refine wp_call (c_pick b 2 p h1 (r.grow g1) (by omega)) ?_
  rintro q h2 ⟨⟨k, rfl, k0, k1⟩, d2⟩
  have n2 := n1.drew d2 hbn
  have d2 := d2.pre g1
  apply joinC (P := Tryd.prog) (c := C112_24) (M := fun T L h' => h' = h2 ∧ T 0 = .v (.one (.ptr (some (b, 0)))) ∧ T 2 = .lp 2 0 ∧ (L 2).2 = [.sl none 0 (some 0)] ∧ T 3 = .v w1 ∧ ∃ kd : Int, T 4 = .v (.one (.int .i64 kd)) ∧ 0 ≤ kd ∧ kd ≤ 4)
  · intro J
    by_cases e : k = 0
    · simp +contextual (maxSteps := 2000000) only [go_sem, Nat.reduceEqDiff, reduceCtorEq, Nat.reduceAdd, Nat.reduceLeDiff, decide_eq_true e]
      refine J _ _ _ ?_
      simp +contextual (maxSteps := 2000000) only [go_sem, Nat.reduceEqDiff, reduceCtorEq, Nat.reduceAdd, Nat.reduceLeDiff]
      exact ⟨1, rfl, by omega, by omega⟩
    · simp +contextual (maxSteps := 2000000) only [go_sem, Nat.reduceEqDiff, reduceCtorEq, Nat.reduceAdd, Nat.reduceLeDiff, decide_eq_false e]
      refine J _ _ _ ?_
      simp +contextual (maxSteps := 2000000) only [go_sem, Nat.reduceEqDiff, reduceCtorEq, Nat.reduceAdd, Nat.reduceLeDiff]
      exact ⟨0, rfl, by omega, by omega⟩
  · rintro T L h' ⟨rfl, t0, t2, l2, t3, kd, t4, kd0, kd4⟩
    obtain ⟨p2, hp1, hp2, r2⟩ := d2.ex
    simp +contextual (maxSteps := 2000000) only [go_sem, Nat.reduceEqDiff, reduceCtorEq, Nat.reduceAdd, Nat.reduceLeDiff, ↓u112_24, t0, t2, l2, t3, t4]
    refine wp_lit (enc := encI) (k := 1) (l := [3, 4, 2, 5, 1, 0, 6, 8]) rfl rfl ?_
    intro h3 w3 g3 n3 b3
    simp +contextual (maxSteps := 2000000) only [go_sem, Nat.reduceEqDiff, reduceCtorEq, Nat.reduceAdd, Nat.reduceLeDiff, t0, t2, l2, t3, t4]
    refine wp_call (c_one b p2 _ w3 h3 (r2.grow g3) (by omega) (n3.sl lenI) (fun i hi => Nat.lt_of_lt_of_le r2.lt (b3 i hi)) (by decide) (by decide)) ?_
    rintro q h4 ⟨⟨m, hm, rfl⟩, d4⟩
    have hm8 : 0 ≤ m ∧ m ≤ 8 := by simp at hm; omega
    obtain ⟨m, rfl⟩ := Int.eq_ofNat_of_zero_le hm8.1
    have n4 := (n2.grow g3).drew d4 hbn
    have d4 := (d4.pre g3).then d2.st (by omega) hp2
    simp +contextual (maxSteps := 2000000) only [go_sem, Nat.reduceEqDiff, reduceCtorEq, Nat.reduceAdd, Nat.reduceLeDiff, t0, t2, l2, t3, t4]
    refine wpC_loop (fun k T L h' => T 0 = .v (.one (.ptr (some (b, 0)))) ∧ T 2 = .lp 2 0 ∧ (L 2).2 = [.sl none 0 (some 0)] ∧ (∃ s l, T 3 = .v s ∧ NwQ h h' s l ∧ l.length ≤ k ∧ ∀ x ∈ l, x.name.size ≤ 10) ∧ (∃ kd : Int, T 4 = .v (.one (.int .i64 kd)) ∧ 0 ≤ kd ∧ kd ≤ 4) ∧ T 5 = .v (.one (.int .i64 ((m - k : Nat) : Int))) ∧ Drew b p (2 + 5 * k) h h') m ?_ ?_ (Nat.zero_le _) ?_
    · rintro k T L h' hk ⟨t0, t2, l2, ⟨s, l, t3, ns, hl1, hl2⟩, ⟨kd, t4, kd0, kd4⟩, t5, d⟩
      obtain ⟨j, hj⟩ : ∃ j, m - k = j + 1 := ⟨m - k - 1, by omega⟩
      rw [hj] at t5
      have a3 : decide (((j + 1 : Nat) : Int) > 0) = true := decide_eq_true (by omega)
      obtain ⟨p', hq1, hq2, r'⟩ := d.ex
      simp +contextual (maxSteps := 2000000) only [go_sem, Nat.reduceEqDiff, reduceCtorEq, Nat.reduceAdd, Nat.reduceLeDiff, t0, t2, l2, t3, t4, t5, a3]
      refine wp_call (c_pick b 3 p' h' r' (by omega)) ?_
      rintro q h5 ⟨⟨e, rfl, e0, e1⟩, d5⟩
      obtain ⟨p5, hs1, hs2, r5⟩ := d5.ex
      have ns5 := ns.drew d5 hbn
      have d5 := d5.then d.st (by omega) hq2
      apply joinC (P := Tryd.prog) (c := C112_16) (M := fun T L h' => T 0 = .v (.one (.ptr (some (b, 0)))) ∧ T 2 = .lp 2 0 ∧ (L 2).2 = [.sl none 0 (some 0)] ∧ T 3 = .v s ∧ NwQ h h' s l ∧ (∃ kd : Int, T 4 = .v (.one (.int .i64 kd)) ∧ 0 ≤ kd ∧ kd ≤ 4) ∧ T 5 = .v (.one (.int .i64 ((j + 1 : Nat) : Int))) ∧ Drew b p (2 + 5 * k + 2) h h')
      · intro J
        by_cases ee : e = 0
        · by_cases ek : kd < 4
          · simp +contextual (maxSteps := 2000000) only [go_sem, Nat.reduceEqDiff, reduceCtorEq, Nat.reduceAdd, Nat.reduceLeDiff, t0, t2, l2, t3, t4, t5, decide_eq_true ee, decide_eq_true ek]
            have v1 : IntKind.i64.wrap (kd + 1) = kd + 1 := i64_wrap (by omega) (by omega)
            have v2 : IntKind.i64.wrap (4 - kd) = 4 - kd := i64_wrap (by omega) (by omega)
            rw [v2]
            refine wp_call (c_pick b (4 - kd) p5 h5 r5 (by omega)) ?_
            rintro q h6 ⟨⟨e6, rfl, e60, e61⟩, d6⟩
            have ns6 := ns5.drew d6 hbn
            have d6 := d6.then d5.st (by omega) (show p5 ≤ p + ((2 + 5 * k + 1 : Nat) : Int) by omega)
            simp +contextual (maxSteps := 2000000) only [go_sem, Nat.reduceEqDiff, reduceCtorEq, Nat.reduceAdd, Nat.reduceLeDiff, t0, t2, l2, t3, t4, t5]
            refine J _ _ _ ?_
            simp +contextual (maxSteps := 2000000) only [go_sem, Nat.reduceEqDiff, reduceCtorEq, Nat.reduceAdd, Nat.reduceLeDiff, t0, t2, l2, t3, t4, t5]
            refine ⟨ns6, ⟨_, rfl, ?_⟩, d6⟩
            rw [v1, i64_wrap (by omega) (by omega)]
            omega
          · simp +contextual (maxSteps := 2000000) only [go_sem, Nat.reduceEqDiff, reduceCtorEq, Nat.reduceAdd, Nat.reduceLeDiff, t0, t2, l2, t3, t4, t5, decide_eq_true ee, decide_eq_false ek]
            refine J _ _ _ ?_
            simp +contextual (maxSteps := 2000000) only [go_sem, Nat.reduceEqDiff, reduceCtorEq, Nat.reduceAdd, Nat.reduceLeDiff, t0, t2, l2, t3, t4, t5]
            exact ⟨ns5, ⟨_, rfl, kd0, kd4⟩, d5.more (by omega)⟩
        · simp +contextual (maxSteps := 2000000) only [go_sem, Nat.reduceEqDiff, reduceCtorEq, Nat.reduceAdd, Nat.reduceLeDiff, t0, t2, l2, t3, t4, t5, decide_eq_false ee]
          refine J _ _ _ ?_
          simp +contextual (maxSteps := 2000000) only [go_sem, Nat.reduceEqDiff, reduceCtorEq, Nat.reduceAdd, Nat.reduceLeDiff, t0, t2, l2, t3, t4, t5]
          exact ⟨ns5, ⟨_, rfl, kd0, kd4⟩, d5.more (by omega)⟩
      · clear d5 ns5 r5 hs1 hs2 hq1 hq2 r' d ns
        rintro T L h' ⟨t0, t2, l2, t3, ns, ⟨kd, t4, kd0, kd4⟩, t5, d⟩
        obtain ⟨p', hq1, hq2, r'⟩ := d.ex
        simp +contextual (maxSteps := 2000000) only [go_sem, Nat.reduceEqDiff, reduceCtorEq, Nat.reduceAdd, Nat.reduceLeDiff, ↓u112_16, t0, t2, l2, t3, t4, t5]
        refine wp_lit (enc := encS) (k := 1) (l := [strOfNums [97], strOfNums [98], strOfNums [99], strOfNums [100], strOfNums [120], strOfNums [121], strOfNums [112], strOfNums [113], strOfNums [97, 114, 103, 115], strOfNums [107, 119]]) rfl rfl ?_
        intro h5 w5 g5 n5 b5
        simp +contextual (maxSteps := 2000000) only [go_sem, Nat.reduceEqDiff, reduceCtorEq, Nat.reduceAdd, Nat.reduceLeDiff, t0, t2, l2, t3, t4, t5]
        refine wp_call (c_of b p' _ w5 h5 (r'.grow g5) (by omega) (n5.sl lenS) (fun i hi => Nat.lt_of_lt_of_le r'.lt (b5 i hi)) (by decide) (by decide)) ?_
        rintro q h6 ⟨⟨nm, hnm, rfl⟩, d6⟩
        have hnm : nm.size ≤ 10 := by
          simp only [List.mem_cons, List.not_mem_nil, or_false] at hnm
          rcases hnm with rfl | rfl | rfl | rfl | rfl | rfl | rfl | rfl | rfl | rfl <;> exact Nat.le_of_ble_eq_true rfl
        have ns6 := (ns.grow g5).drew d6 hbn
        obtain ⟨p6, hs1, hs2, r6⟩ := d6.ex
        have d6 := (d6.pre g5).then d.st (by omega) hq2
        simp +contextual (maxSteps := 2000000) only [go_sem, Nat.reduceEqDiff, reduceCtorEq, Nat.reduceAdd, Nat.reduceLeDiff, t0, t2, l2, t3, t4, t5]
        refine wp_call (c_pick b 3 p6 h6 r6 (by omega)) ?_
        rintro q h7 ⟨⟨e, rfl, e0, e1⟩, d7⟩
        have ns7 := ns6.drew d7 hbn
        obtain ⟨p7, hu1, hu2, r7⟩ := d7.ex
        have d7 := d7.then d6.st (by omega) (show p6 ≤ p + ((2 + 5 * k + 2 + 1 : Nat) : Int) by omega)
        have es : ∀ h0 : H, bm Tryd.prog 107 [.agg [.str nm, .int .i64 kd, .bool false, .int .i64 0]] h0 = some (ib (single ⟨nm, kd, false, 0⟩), h0) := fun h0 => c_isSingle ⟨nm, kd, false, 0⟩ h0
        apply joinC (P := Tryd.prog) (c := C112_14) (M := fun T L h' => T 0 = .v (.one (.ptr (some (b, 0)))) ∧ T 2 = .lp 2 0 ∧ (L 2).2 = [.sl none 0 (some 0)] ∧ T 3 = .v s ∧ NwQ h h' s l ∧ T 4 = .v (.one (.int .i64 kd)) ∧ T 5 = .v (.one (.int .i64 ((j + 1 : Nat) : Int))) ∧ T 6 = .lp 6 0 ∧ (∃ x : Param, (L 6).2 = encQ x ∧ x.name.size ≤ 10) ∧ Drew b p (2 + 5 * k + 5) h h')
        · intro J
          by_cases ee : e = 0
          · cases sg : single ⟨nm, kd, false, 0⟩ with
            | false =>
              simp +contextual (maxSteps := 2000000) only [go_sem, Nat.reduceEqDiff, reduceCtorEq, Nat.reduceAdd, Nat.reduceLeDiff, t0, t2, l2, t3, t4, t5, decide_eq_true ee, es, sg]
              refine J _ _ _ ?_
              simp +contextual (maxSteps := 2000000) only [go_sem, Nat.reduceEqDiff, reduceCtorEq, Nat.reduceAdd, Nat.reduceLeDiff, t0, t2, l2, t3, t4, t5]
              exact ⟨ns7, ⟨⟨nm, kd, false, 0⟩, rfl, hnm⟩, d7.more (by omega)⟩
            | true =>
              simp +contextual (maxSteps := 2000000) only [go_sem, Nat.reduceEqDiff, reduceCtorEq, Nat.reduceAdd, Nat.reduceLeDiff, t0, t2, l2, t3, t4, t5, decide_eq_true ee, es, sg]
              refine wp_call (c_aNumber b p7 h7 r7 (by omega)) ?_
              rintro q h8 ⟨⟨n, rfl⟩, d8⟩
              have ns8 := ns7.drew d8 hbn
              have d8 := d8.then d7.st (by omega) (show p7 ≤ p + ((2 + 5 * k + 2 + 1 + 1 : Nat) : Int) by omega)
              simp +contextual (maxSteps := 2000000) only [go_sem, Nat.reduceEqDiff, reduceCtorEq, Nat.reduceAdd, Nat.reduceLeDiff, t0, t2, l2, t3, t4, t5]
              refine J _ _ _ ?_
              simp +contextual (maxSteps := 2000000) only [go_sem, Nat.reduceEqDiff, reduceCtorEq, Nat.reduceAdd, Nat.reduceLeDiff, t0, t2, l2, t3, t4, t5]
              exact ⟨ns8, ⟨⟨nm, kd, true, n⟩, rfl, hnm⟩, d8⟩
          · simp +contextual (maxSteps := 2000000) only [go_sem, Nat.reduceEqDiff, reduceCtorEq, Nat.reduceAdd, Nat.reduceLeDiff, t0, t2, l2, t3, t4, t5, decide_eq_false ee]
            refine J _ _ _ ?_
            simp +contextual (maxSteps := 2000000) only [go_sem, Nat.reduceEqDiff, reduceCtorEq, Nat.reduceAdd, Nat.reduceLeDiff, t0, t2, l2, t3, t4, t5]
            exact ⟨ns7, ⟨⟨nm, kd, false, 0⟩, rfl, hnm⟩, d7.more (by omega)⟩
        · clear d7 d6 d ns7 ns6 ns r7 r6 hu1 hu2 hs1 hs2 hq1 hq2 r' es
          rintro T L h' ⟨t0, t2, l2, t3, ns, t4, t5, t6, ⟨x, l6, hx⟩, d⟩
          apply joinC (P := Tryd.prog) (c := C112_13) (M := fun T L h2 => h2 = h' ∧ T 0 = .v (.one (.ptr (some (b, 0)))) ∧ T 2 = .lp 2 0 ∧ (L 2).2 = [.sl none 0 (some 0)] ∧ T 3 = .v s ∧ (∃ kd : Int, T 4 = .v (.one (.int .i64 kd)) ∧ 0 ≤ kd ∧ kd ≤ 4) ∧ T 5 = .v (.one (.int .i64 ((j + 1 : Nat) : Int))) ∧ T 6 = .lp 6 0 ∧ (L 6).2 = encQ x)
          · intro J
            have es := c_isSingle x h'
            have v1 : IntKind.i64.wrap (kd + 1) = kd + 1 := i64_wrap (by omega) (by omega)
            cases sg : single x with
            | true =>
              simp +contextual (maxSteps := 2000000) only [go_sem, Nat.reduceEqDiff, reduceCtorEq, Nat.reduceAdd, Nat.reduceLeDiff, ↓u112_14, t0, t2, l2, t3, t4, t5, t6, l6, es, sg]
              refine J _ _ _ ?_
              simp +contextual (maxSteps := 2000000) only [go_sem, Nat.reduceEqDiff, reduceCtorEq, Nat.reduceAdd, Nat.reduceLeDiff, t0, t2, l2, t3, t4, t5, t6, l6]
              exact ⟨_, rfl, kd0, kd4⟩
            | false =>
              simp +contextual (maxSteps := 2000000) only [go_sem, Nat.reduceEqDiff, reduceCtorEq, Nat.reduceAdd, Nat.reduceLeDiff, ↓u112_14, t0, t2, l2, t3, t4, t5, t6, l6, es, sg, v1]
              refine J _ _ _ ?_
              simp +contextual (maxSteps := 2000000) only [go_sem, Nat.reduceEqDiff, reduceCtorEq, Nat.reduceAdd, Nat.reduceLeDiff, t0, t2, l2, t3, t4, t5, t6, l6]
              refine ⟨_, rfl, ?_⟩
              split <;> omega
          · clear t0 t2 l2 t3 t4 t5 t6 l6
            rintro T L h2 ⟨rfl, t0, t2, l2, t3, ⟨kd, t4, kd0, kd4⟩, t5, t6, l6⟩
            simp +contextual (maxSteps := 2000000) only [go_sem, Nat.reduceEqDiff, reduceCtorEq, Nat.reduceAdd, Nat.reduceLeDiff, ↓u112_13, t0, t2, l2, t3, t4, t5, t6, l6]
            refine wp_lit (enc := encQ) (k := 4) (l := [x]) rfl rfl ?_
            intro h3 w3 g3 n3 b3
            have ns3 := ns.grow g3
            simp +contextual (maxSteps := 2000000) only [go_sem, Nat.reduceEqDiff, reduceCtorEq, Nat.reduceAdd, Nat.reduceLeDiff, t0, t2, l2, t3, t4, t5, t6, l6]
            refine wp_call (c_copyParams l s h3 (ns3.sl lenQ) (by unfold big; omega)) ?_
            rintro q h5 ⟨g5, n5⟩
            simp +contextual (maxSteps := 2000000) only [go_sem, Nat.reduceEqDiff, reduceCtorEq, Nat.reduceAdd, Nat.reduceLeDiff, t0, t2, l2, t3, t4, t5, t6, l6]
            refine wp_append lenQ n5 ((n3.sl lenQ).grow g5) g5 (by simp; omega) ?_
            intro h6 s6 g6 n6 st6 hb6
            have g26 := g3.trans g6
            have d6 := d.grow g26
            have ns6 := ns.grow g26
            have n6' := n6.from (Nat.le_trans d.st.n g3.n)
            have hs6 : smQ (l ++ [x]) := ⟨by simp; unfold big; omega, fun y hy => by
              rcases List.mem_append.1 hy with hy | hy
              · exact Nat.le_trans (hl2 y hy) (by decide)
              · rw [List.mem_singleton.1 hy]; exact Nat.le_trans hx (by decide)⟩
            have ev := c_validParams (l ++ [x]) s6 h6 (n6.sl lenQ) hs6
            have ej : m - (k + 1) = j := by omega
            cases eo : okSig (l ++ [x]) with
            | true =>
              simp +contextual (maxSteps := 2000000) only [go_sem, Nat.reduceEqDiff, reduceCtorEq, Nat.reduceAdd, Nat.reduceLeDiff, t0, t2, l2, t3, t4, t5, t6, l6, ev, eo, wrap_pred (show j < 2 ^ 62 by omega)]
              refine ⟨⟨s6, l ++ [x], rfl, n6', by simp; omega, fun y hy => ?_⟩, ⟨_, rfl, kd0, kd4⟩, by rw [ej], d6.more (by omega)⟩
              rcases List.mem_append.1 hy with hy | hy
              · exact hl2 y hy
              · rw [List.mem_singleton.1 hy]; exact hx
            | false =>
              simp +contextual (maxSteps := 2000000) only [go_sem, Nat.reduceEqDiff, reduceCtorEq, Nat.reduceAdd, Nat.reduceLeDiff, t0, t2, l2, t3, t4, t5, t6, l6, ev, eo, wrap_pred (show j < 2 ^ 62 by omega)]
              exact ⟨⟨s, l, rfl, ns6, by omega, hl2⟩, ⟨_, rfl, kd0, kd4⟩, by rw [ej], d6.more (by omega)⟩
    · rintro T L h' ⟨t0, t2, l2, ⟨s, l, t3, ns, hl1, hl2⟩, ⟨kd, t4, kd0, kd4⟩, t5, d⟩
      rw [Nat.sub_self] at t5
      have hz : decide (((0 : Nat) : Int) > 0) = false := rfl
      obtain ⟨c, rfl⟩ := ns.one
      have d := d.more (show 2 + 5 * m ≤ 42 by omega)
      simp +contextual (maxSteps := 2000000) only [go_sem, Nat.reduceEqDiff, reduceCtorEq, Nat.reduceAdd, Nat.reduceLeDiff, t0, t2, l2, t3, t4, t5, hz]
      exact gcK_drew r d ⟨⟨c, l, rfl, ns, ⟨by omega, hl2⟩⟩, d⟩
    · simp +contextual (maxSteps := 2000000) only [go_sem, Nat.reduceEqDiff, reduceCtorEq, Nat.reduceAdd, Nat.reduceLeDiff, t0, t2, l2, t3, t4]
      exact ⟨⟨w1, [], rfl, n4, Nat.le_refl 0, fun x hx => by simp at hx⟩, ⟨kd, rfl, kd0, kd4⟩, rfl, d4⟩
end Go.Proofs.YtoeceafibmafpaaDoor.Am
