/- Contracts: signatures that are drawn. -/
import Derived.Test.YtekkimfdcbgcoacDG
import Derived.Test.YtekkimfdcbgcoacA2
namespace Go.Proofs.Ytekkimfdcbgcoac.Am
open Go
set_option maxRecDepth 100000
set_option maxHeartbeats 4000000
set_option linter.unusedSimpArgs false
set_option linter.unusedVariables false
attribute [local go_sem ↓] bv_t bv_c ev_t ev_c put_same put_ne put_none kill_at pro_at lb_same lb_ne start_zero start_succ wpC_seq wpC_reg wpC_cond wpC_block wpC_skip wpC_exit wpC_ret thenQ_normal thenQ_exit thenQ_ret inBlk_normal inBlk_exit inBlk_ret wpS_nil wpS_step wpS_again wpS_guard wpO_mov wpO_load wpO_faddr wpO_nilCheck wpO_pick wpO_build wpO_bin wpO_eqb wpO_eqst wpO_eqnil wpO_not wpO_conv wpO_bytesStr wpO_iaddr wpO_idxStr wpO_field wpO_extract wpO_len wpO_lenStr wpO_cap wpO_min wpO_slice wpO_sliceStr wpO_alloc wpO_box wpO_store wpO_call wpO_callv wpO_mkfn wpO_buildSlice wpO_mkslice wpO_append wpO_appz proA_nil proA_cons tmpX_nil tmpX_tmp tmpX_cell doneB_normal doneB_ret agK_cons agK_nil agK_guard agG_tt agG_ff agG_tf agG_ft agG_undef pureB_load results_one results_two results_nil resBs_cons resBs_nil resB_tmp resB_cell
attribute [local go_sem] kill_v kill_lp_ne kill_lp_same pro_v pro_lp_same pro_lp_ne av_v av_lp optB_some optX_some valX_eq ldX_lp ldX_v faX_lp faX_v ncX_lp ncX_ptr ncX_fn boxK_one boxK_agg stL_some stK_lp_one stK_lp_agg stK_v_one stK_v_agg proM_v proM_lp callG_mk callVG_mk callvK_fn fnG_mk ptrsA_nil ptrsA_cons callH_some whenA_true whenA_false guardH_tt guardH_ff guardH_tf guardH_ft guardH_undef agV_one agV_agg lenO_sl lenStrO_str notO_bool pickO_bool convO_int eqbO_bool eqnilO_sl extractO_tup capO_sl minO_int loadL_one loadL_all storeL_eq fillA_nil fillA_one fillA_agg nat_ge neg_ge nat_lt neg_lt buildO bin_add bin_sub bin_mul bin_eql bin_neq bin_lss bin_leq bin_gtr bin_geq str_eql str_neq str_lss str_leq str_gtr str_geq retK_some endK_mk gcK_same gcK_int gcK_bool tupO_one tupO_agg rdy_self ib ii Option.map_none Option.map_some Option.some.injEq exists_eq_left' exists_eq_left ne_eq not_false_eq_true if_true if_false List.map_cons List.map_nil List.getElem?_cons_zero List.getElem?_cons_succ List.length_cons List.length_nil List.take_succ_cons List.take_zero List.take_nil List.drop_succ_cons List.drop_zero List.drop_nil List.cons_append List.nil_append List.append_nil List.set_cons_zero List.set_cons_succ Nat.zero_add forall_const true_and and_true and_self Bool.false_eq_true false_implies true_implies implies_true Bool.not_true Bool.not_false Bool.not_eq_true' Bool.not_eq_false' beq_self_eq_true Bool.bne_true Bool.bne_false
attribute [local go_sem] lenI lenS lenP lenQ lenB lenL lenT encI_0 encS_0 encP_0 encP_1 encQ_0 encQ_1 encQ_2 encQ_3 encB_0 encB_1 encL_0 encL_1 encT_0 encT_1
attribute [local go_sem low] whenA_bool guardH_bool
/-- Ways that meet again at c. -/
theorem joinC {P : Program} {c : ACode} {Q : PostC} {G : Prop} (M : Post) (main : (∀ T L h, M T L h → wpC P c T L (rdy h) Q) → G) (join : ∀ T L h, M T L h → wpC P c T L (rdy h) Q) : G := main join
structure tinyQ (l : List Param) : Prop where
  len : l.length ≤ 10
  nm : ∀ x ∈ l, x.name.size ≤ 10
theorem tinyQ.mini {l : List Param} (t : tinyQ l) : miniG l := ⟨Nat.le_trans t.len (by decide), fun x hx => Nat.le_trans (t.nm x hx) (by decide)⟩
/-! spec.goodSignature -/
def L132_0 : List AStep := [⟨.alloc 25 [(.sl none 0 (some 0))], (some 2), none, []⟩]
theorem v132_0 : VS L132_0.eq_1 := rfl
def L132_1 : List AStep := [⟨.buildSlice 44 0 [(.str (strOfNums [])), (.int .i64 0), (.bool false), (.int .i64 0)] [], (some 8), none, []⟩, ⟨.mov (.t 8), (some 3), none, []⟩]
theorem v132_1 : VS L132_1.eq_1 := rfl
def L132_2 : List AStep := [⟨.mov (.c (.int .i64 0)), (some 4), none, []⟩]
theorem v132_2 : VS L132_2.eq_1 := rfl
def L132_3 : List AStep := [⟨.bin .eql (.t 10) (.c (.int .i64 0)), (some 11), none, []⟩]
theorem v132_3 : VS L132_3.eq_1 := rfl
def L132_4 : List AStep := ⟨.mov (.t 0), (some 9), none, []⟩ :: ⟨.call 92 [(.t 9), (.c (.int .i64 2))], (some 10), none, []⟩ :: L132_3
theorem v132_4 : VS L132_4.eq_1 := rfl
def L132_5 : List AStep := [⟨.mov (.c (.int .i64 1)), (some 4), none, []⟩]
theorem v132_5 : VS L132_5.eq_1 := rfl
def L132_6 : List AStep := [⟨.call 134 [(.t 12), (.t 13)], (some 14), none, []⟩, ⟨.mov (.t 14), (some 5), none, []⟩]
theorem v132_6 : VS L132_6.eq_1 := rfl
def L132_7 : List AStep := ⟨.mov (.t 0), (some 12), none, []⟩ :: ⟨.buildSlice 3 8 [(.int .i64 0)] [(0, 1, (.c (.int .i64 3))), (1, 1, (.c (.int .i64 4))), (2, 1, (.c (.int .i64 2))), (3, 1, (.c (.int .i64 5))), (4, 1, (.c (.int .i64 1))), (5, 1, (.c (.int .i64 0))), (6, 1, (.c (.int .i64 6))), (7, 1, (.c (.int .i64 8)))], (some 13), none, []⟩ :: L132_6
theorem v132_7 : VS L132_7.eq_1 := rfl
def L132_8 : List AStep := [⟨.mov (.t 5), (some 15), none, []⟩, ⟨.bin .gtr (.t 15) (.c (.int .i64 0)), (some 16), none, []⟩]
theorem v132_8 : VS L132_8.eq_1 := rfl
def L132_9 : List AStep := [⟨.pick (.t 22) (.t 24) (.c (.bool false)), (some 25), none, []⟩]
theorem v132_9 : VS L132_9.eq_1 := rfl
def L132_10 : List AStep := ⟨.mov (.t 4), (some 23), (some (22, true)), []⟩ :: ⟨.bin .lss (.t 23) (.c (.int .i64 4)), (some 24), (some (22, true)), []⟩ :: L132_9
theorem v132_10 : VS L132_10.eq_1 := rfl
def L132_11 : List AStep := ⟨.bin .eql (.t 20) (.c (.int .i64 0)), (some 21), none, []⟩ :: ⟨.mov (.t 21), (some 22), none, []⟩ :: L132_10
theorem v132_11 : VS L132_11.eq_1 := rfl
def L132_12 : List AStep := ⟨.mov (.t 0), (some 19), none, []⟩ :: ⟨.call 92 [(.t 19), (.c (.int .i64 3))], (some 20), none, []⟩ :: L132_11
theorem v132_12 : VS L132_12.eq_1 := rfl
def L132_13 : List AStep := [⟨.bin .add (.t 27) (.t 31), (some 32), none, []⟩, ⟨.mov (.t 32), (some 4), none, []⟩]
theorem v132_13 : VS L132_13.eq_1 := rfl
def L132_14 : List AStep := ⟨.bin .sub (.c (.int .i64 4)) (.t 29), (some 30), none, []⟩ :: ⟨.call 92 [(.t 28), (.t 30)], (some 31), none, []⟩ :: L132_13
theorem v132_14 : VS L132_14.eq_1 := rfl
def L132_15 : List AStep := ⟨.mov (.t 0), (some 28), none, []⟩ :: ⟨.mov (.t 4), (some 29), none, []⟩ :: L132_14
theorem v132_15 : VS L132_15.eq_1 := rfl
def L132_16 : List AStep := ⟨.mov (.t 4), (some 26), none, []⟩ :: ⟨.bin .add (.t 26) (.c (.int .i64 1)), (some 27), none, []⟩ :: L132_15
theorem v132_16 : VS L132_16.eq_1 := rfl
def L132_17 : List AStep := [⟨.store 4 (.t 6) (.t 37), none, none, []⟩]
theorem v132_17 : VS L132_17.eq_1 := rfl
def L132_18 : List AStep := ⟨.build [(.str (strOfNums [])), (.int .i64 0), (.bool false), (.int .i64 0)] [(0, 1, (.t 35)), (1, 1, (.t 36))], (some 37), none, []⟩ :: ⟨.alloc 44 [(.str (strOfNums [])), (.int .i64 0), (.bool false), (.int .i64 0)], (some 6), none, []⟩ :: L132_17
theorem v132_18 : VS L132_18.eq_1 := rfl
def L132_19 : List AStep := ⟨.call 144 [(.t 33), (.t 34)], (some 35), none, []⟩ :: ⟨.mov (.t 4), (some 36), none, []⟩ :: L132_18
theorem v132_19 : VS L132_19.eq_1 := rfl
def L132_20 : List AStep := ⟨.mov (.t 0), (some 33), none, []⟩ :: ⟨.buildSlice 9 10 [(.str (strOfNums []))] [(0, 1, (.c (.str (strOfNums [97])))), (1, 1, (.c (.str (strOfNums [98])))), (2, 1, (.c (.str (strOfNums [99])))), (3, 1, (.c (.str (strOfNums [100])))), (4, 1, (.c (.str (strOfNums [120])))), (5, 1, (.c (.str (strOfNums [121])))), (6, 1, (.c (.str (strOfNums [112])))), (7, 1, (.c (.str (strOfNums [113])))), (8, 1, (.c (.str (strOfNums [97, 114, 103, 115])))), (9, 1, (.c (.str (strOfNums [107, 119]))))], (some 34), none, []⟩ :: L132_19
theorem v132_20 : VS L132_20.eq_1 := rfl
def L132_21 : List AStep := [⟨.pick (.t 41) (.t 43) (.c (.bool false)), (some 44), none, []⟩]
theorem v132_21 : VS L132_21.eq_1 := rfl
def L132_22 : List AStep := ⟨.load 4 true (.t 6), (some 42), (some (41, true)), []⟩ :: ⟨.call 53 [(.t 42)], (some 43), (some (41, true)), []⟩ :: L132_21
theorem v132_22 : VS L132_22.eq_1 := rfl
def L132_23 : List AStep := ⟨.bin .eql (.t 39) (.c (.int .i64 0)), (some 40), none, []⟩ :: ⟨.mov (.t 40), (some 41), none, []⟩ :: L132_22
theorem v132_23 : VS L132_23.eq_1 := rfl
def L132_24 : List AStep := ⟨.mov (.t 0), (some 38), none, []⟩ :: ⟨.call 92 [(.t 38), (.c (.int .i64 3))], (some 39), none, []⟩ :: L132_23
theorem v132_24 : VS L132_24.eq_1 := rfl
def L132_25 : List AStep := [⟨.faddr 2 (.t 6), (some 45), none, []⟩, ⟨.store 1 (.t 45) (.c (.bool true)), none, none, []⟩]
theorem v132_25 : VS L132_25.eq_1 := rfl
def L132_26 : List AStep := [⟨.faddr 3 (.t 6), (some 48), none, []⟩, ⟨.store 1 (.t 48) (.t 47), none, none, []⟩]
theorem v132_26 : VS L132_26.eq_1 := rfl
def L132_27 : List AStep := ⟨.mov (.t 0), (some 46), none, []⟩ :: ⟨.call 121 [(.t 46)], (some 47), none, []⟩ :: L132_26
theorem v132_27 : VS L132_27.eq_1 := rfl
def L132_28 : List AStep := [⟨.not (.t 50), (some 51), none, []⟩]
theorem v132_28 : VS L132_28.eq_1 := rfl
def L132_29 : List AStep := ⟨.load 4 true (.t 6), (some 49), none, []⟩ :: ⟨.call 53 [(.t 49)], (some 50), none, []⟩ :: L132_28
theorem v132_29 : VS L132_29.eq_1 := rfl
def L132_30 : List AStep := [⟨.min (.t 53) (.c (.int .i64 4)), (some 54), none, []⟩, ⟨.mov (.t 54), (some 4), none, []⟩]
theorem v132_30 : VS L132_30.eq_1 := rfl
def L132_31 : List AStep := ⟨.mov (.t 4), (some 52), none, []⟩ :: ⟨.bin .add (.t 52) (.c (.int .i64 1)), (some 53), none, []⟩ :: L132_30
theorem v132_31 : VS L132_31.eq_1 := rfl
def L132_32 : List AStep := [⟨.append 44 4 40 (.t 56) (.t 58), (some 59), none, []⟩, ⟨.mov (.t 59), (some 7), none, []⟩]
theorem v132_32 : VS L132_32.eq_1 := rfl
def L132_33 : List AStep := ⟨.buildSlice 44 1 [(.str (strOfNums [])), (.int .i64 0), (.bool false), (.int .i64 0)] [(0, 4, (.t 57))], (some 58), none, []⟩ :: ⟨.call 74 [(.t 55)], (some 56), none, [(.load 4 true (.t 6), (some 57), none)]⟩ :: L132_32
theorem v132_33 : VS L132_33.eq_1 := rfl
def L132_34 : List AStep := ⟨.mov (.t 3), (some 55), none, []⟩ :: ⟨.load 4 true (.t 6), (some 57), none, []⟩ :: L132_33
theorem v132_34 : VS L132_34.eq_1 := rfl
def L132_35 : List AStep := [⟨.mov (.t 7), (some 60), none, []⟩, ⟨.call 114 [(.t 60)], (some 61), none, []⟩]
theorem v132_35 : VS L132_35.eq_1 := rfl
def L132_36 : List AStep := [⟨.mov (.t 7), (some 62), none, []⟩, ⟨.mov (.t 62), (some 3), none, []⟩]
theorem v132_36 : VS L132_36.eq_1 := rfl
def L132_37 : List AStep := [⟨.mov (.t 18), (some 5), none, []⟩]
theorem v132_37 : VS L132_37.eq_1 := rfl
def L132_38 : List AStep := ⟨.mov (.t 5), (some 17), none, []⟩ :: ⟨.bin .sub (.t 17) (.c (.int .i64 1)), (some 18), none, []⟩ :: L132_37
theorem v132_38 : VS L132_38.eq_1 := rfl
def L132_39 : List AStep := [⟨.store 1 (.t 2) (.t 64), none, none, []⟩]
theorem v132_39 : VS L132_39.eq_1 := rfl
def L132_40 : List AStep := ⟨.mov (.t 3), (some 63), none, []⟩ :: ⟨.build [(.sl none 0 (some 0))] [(0, 1, (.t 63))], (some 64), none, []⟩ :: L132_39
theorem v132_40 : VS L132_40.eq_1 := rfl
def C132_0 : ACode := .cond (.t 11) (.reg L132_5) .skip
theorem u132_0 : VC C132_0.eq_1 := rfl
def C132_1 : ACode := .seq (.reg L132_4) C132_0
theorem u132_1 : VC C132_1.eq_1 := rfl
def C132_2 : ACode := .cond (.t 16) .skip (.exit 0)
theorem u132_2 : VC C132_2.eq_1 := rfl
def C132_3 : ACode := .seq (.reg L132_8) C132_2
theorem u132_3 : VC C132_3.eq_1 := rfl
def C132_4 : ACode := .cond (.t 25) (.reg L132_16) .skip
theorem u132_4 : VC C132_4.eq_1 := rfl
def C132_5 : ACode := .seq (.reg L132_12) C132_4
theorem u132_5 : VC C132_5.eq_1 := rfl
def C132_6 : ACode := .seq (.reg L132_25) (.reg L132_27)
theorem u132_6 : VC C132_6.eq_1 := rfl
def C132_7 : ACode := .cond (.t 44) C132_6 .skip
theorem u132_7 : VC C132_7.eq_1 := rfl
def C132_8 : ACode := .seq (.reg L132_24) C132_7
theorem u132_8 : VC C132_8.eq_1 := rfl
def C132_9 : ACode := .cond (.t 51) (.reg L132_31) .skip
theorem u132_9 : VC C132_9.eq_1 := rfl
def C132_10 : ACode := .seq (.reg L132_29) C132_9
theorem u132_10 : VC C132_10.eq_1 := rfl
def C132_11 : ACode := .cond (.t 61) (.reg L132_36) .skip
theorem u132_11 : VC C132_11.eq_1 := rfl
def C132_12 : ACode := .seq (.reg L132_35) C132_11
theorem u132_12 : VC C132_12.eq_1 := rfl
def C132_13 : ACode := .seq (.reg L132_34) C132_12
theorem u132_13 : VC C132_13.eq_1 := rfl
def C132_14 : ACode := .seq C132_10 C132_13
theorem u132_14 : VC C132_14.eq_1 := rfl
def C132_15 : ACode := .seq C132_8 C132_14
theorem u132_15 : VC C132_15.eq_1 := rfl
def C132_16 : ACode := .seq (.reg L132_20) C132_15
theorem u132_16 : VC C132_16.eq_1 := rfl
def C132_17 : ACode := .seq C132_5 C132_16
theorem u132_17 : VC C132_17.eq_1 := rfl
def C132_18 : ACode := .block 1 C132_17
theorem u132_18 : VC C132_18.eq_1 := rfl
def C132_19 : ACode := .seq C132_18 (.reg L132_38)
theorem u132_19 : VC C132_19.eq_1 := rfl
def C132_20 : ACode := .seq C132_3 C132_19
theorem u132_20 : VC C132_20.eq_1 := rfl
def C132_21 : ACode := .block 0 (.loop C132_20)
theorem u132_21 : VC C132_21.eq_1 := rfl
def C132_22 : ACode := .seq (.reg L132_7) C132_21
theorem u132_22 : VC C132_22.eq_1 := rfl
def C132_23 : ACode := .seq (.reg L132_40) .ret
theorem u132_23 : VC C132_23.eq_1 := rfl
def C132_24 : ACode := .seq C132_22 C132_23
theorem u132_24 : VC C132_24.eq_1 := rfl
def C132_25 : ACode := .seq C132_1 C132_24
theorem u132_25 : VC C132_25.eq_1 := rfl
def C132_26 : ACode := .seq (.reg L132_2) C132_25
theorem u132_26 : VC C132_26.eq_1 := rfl
def C132_27 : ACode := .seq (.reg L132_1) C132_26
theorem u132_27 : VC C132_27.eq_1 := rfl
def C132_28 : ACode := .seq (.reg L132_0) C132_27
theorem u132_28 : VC C132_28.eq_1 := rfl
def F132 : AFunc := ⟨65, [.cell 2 1 true], C132_28⟩
theorem cF132 : compB Try.prog 132 = some F132 := by kernel_rfl
attribute [local go_sem ↓] u132_0 u132_1 u132_2 u132_3 u132_4 u132_5 u132_6 u132_7 u132_8 u132_9 u132_10 u132_11 u132_12 u132_15 u132_17 u132_18 u132_19 u132_20 u132_21 u132_22 u132_23 u132_25 u132_26 u132_27 u132_28 v132_0 v132_1 v132_2 v132_3 v132_4 v132_5 v132_6 v132_7 v132_8 v132_9 v132_10 v132_11 v132_12 v132_13 v132_14 v132_15 v132_16 v132_17 v132_18 v132_19 v132_20 v132_21 v132_22 v132_23 v132_24 v132_25 v132_26 v132_27 v132_28 v132_29 v132_30 v132_31 v132_32 v132_33 v132_34 v132_35 v132_36 v132_37 v132_38 v132_39 v132_40
theorem c_goodSignature (b : Nat) (p : Int) (h : H) (r : Rd h b p) (hp : p ≤ 2 ^ 38) : callK (bm Try.prog 132 [.one (.ptr (some (b, 0)))] h) fun q h' => (∃ x l, q = .agg [x] ∧ NwQ h h' (.one x) l ∧ tinyQ l) ∧ Drew b p 42 h h' := by
  refine bm_of cF132 ?_
  have hbn := r.lt
  simp +contextual (maxSteps := 2000000) only [go_sem, Nat.reduceEqDiff, reduceCtorEq, Nat.reduceAdd, Nat.reduceLeDiff, F132]
  refine wp_lit (enc := encQ) (k := 4) (l := []) rfl rfl ?_
  intro h1 w1 g1 n1 b1
  simp +contextual (maxSteps := 2000000) only [go_sem, Nat.reduceEqDiff, reduceCtorEq, Nat.reduceAdd, Nat.reduceLeDiff]
  refine wp_call (c_pick b 2 p h1 (r.grow g1) (by omega)) ?_
  rintro q h2 ⟨⟨k, rfl, k0, k1⟩, d2⟩
  have n2 := n1.drew d2 hbn
  have d2 := d2.pre g1
  apply joinC (P := Try.prog) (c := C132_24) (M := fun T L h' => h' = h2 ∧ T 0 = .v (.one (.ptr (some (b, 0)))) ∧ T 2 = .lp 2 0 ∧ (L 2).2 = [.sl none 0 (some 0)] ∧ T 3 = .v w1 ∧ ∃ kd : Int, T 4 = .v (.one (.int .i64 kd)) ∧ 0 ≤ kd ∧ kd ≤ 4)
  · intro J
    by_cases e : k = 0
    · simp +contextual (maxSteps := 2000000) only [go_sem, Nat.reduceEqDiff, reduceCtorEq, Nat.reduceAdd, Nat.reduceLeDiff, decide_eq_true e]
      refine J _ _ _ ?_
      simp +contextual (maxSteps := 2000000) only [go_sem, Nat.reduceEqDiff, reduceCtorEq, Nat.reduceAdd, Nat.reduceLeDiff]
      exact ⟨1, rfl, by omega, by omega⟩
    · simp +contextual (maxSteps := 2000000) only [go_sem, Nat.reduceEqDiff, reduceCtorEq, Nat.reduceAdd, Nat.reduceLeDiff, decide_eq_false e]
      refine J _ _ _ ?_
      simp +contextual (maxSteps := 2000000) only [go_sem, Nat.reduceEqDiff, reduceCtorEq, Nat.reduceAdd, Nat.reduceLeDiff]
      exact ⟨0, rfl, by omega, by omega⟩
  · rintro T L h' ⟨rfl, t0, t2, l2, t3, kd, t4, kd0, kd4⟩
    obtain ⟨p2, hp1, hp2, r2⟩ := d2.ex
    simp +contextual (maxSteps := 2000000) only [go_sem, Nat.reduceEqDiff, reduceCtorEq, Nat.reduceAdd, Nat.reduceLeDiff, ↓u132_24, t0, t2, l2, t3, t4]
    refine wp_lit (enc := encI) (k := 1) (l := [3, 4, 2, 5, 1, 0, 6, 8]) rfl rfl ?_
    intro h3 w3 g3 n3 b3
    simp +contextual (maxSteps := 2000000) only [go_sem, Nat.reduceEqDiff, reduceCtorEq, Nat.reduceAdd, Nat.reduceLeDiff, t0, t2, l2, t3, t4]
    refine wp_call (c_one b p2 _ w3 h3 (r2.grow g3) (by omega) (n3.sl lenI) (fun i hi => Nat.lt_of_lt_of_le r2.lt (b3 i hi)) (by decide) (by decide)) ?_
    rintro q h4 ⟨⟨m, hm, rfl⟩, d4⟩
    have hm8 : 0 ≤ m ∧ m ≤ 8 := by simp at hm; omega
    obtain ⟨m, rfl⟩ := Int.eq_ofNat_of_zero_le hm8.1
    have n4 := (n2.grow g3).drew d4 hbn
    have d4 := (d4.pre g3).then d2.st (by omega) hp2
    simp +contextual (maxSteps := 2000000) only [go_sem, Nat.reduceEqDiff, reduceCtorEq, Nat.reduceAdd, Nat.reduceLeDiff, t0, t2, l2, t3, t4]
    refine wpC_loop (fun k T L h' => T 0 = .v (.one (.ptr (some (b, 0)))) ∧ T 2 = .lp 2 0 ∧ (L 2).2 = [.sl none 0 (some 0)] ∧ (∃ s l, T 3 = .v s ∧ NwQ h h' s l ∧ l.length ≤ k ∧ ∀ x ∈ l, x.name.size ≤ 10) ∧ (∃ kd : Int, T 4 = .v (.one (.int .i64 kd)) ∧ 0 ≤ kd ∧ kd ≤ 4) ∧ T 5 = .v (.one (.int .i64 ((m - k : Nat) : Int))) ∧ Drew b p (2 + 5 * k) h h') m ?_ ?_ (Nat.zero_le _) ?_
    · rintro k T L h' hk ⟨t0, t2, l2, ⟨s, l, t3, ns, hl1, hl2⟩, ⟨kd, t4, kd0, kd4⟩, t5, d⟩
      obtain ⟨j, hj⟩ : ∃ j, m - k = j + 1 := ⟨m - k - 1, by omega⟩
      rw [hj] at t5
      have a3 : decide (((j + 1 : Nat) : Int) > 0) = true := decide_eq_true (by omega)
      obtain ⟨p', hq1, hq2, r'⟩ := d.ex
      simp +contextual (maxSteps := 2000000) only [go_sem, Nat.reduceEqDiff, reduceCtorEq, Nat.reduceAdd, Nat.reduceLeDiff, t0, t2, l2, t3, t4, t5, a3]
      refine wp_call (c_pick b 3 p' h' r' (by omega)) ?_
      rintro q h5 ⟨⟨e, rfl, e0, e1⟩, d5⟩
      obtain ⟨p5, hs1, hs2, r5⟩ := d5.ex
      have ns5 := ns.drew d5 hbn
      have d5 := d5.then d.st (by omega) hq2
      apply joinC (P := Try.prog) (c := C132_16) (M := fun T L h' => T 0 = .v (.one (.ptr (some (b, 0)))) ∧ T 2 = .lp 2 0 ∧ (L 2).2 = [.sl none 0 (some 0)] ∧ T 3 = .v s ∧ NwQ h h' s l ∧ (∃ kd : Int, T 4 = .v (.one (.int .i64 kd)) ∧ 0 ≤ kd ∧ kd ≤ 4) ∧ T 5 = .v (.one (.int .i64 ((j + 1 : Nat) : Int))) ∧ Drew b p (2 + 5 * k + 2) h h')
      · intro J
        by_cases ee : e = 0
        · by_cases ek : kd < 4
          · simp +contextual (maxSteps := 2000000) only [go_sem, Nat.reduceEqDiff, reduceCtorEq, Nat.reduceAdd, Nat.reduceLeDiff, t0, t2, l2, t3, t4, t5, decide_eq_true ee, decide_eq_true ek]
            have v1 : IntKind.i64.wrap (kd + 1) = kd + 1 := i64_wrap (by omega) (by omega)
            have v2 : IntKind.i64.wrap (4 - kd) = 4 - kd := i64_wrap (by omega) (by omega)
            rw [v2]
            refine wp_call (c_pick b (4 - kd) p5 h5 r5 (by omega)) ?_
            rintro q h6 ⟨⟨e6, rfl, e60, e61⟩, d6⟩
            have ns6 := ns5.drew d6 hbn
            have d6 := d6.then d5.st (by omega) (show p5 ≤ p + ((2 + 5 * k + 1 : Nat) : Int) by omega)
            simp +contextual (maxSteps := 2000000) only [go_sem, Nat.reduceEqDiff, reduceCtorEq, Nat.reduceAdd, Nat.reduceLeDiff, t0, t2, l2, t3, t4, t5]
            refine J _ _ _ ?_
            simp +contextual (maxSteps := 2000000) only [go_sem, Nat.reduceEqDiff, reduceCtorEq, Nat.reduceAdd, Nat.reduceLeDiff, t0, t2, l2, t3, t4, t5]
            refine ⟨ns6, ⟨_, rfl, ?_⟩, d6⟩
            rw [v1, i64_wrap (by omega) (by omega)]
            omega
          · simp +contextual (maxSteps := 2000000) only [go_sem, Nat.reduceEqDiff, reduceCtorEq, Nat.reduceAdd, Nat.reduceLeDiff, t0, t2, l2, t3, t4, t5, decide_eq_true ee, decide_eq_false ek]
            refine J _ _ _ ?_
            simp +contextual (maxSteps := 2000000) only [go_sem, Nat.reduceEqDiff, reduceCtorEq, Nat.reduceAdd, Nat.reduceLeDiff, t0, t2, l2, t3, t4, t5]
            exact ⟨ns5, ⟨_, rfl, kd0, kd4⟩, d5.more (by omega)⟩
        · simp +contextual (maxSteps := 2000000) only [go_sem, Nat.reduceEqDiff, reduceCtorEq, Nat.reduceAdd, Nat.reduceLeDiff, t0, t2, l2, t3, t4, t5, decide_eq_false ee]
          refine J _ _ _ ?_
          simp +contextual (maxSteps := 2000000) only [go_sem, Nat.reduceEqDiff, reduceCtorEq, Nat.reduceAdd, Nat.reduceLeDiff, t0, t2, l2, t3, t4, t5]
          exact ⟨ns5, ⟨_, rfl, kd0, kd4⟩, d5.more (by omega)⟩
      · clear d5 ns5 r5 hs1 hs2 hq1 hq2 r' d ns
        rintro T L h' ⟨t0, t2, l2, t3, ns, ⟨kd, t4, kd0, kd4⟩, t5, d⟩
        obtain ⟨p', hq1, hq2, r'⟩ := d.ex
        simp +contextual (maxSteps := 2000000) only [go_sem, Nat.reduceEqDiff, reduceCtorEq, Nat.reduceAdd, Nat.reduceLeDiff, ↓u132_16, t0, t2, l2, t3, t4, t5]
        refine wp_lit (enc := encS) (k := 1) (l := [strOfNums [97], strOfNums [98], strOfNums [99], strOfNums [100], strOfNums [120], strOfNums [121], strOfNums [112], strOfNums [113], strOfNums [97, 114, 103, 115], strOfNums [107, 119]]) rfl rfl ?_
        intro h5 w5 g5 n5 b5
        simp +contextual (maxSteps := 2000000) only [go_sem, Nat.reduceEqDiff, reduceCtorEq, Nat.reduceAdd, Nat.reduceLeDiff, t0, t2, l2, t3, t4, t5]
        refine wp_call (c_of b p' _ w5 h5 (r'.grow g5) (by omega) (n5.sl lenS) (fun i hi => Nat.lt_of_lt_of_le r'.lt (b5 i hi)) (by decide) (by decide)) ?_
        rintro q h6 ⟨⟨nm, hnm, rfl⟩, d6⟩
        have hnm : nm.size ≤ 10 := by
          simp only [List.mem_cons, List.not_mem_nil, or_false] at hnm
          rcases hnm with rfl | rfl | rfl | rfl | rfl | rfl | rfl | rfl | rfl | rfl <;> exact Nat.le_of_ble_eq_true rfl
        have ns6 := (ns.grow g5).drew d6 hbn
        obtain ⟨p6, hs1, hs2, r6⟩ := d6.ex
        have d6 := (d6.pre g5).then d.st (by omega) hq2
        simp +contextual (maxSteps := 2000000) only [go_sem, Nat.reduceEqDiff, reduceCtorEq, Nat.reduceAdd, Nat.reduceLeDiff, t0, t2, l2, t3, t4, t5]
        refine wp_call (c_pick b 3 p6 h6 r6 (by omega)) ?_
        rintro q h7 ⟨⟨e, rfl, e0, e1⟩, d7⟩
        have ns7 := ns6.drew d7 hbn
        obtain ⟨p7, hu1, hu2, r7⟩ := d7.ex
        have d7 := d7.then d6.st (by omega) (show p6 ≤ p + ((2 + 5 * k + 2 + 1 : Nat) : Int) by omega)
        have es : ∀ h0 : H, bm Try.prog 53 [.agg [.str nm, .int .i64 kd, .bool false, .int .i64 0]] h0 = some (ib (single ⟨nm, kd, false, 0⟩), h0) := fun h0 => c_isSingle ⟨nm, kd, false, 0⟩ h0
        apply joinC (P := Try.prog) (c := C132_14) (M := fun T L h' => T 0 = .v (.one (.ptr (some (b, 0)))) ∧ T 2 = .lp 2 0 ∧ (L 2).2 = [.sl none 0 (some 0)] ∧ T 3 = .v s ∧ NwQ h h' s l ∧ T 4 = .v (.one (.int .i64 kd)) ∧ T 5 = .v (.one (.int .i64 ((j + 1 : Nat) : Int))) ∧ T 6 = .lp 6 0 ∧ (∃ x : Param, (L 6).2 = encQ x ∧ x.name.size ≤ 10) ∧ Drew b p (2 + 5 * k + 5) h h')
        · intro J
          by_cases ee : e = 0
          · cases sg : single ⟨nm, kd, false, 0⟩ with
            | false =>
              simp +contextual (maxSteps := 2000000) only [go_sem, Nat.reduceEqDiff, reduceCtorEq, Nat.reduceAdd, Nat.reduceLeDiff, t0, t2, l2, t3, t4, t5, decide_eq_true ee, es, sg]
              refine J _ _ _ ?_
              simp +contextual (maxSteps := 2000000) only [go_sem, Nat.reduceEqDiff, reduceCtorEq, Nat.reduceAdd, Nat.reduceLeDiff, t0, t2, l2, t3, t4, t5]
              exact ⟨ns7, ⟨⟨nm, kd, false, 0⟩, rfl, hnm⟩, d7.more (by omega)⟩
            | true =>
              simp +contextual (maxSteps := 2000000) only [go_sem, Nat.reduceEqDiff, reduceCtorEq, Nat.reduceAdd, Nat.reduceLeDiff, t0, t2, l2, t3, t4, t5, decide_eq_true ee, es, sg]
              refine wp_call (c_aNumber b p7 h7 r7 (by omega)) ?_
              rintro q h8 ⟨⟨n, rfl⟩, d8⟩
              have ns8 := ns7.drew d8 hbn
              have d8 := d8.then d7.st (by omega) (show p7 ≤ p + ((2 + 5 * k + 2 + 1 + 1 : Nat) : Int) by omega)
              simp +contextual (maxSteps := 2000000) only [go_sem, Nat.reduceEqDiff, reduceCtorEq, Nat.reduceAdd, Nat.reduceLeDiff, t0, t2, l2, t3, t4, t5]
              refine J _ _ _ ?_
              simp +contextual (maxSteps := 2000000) only [go_sem, Nat.reduceEqDiff, reduceCtorEq, Nat.reduceAdd, Nat.reduceLeDiff, t0, t2, l2, t3, t4, t5]
              exact ⟨ns8, ⟨⟨nm, kd, true, n⟩, rfl, hnm⟩, d8⟩
          · simp +contextual (maxSteps := 2000000) only [go_sem, Nat.reduceEqDiff, reduceCtorEq, Nat.reduceAdd, Nat.reduceLeDiff, t0, t2, l2, t3, t4, t5, decide_eq_false ee]
            refine J _ _ _ ?_
            simp +contextual (maxSteps := 2000000) only [go_sem, Nat.reduceEqDiff, reduceCtorEq, Nat.reduceAdd, Nat.reduceLeDiff, t0, t2, l2, t3, t4, t5]
            exact ⟨ns7, ⟨⟨nm, kd, false, 0⟩, rfl, hnm⟩, d7.more (by omega)⟩
        · clear d7 d6 d ns7 ns6 ns r7 r6 hu1 hu2 hs1 hs2 hq1 hq2 r' es
          rintro T L h' ⟨t0, t2, l2, t3, ns, t4, t5, t6, ⟨x, l6, hx⟩, d⟩
          apply joinC (P := Try.prog) (c := C132_13) (M := fun T L h2 => h2 = h' ∧ T 0 = .v (.one (.ptr (some (b, 0)))) ∧ T 2 = .lp 2 0 ∧ (L 2).2 = [.sl none 0 (some 0)] ∧ T 3 = .v s ∧ (∃ kd : Int, T 4 = .v (.one (.int .i64 kd)) ∧ 0 ≤ kd ∧ kd ≤ 4) ∧ T 5 = .v (.one (.int .i64 ((j + 1 : Nat) : Int))) ∧ T 6 = .lp 6 0 ∧ (L 6).2 = encQ x)
          · intro J
            have es := c_isSingle x h'
            have v1 : IntKind.i64.wrap (kd + 1) = kd + 1 := i64_wrap (by omega) (by omega)
            cases sg : single x with
            | true =>
              simp +contextual (maxSteps := 2000000) only [go_sem, Nat.reduceEqDiff, reduceCtorEq, Nat.reduceAdd, Nat.reduceLeDiff, ↓u132_14, t0, t2, l2, t3, t4, t5, t6, l6, es, sg]
              refine J _ _ _ ?_
              simp +contextual (maxSteps := 2000000) only [go_sem, Nat.reduceEqDiff, reduceCtorEq, Nat.reduceAdd, Nat.reduceLeDiff, t0, t2, l2, t3, t4, t5, t6, l6]
              exact ⟨_, rfl, kd0, kd4⟩
            | false =>
              simp +contextual (maxSteps := 2000000) only [go_sem, Nat.reduceEqDiff, reduceCtorEq, Nat.reduceAdd, Nat.reduceLeDiff, ↓u132_14, t0, t2, l2, t3, t4, t5, t6, l6, es, sg, v1]
              refine J _ _ _ ?_
              simp +contextual (maxSteps := 2000000) only [go_sem, Nat.reduceEqDiff, reduceCtorEq, Nat.reduceAdd, Nat.reduceLeDiff, t0, t2, l2, t3, t4, t5, t6, l6]
              refine ⟨_, rfl, ?_⟩
              split <;> omega
          · clear t0 t2 l2 t3 t4 t5 t6 l6
            rintro T L h2 ⟨rfl, t0, t2, l2, t3, ⟨kd, t4, kd0, kd4⟩, t5, t6, l6⟩
            simp +contextual (maxSteps := 2000000) only [go_sem, Nat.reduceEqDiff, reduceCtorEq, Nat.reduceAdd, Nat.reduceLeDiff, ↓u132_13, t0, t2, l2, t3, t4, t5, t6, l6]
            refine wp_lit (enc := encQ) (k := 4) (l := [x]) rfl rfl ?_
            intro h3 w3 g3 n3 b3
            have ns3 := ns.grow g3
            simp +contextual (maxSteps := 2000000) only [go_sem, Nat.reduceEqDiff, reduceCtorEq, Nat.reduceAdd, Nat.reduceLeDiff, t0, t2, l2, t3, t4, t5, t6, l6]
            refine wp_call (c_copyParams l s h3 (ns3.sl lenQ) (by unfold big; omega)) ?_
            rintro q h5 ⟨g5, n5⟩
            simp +contextual (maxSteps := 2000000) only [go_sem, Nat.reduceEqDiff, reduceCtorEq, Nat.reduceAdd, Nat.reduceLeDiff, t0, t2, l2, t3, t4, t5, t6, l6]
            refine wp_append lenQ n5 ((n3.sl lenQ).grow g5) g5 (by simp; omega) ?_
            intro h6 s6 g6 n6 st6 hb6
            have g26 := g3.trans g6
            have d6 := d.grow g26
            have ns6 := ns.grow g26
            have n6' := n6.from (Nat.le_trans d.st.n g3.n)
            have hs6 : smQ (l ++ [x]) := ⟨by simp; unfold big; omega, fun y hy => by
              rcases List.mem_append.1 hy with hy | hy
              · exact Nat.le_trans (hl2 y hy) (by decide)
              · rw [List.mem_singleton.1 hy]; exact Nat.le_trans hx (by decide)⟩
            have ev := c_validParams (l ++ [x]) s6 h6 (n6.sl lenQ) hs6
            have ej : m - (k + 1) = j := by omega
            cases eo : okSig (l ++ [x]) with
            | true =>
              simp +contextual (maxSteps := 2000000) only [go_sem, Nat.reduceEqDiff, reduceCtorEq, Nat.reduceAdd, Nat.reduceLeDiff, t0, t2, l2, t3, t4, t5, t6, l6, ev, eo, wrap_pred (show j < 2 ^ 62 by omega)]
              refine ⟨⟨s6, l ++ [x], rfl, n6', by simp; omega, fun y hy => ?_⟩, ⟨_, rfl, kd0, kd4⟩, by rw [ej], d6.more (by omega)⟩
              rcases List.mem_append.1 hy with hy | hy
              · exact hl2 y hy
              · rw [List.mem_singleton.1 hy]; exact hx
            | false =>
              simp +contextual (maxSteps := 2000000) only [go_sem, Nat.reduceEqDiff, reduceCtorEq, Nat.reduceAdd, Nat.reduceLeDiff, t0, t2, l2, t3, t4, t5, t6, l6, ev, eo, wrap_pred (show j < 2 ^ 62 by omega)]
              exact ⟨⟨s, l, rfl, ns6, by omega, hl2⟩, ⟨_, rfl, kd0, kd4⟩, by rw [ej], d6.more (by omega)⟩
    · rintro T L h' ⟨t0, t2, l2, ⟨s, l, t3, ns, hl1, hl2⟩, ⟨kd, t4, kd0, kd4⟩, t5, d⟩
      rw [Nat.sub_self] at t5
      have hz : decide (((0 : Nat) : Int) > 0) = false := rfl
      obtain ⟨c, rfl⟩ := ns.one
      have d := d.more (show 2 + 5 * m ≤ 42 by omega)
      simp +contextual (maxSteps := 2000000) only [go_sem, Nat.reduceEqDiff, reduceCtorEq, Nat.reduceAdd, Nat.reduceLeDiff, t0, t2, l2, t3, t4, t5, hz]
      exact gcK_drew r d ⟨⟨c, l, rfl, ns, ⟨by omega, hl2⟩⟩, d⟩
    · simp +contextual (maxSteps := 2000000) only [go_sem, Nat.reduceEqDiff, reduceCtorEq, Nat.reduceAdd, Nat.reduceLeDiff, t0, t2, l2, t3, t4]
      exact ⟨⟨w1, [], rfl, n4, Nat.le_refl 0, fun x hx => by simp at hx⟩, ⟨kd, rfl, kd0, kd4⟩, rfl, d4⟩
end Go.Proofs.Ytekkimfdcbgcoac.Am
