/- The law FnPartialSignatureFree. -/
import Derived.Test.YtekkimfdcbgcoacPF
import Derived.Test.YtekkimfdcbgcoacDP
import Derived.Test.YtekkimfdcbgcoacPV
import Derived.Test.YtekkimfdcbgcoacPQ
import Derived.Test.YtekkimfdcbgcoacTC
namespace Go.Proofs.Ytekkimfdcbgcoac.Am
open Go
attribute [local go_sem] loadL_agg
set_option maxRecDepth 100000
set_option maxHeartbeats 4000000
set_option linter.unusedSimpArgs false
set_option linter.unusedVariables false
attribute [local go_sem ↓] bv_t bv_c ev_t ev_c put_same put_ne put_none kill_at pro_at lb_same lb_ne start_zero start_succ wpC_seq wpC_reg wpC_cond wpC_block wpC_skip wpC_exit wpC_ret thenQ_normal thenQ_exit thenQ_ret inBlk_normal inBlk_exit inBlk_ret wpS_nil wpS_step wpS_again wpS_guard wpO_mov wpO_load wpO_faddr wpO_nilCheck wpO_pick wpO_build wpO_bin wpO_eqb wpO_eqst wpO_eqnil wpO_not wpO_conv wpO_bytesStr wpO_iaddr wpO_idxStr wpO_field wpO_extract wpO_len wpO_lenStr wpO_cap wpO_min wpO_slice wpO_sliceStr wpO_alloc wpO_box wpO_store wpO_call wpO_callv wpO_mkfn wpO_buildSlice wpO_mkslice wpO_append wpO_appz proA_nil proA_cons tmpX_nil tmpX_tmp tmpX_cell doneB_normal doneB_ret agK_cons agK_nil agK_guard agG_tt agG_ff agG_tf agG_ft agG_undef pureB_load results_one results_two results_nil resBs_cons resBs_nil resB_tmp resB_cell
attribute [local go_sem] kill_v kill_lp_ne kill_lp_same pro_v pro_lp_same pro_lp_ne av_v av_lp optB_some optX_some valX_eq ldX_lp ldX_v faX_lp faX_v ncX_lp ncX_ptr ncX_fn boxK_one boxK_agg stL_some stK_lp_one stK_lp_agg stK_v_one stK_v_agg proM_v proM_lp callG_mk callVG_mk callvK_fn fnG_mk ptrsA_nil ptrsA_cons callH_some whenA_true whenA_false guardH_tt guardH_ff guardH_tf guardH_ft guardH_undef agV_one agV_agg lenO_sl lenStrO_str notO_bool pickO_bool convO_int eqbO_bool eqnilO_sl extractO_tup capO_sl minO_int loadL_one loadL_all storeL_eq fillA_nil fillA_one fillA_agg nat_ge neg_ge nat_lt neg_lt buildO bin_add bin_sub bin_mul bin_eql bin_neq bin_lss bin_leq bin_gtr bin_geq str_eql str_neq str_lss str_leq str_gtr str_geq retK_some endK_mk gcK_same gcK_int gcK_bool tupO_one tupO_agg rdy_self ib ii Option.map_none Option.map_some Option.some.injEq exists_eq_left' exists_eq_left ne_eq not_false_eq_true if_true if_false List.map_cons List.map_nil List.getElem?_cons_zero List.getElem?_cons_succ List.length_cons List.length_nil List.take_succ_cons List.take_zero List.take_nil List.drop_succ_cons List.drop_zero List.drop_nil List.cons_append List.nil_append List.append_nil List.set_cons_zero List.set_cons_succ Nat.zero_add forall_const true_and and_true and_self Bool.false_eq_true false_implies true_implies implies_true Bool.not_true Bool.not_false Bool.not_eq_true' Bool.not_eq_false' beq_self_eq_true Bool.bne_true Bool.bne_false
attribute [local go_sem] lenI lenS lenP lenQ lenB lenL lenT encI_0 encS_0 encP_0 encP_1 encQ_0 encQ_1 encQ_2 encQ_3 encB_0 encB_1 encL_0 encL_1 encT_0 encT_1
attribute [local go_sem low] whenA_bool guardH_bool
/-! impl.NeededParams$1 -/
def L68_0 : List AStep := [⟨.box 44 (.t 0), (some 1), none, []⟩, ⟨.mov (.c (.bool false)), (some 2), none, []⟩]
theorem v68_0 : VS L68_0.eq_1 := rfl
def L68_1 : List AStep := [⟨.pick (.t 5) (.t 8) (.c (.bool false)), (some 9), none, []⟩, ⟨.mov (.t 9), (some 2), none, []⟩]
theorem v68_1 : VS L68_1.eq_1 := rfl
def L68_2 : List AStep := ⟨.load 1 false (.t 6), (some 7), (some (5, true)), []⟩ :: ⟨.not (.t 7), (some 8), (some (5, true)), []⟩ :: L68_1
theorem v68_2 : VS L68_2.eq_1 := rfl
def L68_3 : List AStep := ⟨.mov (.t 4), (some 5), none, []⟩ :: ⟨.faddr 2 (.t 1), (some 6), (some (5, true)), []⟩ :: L68_2
theorem v68_3 : VS L68_3.eq_1 := rfl
def L68_4 : List AStep := ⟨.load 4 true (.t 1), (some 3), none, []⟩ :: ⟨.call 69 [(.t 3)], (some 4), none, []⟩ :: L68_3
theorem v68_4 : VS L68_4.eq_1 := rfl
def C68_0 : ACode := .seq (.reg L68_4) .ret
theorem u68_0 : VC C68_0.eq_1 := rfl
def C68_1 : ACode := .seq (.reg L68_0) C68_0
theorem u68_1 : VC C68_1.eq_1 := rfl
def F68 : AFunc := ⟨10, [.tmp 2], C68_1⟩
theorem cF68 : compB Try.prog 68 = some F68 := by kernel_rfl
attribute [local go_sem ↓] u68_0 u68_1 v68_0 v68_1 v68_2 v68_3 v68_4
theorem c_need1 (x : Param) (h : H) : bm Try.prog 68 [.agg (encQ x)] h = some (ib (needP x), h) := by
  refine bm_eq cF68 ?_
  have e := c_single x h
  simp only [encQ] at e
  unfold needP
  cases b : single x with
  | false => simp +contextual (maxSteps := 2000000) only [go_sem, Nat.reduceEqDiff, reduceCtorEq, Nat.reduceAdd, Nat.reduceLeDiff, F68, e, encQ, b, Bool.false_and]
  | true => simp +contextual (maxSteps := 2000000) only [go_sem, Nat.reduceEqDiff, reduceCtorEq, Nat.reduceAdd, Nat.reduceLeDiff, F68, e, encQ, b, Bool.true_and]
/-! impl.NeededParams -/
def L26_0 : List AStep := [⟨.box 25 (.t 0), (some 1), none, []⟩, ⟨.mov (.c (.sl none 0 (some 0))), (some 2), none, []⟩]
theorem v26_0 : VS L26_0.eq_1 := rfl
def L26_1 : List AStep := [⟨.not (.t 4), (some 5), none, []⟩]
theorem v26_1 : VS L26_1.eq_1 := rfl
def L26_2 : List AStep := ⟨.load 1 true (.t 1), (some 3), none, []⟩ :: ⟨.call 27 [(.t 3)], (some 4), none, []⟩ :: L26_1
theorem v26_2 : VS L26_2.eq_1 := rfl
def L26_3 : List AStep := [⟨.mov (.c (.sl none 0 (some 0))), (some 2), none, []⟩]
theorem v26_3 : VS L26_3.eq_1 := rfl
def L26_4 : List AStep := [⟨.mov (.t 7), (some 2), none, []⟩]
theorem v26_4 : VS L26_4.eq_1 := rfl
def L26_5 : List AStep := ⟨.load 1 true (.t 1), (some 6), none, []⟩ :: ⟨.call 67 [(.t 6), (.c (.fn 68 []))], (some 7), none, []⟩ :: L26_4
theorem v26_5 : VS L26_5.eq_1 := rfl
def C26_0 : ACode := .seq (.reg L26_3) .ret
theorem u26_0 : VC C26_0.eq_1 := rfl
def C26_1 : ACode := .cond (.t 5) C26_0 .skip
theorem u26_1 : VC C26_1.eq_1 := rfl
def C26_2 : ACode := .seq (.reg L26_2) C26_1
theorem u26_2 : VC C26_2.eq_1 := rfl
def C26_3 : ACode := .seq (.reg L26_5) .ret
theorem u26_3 : VC C26_3.eq_1 := rfl
def C26_4 : ACode := .seq C26_2 C26_3
theorem u26_4 : VC C26_4.eq_1 := rfl
def C26_5 : ACode := .seq (.reg L26_0) C26_4
theorem u26_5 : VC C26_5.eq_1 := rfl
def F26 : AFunc := ⟨8, [.tmp 2], C26_5⟩
theorem cF26 : compB Try.prog 26 = some F26 := by kernel_rfl
attribute [local go_sem ↓] u26_0 u26_1 u26_2 u26_3 u26_4 u26_5 v26_0 v26_1 v26_2 v26_3 v26_4 v26_5
theorem c_NeededParams (l : List Param) (q : CV) (h : H) (hl : SlG h q l) (hn : miniG l) (ok : okSig l = true) : callK (bm Try.prog 26 [.agg [q]] h) fun r h' => Grow h h' ∧ NwS h h' r ((l.filter needP).map Param.name) := by
  refine bm_of cF26 ?_
  have e := c_namesG l q 68 [] needP h hl.out (by have := okSig_len ok; omega) (fun h' _ x => c_need1 x h')
  simp +contextual (maxSteps := 2000000) only [go_sem, Nat.reduceEqDiff, reduceCtorEq, Nat.reduceAdd, Nat.reduceLeDiff, F26, c_ValidSignature _ _ _ hl.out hn.sm, ok]
  refine wp_call e ?_
  rintro r h1 ⟨g1, n1⟩
  simp +contextual (maxSteps := 2000000) only [go_sem, Nat.reduceEqDiff, reduceCtorEq, Nat.reduceAdd, Nat.reduceLeDiff]
  exact gcK_of ⟨g1, n1⟩ (fun hs _ => ⟨Grow.refl h, n1.scalar hs h⟩)
/-! laws.FnPartialSignatureFree -/
def L5_0 : List AStep := [⟨.mov (.c (.bool false)), (some 2), none, []⟩]
theorem v5_0 : VS L5_0.eq_1 := rfl
def L5_1 : List AStep := [⟨.bin .gtr (.t 14) (.c (.int .i64 1048576)), (some 15), none, []⟩]
theorem v5_1 : VS L5_1.eq_1 := rfl
def L5_2 : List AStep := ⟨.mov (.t 0), (some 13), none, []⟩ :: ⟨.len (.t 13), (some 14), none, []⟩ :: L5_1
theorem v5_2 : VS L5_2.eq_1 := rfl
def L5_3 : List AStep := [⟨.mov (.c (.bool true)), (some 2), none, []⟩]
theorem v5_3 : VS L5_3.eq_1 := rfl
def L5_4 : List AStep := [⟨.alloc 31 [(.sl none 0 (some 0)), (.sl none 0 (some 0)), (.sl none 0 (some 0))], (some 3), none, []⟩, ⟨.store 3 (.t 3) (.t 17), none, none, []⟩]
theorem v5_4 : VS L5_4.eq_1 := rfl
def L5_5 : List AStep := ⟨.mov (.t 0), (some 16), none, []⟩ :: ⟨.call 22 [(.t 16)], (some 17), none, []⟩ :: L5_4
theorem v5_5 : VS L5_5.eq_1 := rfl
def L5_6 : List AStep := [⟨.store 1 (.t 4) (.t 21), none, none, []⟩, ⟨.mov (.t 22), (some 5), none, []⟩]
theorem v5_6 : VS L5_6.eq_1 := rfl
def L5_7 : List AStep := ⟨.extract (.t 18) 1, (some 22), none, []⟩ :: ⟨.alloc 25 [(.sl none 0 (some 0))], (some 4), none, []⟩ :: L5_6
theorem v5_7 : VS L5_7.eq_1 := rfl
def L5_8 : List AStep := ⟨.mov (.t 20), (some 18), none, []⟩ :: ⟨.extract (.t 18) 0, (some 21), none, []⟩ :: L5_7
theorem v5_8 : VS L5_8.eq_1 := rfl
def L5_9 : List AStep := ⟨.load 3 true (.t 3), (some 19), none, []⟩ :: ⟨.call 23 [(.t 19)], (some 20), none, []⟩ :: L5_8
theorem v5_9 : VS L5_9.eq_1 := rfl
def L5_10 : List AStep := [⟨.store 1 (.t 6) (.t 26), none, none, []⟩, ⟨.mov (.t 27), (some 7), none, []⟩]
theorem v5_10 : VS L5_10.eq_1 := rfl
def L5_11 : List AStep := ⟨.extract (.t 23) 1, (some 27), none, []⟩ :: ⟨.alloc 25 [(.sl none 0 (some 0))], (some 6), none, []⟩ :: L5_10
theorem v5_11 : VS L5_11.eq_1 := rfl
def L5_12 : List AStep := ⟨.mov (.t 25), (some 23), none, []⟩ :: ⟨.extract (.t 23) 0, (some 26), none, []⟩ :: L5_11
theorem v5_12 : VS L5_12.eq_1 := rfl
def L5_13 : List AStep := ⟨.load 3 true (.t 3), (some 24), none, []⟩ :: ⟨.call 24 [(.t 24)], (some 25), none, []⟩ :: L5_12
theorem v5_13 : VS L5_13.eq_1 := rfl
def L5_14 : List AStep := [⟨.pick (.t 37) (.c (.bool true)) (.t 39), (some 40), none, []⟩]
theorem v5_14 : VS L5_14.eq_1 := rfl
def L5_15 : List AStep := ⟨.mov (.t 5), (some 38), (some (37, false)), []⟩ :: ⟨.not (.t 38), (some 39), (some (37, false)), []⟩ :: L5_14
theorem v5_15 : VS L5_15.eq_1 := rfl
def L5_16 : List AStep := ⟨.pick (.t 32) (.c (.bool true)) (.t 35), (some 36), none, []⟩ :: ⟨.mov (.t 36), (some 37), none, []⟩ :: L5_15
theorem v5_16 : VS L5_16.eq_1 := rfl
def L5_17 : List AStep := ⟨.mov (.t 7), (some 34), (some (32, false)), []⟩ :: ⟨.eqb true (.t 33) (.t 34), (some 35), (some (32, false)), []⟩ :: L5_16
theorem v5_17 : VS L5_17.eq_1 := rfl
def L5_18 : List AStep := ⟨.mov (.t 31), (some 32), none, []⟩ :: ⟨.mov (.t 5), (some 33), (some (32, false)), []⟩ :: L5_17
theorem v5_18 : VS L5_18.eq_1 := rfl
def L5_19 : List AStep := ⟨.call 25 [(.t 28), (.t 29)], (some 30), none, []⟩ :: ⟨.not (.t 30), (some 31), none, []⟩ :: L5_18
theorem v5_19 : VS L5_19.eq_1 := rfl
def L5_20 : List AStep := ⟨.load 1 true (.t 4), (some 28), none, []⟩ :: ⟨.load 1 true (.t 6), (some 29), none, []⟩ :: L5_19
theorem v5_20 : VS L5_20.eq_1 := rfl
def L5_21 : List AStep := [⟨.mov (.t 48), (some 2), none, []⟩]
theorem v5_21 : VS L5_21.eq_1 := rfl
def L5_22 : List AStep := ⟨.eqb false (.t 45) (.t 46), (some 47), (some (44, true)), []⟩ :: ⟨.pick (.t 44) (.t 47) (.c (.bool false)), (some 48), none, []⟩ :: L5_21
theorem v5_22 : VS L5_22.eq_1 := rfl
def L5_23 : List AStep := ⟨.mov (.t 5), (some 45), (some (44, true)), []⟩ :: ⟨.mov (.t 7), (some 46), (some (44, true)), []⟩ :: L5_22
theorem v5_23 : VS L5_23.eq_1 := rfl
def L5_24 : List AStep := ⟨.call 25 [(.t 41), (.t 42)], (some 43), none, []⟩ :: ⟨.mov (.t 43), (some 44), none, []⟩ :: L5_23
theorem v5_24 : VS L5_24.eq_1 := rfl
def L5_25 : List AStep := ⟨.load 1 true (.t 4), (some 41), none, []⟩ :: ⟨.load 1 true (.t 6), (some 42), none, []⟩ :: L5_24
theorem v5_25 : VS L5_25.eq_1 := rfl
def L5_26 : List AStep := [⟨.mov (.t 50), (some 8), none, []⟩]
theorem v5_26 : VS L5_26.eq_1 := rfl
def L5_27 : List AStep := ⟨.load 3 true (.t 3), (some 49), none, []⟩ :: ⟨.call 18 [(.t 49)], (some 50), none, []⟩ :: L5_26
theorem v5_27 : VS L5_27.eq_1 := rfl
def L5_28 : List AStep := [⟨.mov (.t 52), (some 9), none, []⟩]
theorem v5_28 : VS L5_28.eq_1 := rfl
def L5_29 : List AStep := ⟨.load 1 true (.t 4), (some 51), none, []⟩ :: ⟨.call 26 [(.t 51)], (some 52), none, []⟩ :: L5_28
theorem v5_29 : VS L5_29.eq_1 := rfl
def L5_30 : List AStep := [⟨.bin .neq (.t 54) (.t 56), (some 57), none, []⟩]
theorem v5_30 : VS L5_30.eq_1 := rfl
def L5_31 : List AStep := ⟨.mov (.t 9), (some 55), none, []⟩ :: ⟨.len (.t 55), (some 56), none, []⟩ :: L5_30
theorem v5_31 : VS L5_31.eq_1 := rfl
def L5_32 : List AStep := ⟨.mov (.t 8), (some 53), none, []⟩ :: ⟨.len (.t 53), (some 54), none, []⟩ :: L5_31
theorem v5_32 : VS L5_32.eq_1 := rfl
def L5_33 : List AStep := [⟨.mov (.c (.bool false)), (some 2), none, []⟩]
theorem v5_33 : VS L5_33.eq_1 := rfl
def L5_34 : List AStep := [⟨.mov (.c (.int .i64 0)), (some 10), none, []⟩]
theorem v5_34 : VS L5_34.eq_1 := rfl
def L5_35 : List AStep := [⟨.len (.t 59), (some 60), none, []⟩, ⟨.bin .lss (.t 58) (.t 60), (some 61), none, []⟩]
theorem v5_35 : VS L5_35.eq_1 := rfl
def L5_36 : List AStep := ⟨.mov (.t 10), (some 58), none, []⟩ :: ⟨.mov (.t 8), (some 59), none, []⟩ :: L5_35
theorem v5_36 : VS L5_36.eq_1 := rfl
def L5_37 : List AStep := [⟨.not (.t 69), (some 70), none, []⟩]
theorem v5_37 : VS L5_37.eq_1 := rfl
def L5_38 : List AStep := ⟨.load 1 false (.t 67), (some 68), none, []⟩ :: ⟨.call 16 [(.t 64), (.t 68)], (some 69), none, []⟩ :: L5_37
theorem v5_38 : VS L5_38.eq_1 := rfl
def L5_39 : List AStep := ⟨.mov (.t 10), (some 66), none, []⟩ :: ⟨.iaddr 1 (.t 65) (.t 66), (some 67), none, []⟩ :: L5_38
theorem v5_39 : VS L5_39.eq_1 := rfl
def L5_40 : List AStep := ⟨.mov (.t 9), (some 64), none, []⟩ :: ⟨.mov (.t 8), (some 65), none, []⟩ :: L5_39
theorem v5_40 : VS L5_40.eq_1 := rfl
def L5_41 : List AStep := [⟨.mov (.c (.bool false)), (some 2), none, []⟩]
theorem v5_41 : VS L5_41.eq_1 := rfl
def L5_42 : List AStep := [⟨.mov (.t 63), (some 10), none, []⟩]
theorem v5_42 : VS L5_42.eq_1 := rfl
def L5_43 : List AStep := ⟨.mov (.t 10), (some 62), none, []⟩ :: ⟨.bin .add (.t 62) (.c (.int .i64 1)), (some 63), none, []⟩ :: L5_42
theorem v5_43 : VS L5_43.eq_1 := rfl
def L5_44 : List AStep := [⟨.mov (.t 72), (some 11), none, []⟩]
theorem v5_44 : VS L5_44.eq_1 := rfl
def L5_45 : List AStep := ⟨.load 3 true (.t 3), (some 71), none, []⟩ :: ⟨.call 10 [(.t 71)], (some 72), none, []⟩ :: L5_44
theorem v5_45 : VS L5_45.eq_1 := rfl
def L5_46 : List AStep := [⟨.mov (.c (.int .i64 0)), (some 12), none, []⟩]
theorem v5_46 : VS L5_46.eq_1 := rfl
def L5_47 : List AStep := [⟨.len (.t 74), (some 75), none, []⟩, ⟨.bin .lss (.t 73) (.t 75), (some 76), none, []⟩]
theorem v5_47 : VS L5_47.eq_1 := rfl
def L5_48 : List AStep := ⟨.mov (.t 12), (some 73), none, []⟩ :: ⟨.mov (.t 11), (some 74), none, []⟩ :: L5_47
theorem v5_48 : VS L5_48.eq_1 := rfl
def L5_49 : List AStep := [⟨.bin .lss (.t 84) (.c (.int .i64 0)), (some 85), none, []⟩]
theorem v5_49 : VS L5_49.eq_1 := rfl
def L5_50 : List AStep := ⟨.load 1 false (.t 82), (some 83), none, []⟩ :: ⟨.call 20 [(.t 79), (.t 83)], (some 84), none, []⟩ :: L5_49
theorem v5_50 : VS L5_50.eq_1 := rfl
def L5_51 : List AStep := ⟨.mov (.t 12), (some 81), none, []⟩ :: ⟨.iaddr 1 (.t 80) (.t 81), (some 82), none, []⟩ :: L5_50
theorem v5_51 : VS L5_51.eq_1 := rfl
def L5_52 : List AStep := ⟨.load 1 true (.t 4), (some 79), none, []⟩ :: ⟨.mov (.t 11), (some 80), none, []⟩ :: L5_51
theorem v5_52 : VS L5_52.eq_1 := rfl
def L5_53 : List AStep := [⟨.mov (.c (.bool false)), (some 2), none, []⟩]
theorem v5_53 : VS L5_53.eq_1 := rfl
def L5_54 : List AStep := [⟨.mov (.t 78), (some 12), none, []⟩]
theorem v5_54 : VS L5_54.eq_1 := rfl
def L5_55 : List AStep := ⟨.mov (.t 12), (some 77), none, []⟩ :: ⟨.bin .add (.t 77) (.c (.int .i64 1)), (some 78), none, []⟩ :: L5_54
theorem v5_55 : VS L5_55.eq_1 := rfl
def L5_56 : List AStep := [⟨.mov (.t 87), (some 2), none, []⟩]
theorem v5_56 : VS L5_56.eq_1 := rfl
def L5_57 : List AStep := ⟨.load 1 true (.t 4), (some 86), none, []⟩ :: ⟨.call 27 [(.t 86)], (some 87), none, []⟩ :: L5_56
theorem v5_57 : VS L5_57.eq_1 := rfl
def C5_0 : ACode := .seq (.reg L5_3) .ret
theorem u5_0 : VC C5_0.eq_1 := rfl
def C5_1 : ACode := .cond (.t 15) C5_0 .skip
theorem u5_1 : VC C5_1.eq_1 := rfl
def C5_2 : ACode := .seq (.reg L5_2) C5_1
theorem u5_2 : VC C5_2.eq_1 := rfl
def C5_3 : ACode := .seq (.reg L5_25) .ret
theorem u5_3 : VC C5_3.eq_1 := rfl
def C5_4 : ACode := .cond (.t 40) C5_3 .skip
theorem u5_4 : VC C5_4.eq_1 := rfl
def C5_5 : ACode := .seq (.reg L5_20) C5_4
theorem u5_5 : VC C5_5.eq_1 := rfl
def C5_6 : ACode := .seq (.reg L5_33) .ret
theorem u5_6 : VC C5_6.eq_1 := rfl
def C5_7 : ACode := .cond (.t 57) C5_6 .skip
theorem u5_7 : VC C5_7.eq_1 := rfl
def C5_8 : ACode := .seq (.reg L5_32) C5_7
theorem u5_8 : VC C5_8.eq_1 := rfl
def C5_9 : ACode := .cond (.t 61) .skip (.exit 0)
theorem u5_9 : VC C5_9.eq_1 := rfl
def C5_10 : ACode := .seq (.reg L5_36) C5_9
theorem u5_10 : VC C5_10.eq_1 := rfl
def C5_11 : ACode := .seq (.reg L5_41) .ret
theorem u5_11 : VC C5_11.eq_1 := rfl
def C5_12 : ACode := .cond (.t 70) C5_11 .skip
theorem u5_12 : VC C5_12.eq_1 := rfl
def C5_13 : ACode := .seq (.reg L5_40) C5_12
theorem u5_13 : VC C5_13.eq_1 := rfl
def C5_14 : ACode := .block 1 C5_13
theorem u5_14 : VC C5_14.eq_1 := rfl
def C5_15 : ACode := .seq C5_14 (.reg L5_43)
theorem u5_15 : VC C5_15.eq_1 := rfl
def C5_16 : ACode := .seq C5_10 C5_15
theorem u5_16 : VC C5_16.eq_1 := rfl
def C5_17 : ACode := .block 0 (.loop C5_16)
theorem u5_17 : VC C5_17.eq_1 := rfl
def C5_18 : ACode := .seq (.reg L5_34) C5_17
theorem u5_18 : VC C5_18.eq_1 := rfl
def C5_19 : ACode := .cond (.t 76) .skip (.exit 2)
theorem u5_19 : VC C5_19.eq_1 := rfl
def C5_20 : ACode := .seq (.reg L5_48) C5_19
theorem u5_20 : VC C5_20.eq_1 := rfl
def C5_21 : ACode := .seq (.reg L5_53) .ret
theorem u5_21 : VC C5_21.eq_1 := rfl
def C5_22 : ACode := .cond (.t 85) C5_21 .skip
theorem u5_22 : VC C5_22.eq_1 := rfl
def C5_23 : ACode := .seq (.reg L5_52) C5_22
theorem u5_23 : VC C5_23.eq_1 := rfl
def C5_24 : ACode := .block 3 C5_23
theorem u5_24 : VC C5_24.eq_1 := rfl
def C5_25 : ACode := .seq C5_24 (.reg L5_55)
theorem u5_25 : VC C5_25.eq_1 := rfl
def C5_26 : ACode := .seq C5_20 C5_25
theorem u5_26 : VC C5_26.eq_1 := rfl
def C5_27 : ACode := .block 2 (.loop C5_26)
theorem u5_27 : VC C5_27.eq_1 := rfl
def C5_28 : ACode := .seq (.reg L5_46) C5_27
theorem u5_28 : VC C5_28.eq_1 := rfl
def C5_29 : ACode := .seq (.reg L5_57) .ret
theorem u5_29 : VC C5_29.eq_1 := rfl
def C5_30 : ACode := .seq C5_28 C5_29
theorem u5_30 : VC C5_30.eq_1 := rfl
def C5_31 : ACode := .seq (.reg L5_45) C5_30
theorem u5_31 : VC C5_31.eq_1 := rfl
def C5_32 : ACode := .seq C5_18 C5_31
theorem u5_32 : VC C5_32.eq_1 := rfl
def C5_33 : ACode := .seq C5_8 C5_32
theorem u5_33 : VC C5_33.eq_1 := rfl
def C5_34 : ACode := .seq (.reg L5_29) C5_33
theorem u5_34 : VC C5_34.eq_1 := rfl
def C5_35 : ACode := .seq (.reg L5_27) C5_34
theorem u5_35 : VC C5_35.eq_1 := rfl
def C5_36 : ACode := .seq C5_5 C5_35
theorem u5_36 : VC C5_36.eq_1 := rfl
def C5_37 : ACode := .seq (.reg L5_13) C5_36
theorem u5_37 : VC C5_37.eq_1 := rfl
def C5_38 : ACode := .seq (.reg L5_9) C5_37
theorem u5_38 : VC C5_38.eq_1 := rfl
def C5_39 : ACode := .seq (.reg L5_5) C5_38
theorem u5_39 : VC C5_39.eq_1 := rfl
def C5_40 : ACode := .seq C5_2 C5_39
theorem u5_40 : VC C5_40.eq_1 := rfl
def C5_41 : ACode := .seq (.reg L5_0) C5_40
theorem u5_41 : VC C5_41.eq_1 := rfl
def F5 : AFunc := ⟨88, [.tmp 2], C5_41⟩
theorem cF5 : compB Try.prog 5 = some F5 := by kernel_rfl
attribute [local go_sem ↓] u5_0 u5_1 u5_2 u5_3 u5_4 u5_5 u5_6 u5_7 u5_8 u5_9 u5_10 u5_11 u5_12 u5_13 u5_14 u5_15 u5_16 u5_17 u5_18 u5_19 u5_20 u5_21 u5_22 u5_23 u5_24 u5_25 u5_26 u5_27 u5_28 u5_29 u5_30 u5_31 u5_32 u5_33 u5_34 u5_35 u5_36 u5_37 u5_38 u5_39 u5_40 u5_41 v5_0 v5_1 v5_2 v5_3 v5_4 v5_5 v5_6 v5_7 v5_8 v5_9 v5_10 v5_11 v5_12 v5_13 v5_14 v5_15 v5_16 v5_17 v5_18 v5_19 v5_20 v5_21 v5_22 v5_23 v5_24 v5_25 v5_26 v5_27 v5_28 v5_29 v5_30 v5_31 v5_32 v5_33 v5_34 v5_35 v5_36 v5_37 v5_38 v5_39 v5_40 v5_41 v5_42 v5_43 v5_44 v5_45 v5_46 v5_47 v5_48 v5_49 v5_50 v5_51 v5_52 v5_53 v5_54 v5_55 v5_56 v5_57
theorem law5 (h : H) (avs : List AV) (hok : okVs Try.prog h 6 [ 22 ] avs) : callK (bm Try.prog 5 avs h) fun r _ => r = ib true := by
  obtain ⟨v0, avs, rfl, hv0, hok⟩ := okVs_cons hok
  obtain rfl := okVs_nil hok
  obtain ⟨v, code, rfl, s0, hc, k0⟩ := dBytes hv0
  refine bm_of cF5 ?_
  cases b0 : decide ((code.length : Int) > 1048576) with
  | true => simp +contextual (maxSteps := 2000000) only [go_sem, Nat.reduceEqDiff, reduceCtorEq, Nat.reduceAdd, Nat.reduceLeDiff, F5, s0.len, b0]
  | false =>
  simp +contextual (maxSteps := 2000000) only [go_sem, Nat.reduceEqDiff, reduceCtorEq, Nat.reduceAdd, Nat.reduceLeDiff, F5, s0.len, b0]
  refine wp_call (c_drawPartialSignature code v h s0 hc) ?_
  rintro q h1 ⟨g1, u, x, y, l, f, rfl, sq, sf, tl, mf⟩
  have sd : SlD h1 u x y ⟨l, f⟩ := ⟨⟨sq⟩, sf⟩
  have md : miniD ⟨l, f⟩ := ⟨tl.mini, mf⟩
  simp +contextual (maxSteps := 2000000) only [go_sem, Nat.reduceEqDiff, reduceCtorEq, Nat.reduceAdd, Nat.reduceLeDiff]
  refine wp_call (k_iPartialSignature ⟨l, f⟩ u x y h1 sd md) ?_
  rintro r h2 ⟨g2, c, rfl, z⟩
  have sd2 : SlD h2 u x y ⟨l, f⟩ := ⟨sd.g.grow g2, sd.f.grow g2⟩
  simp +contextual (maxSteps := 2000000) only [go_sem, Nat.reduceEqDiff, reduceCtorEq, Nat.reduceAdd, Nat.reduceLeDiff]
  refine wp_call (k_sPartialSignature ⟨l, f⟩ u x y h2 sd2 md) ?_
  rintro r h3 ⟨g3, c2, rfl, z2⟩
  have sd3 : SlD h3 u x y ⟨l, f⟩ := ⟨sd2.g.grow g3, sd2.f.grow g3⟩
  have mw : miniG (psF l f) := .ps
  have so : SlG h3 c (psF l f) := ⟨(z.sl lenQ).grow g3⟩
  have eq : bm Try.prog 25 [.agg [c], .agg [c2]] h3 = some (ib true, h3) := by
    have := c_equalSignature (psF l f) (psF l f) c c2 h3 so.out (z2.sl lenQ) (Nat.le_trans mw.len (by decide))
    rwa [decide_eq_true rfl] at this
  have ebb : ∀ b : Bool, (b == b) = true := fun b => by cases b <;> rfl
  have enb : ∀ b : Bool, (!(b == b)) = false := fun b => by cases b <;> rfl
  cases b1 : psOk l f with
  | false =>
    simp +contextual (maxSteps := 2000000) only [go_sem, Nat.reduceEqDiff, reduceCtorEq, Nat.reduceAdd, Nat.reduceLeDiff, eq, ebb, enb]
    exact gcK_of rfl (fun _ _ => rfl)
  | true =>
  obtain ⟨hp, okw, ef⟩ := ps_parts b1
  have okw' : okSig (psF l f) = true := by rw [ef]; exact okw
  have hneed : ((psF l f).filter needP).map Param.name = lackF l f := by rw [ef]; exact need_all hp
  have hfree : ∀ s ∈ freeAll l f, paramAt (psF l f) s ≥ 0 := by rw [ef]; exact free_in hp
  have hl8 := okSig_len (part_fits hp).1
  have hfl : (freeAll l f).length ≤ 8 := by
    unfold freeAll freeF
    rw [if_pos hp]
    exact Nat.le_trans pickF_len hl8
  have hll : (lackF l f).length ≤ 8 := by
    unfold lackF freeF
    rw [if_pos hp]
    exact Nat.le_trans pickF_len hl8
  simp +contextual (maxSteps := 2000000) only [go_sem, Nat.reduceEqDiff, reduceCtorEq, Nat.reduceAdd, Nat.reduceLeDiff, eq, ebb, enb]
  refine wp_call (k_iLackOf ⟨l, f⟩ u x y h3 sd3 md) ?_
  rintro q4 h4 ⟨g4, w4, rfl, n4⟩
  have s4 : SlS h4 (.one w4) (lackF l f) := n4.out.sl lenS
  have so4 := so.grow g4
  simp +contextual (maxSteps := 2000000) only [go_sem, Nat.reduceEqDiff, reduceCtorEq, Nat.reduceAdd, Nat.reduceLeDiff]
  refine wp_call (c_NeededParams (psF l f) c h4 so4 mw okw') ?_
  rintro q5 h5 ⟨g5, n5⟩
  obtain ⟨w5, rfl⟩ := n5.one
  rw [hneed] at n5
  have s45 := s4.grow g5
  have s5 : SlS h5 (.one w5) (lackF l f) := n5.sl lenS
  have so5 := so4.grow g5
  have sd5 : SlD h5 u x y ⟨l, f⟩ := ⟨(sd3.g.grow g4).grow g5, (sd3.f.grow g4).grow g5⟩
  have eh := fun s => c_hasText (lackF l f) (.one w5) s h5 s5 (Nat.le_trans hll (by decide))
  simp +contextual (maxSteps := 2000000) only [go_sem, Nat.reduceEqDiff, reduceCtorEq, Nat.reduceAdd, Nat.reduceLeDiff, s45.len, s5.len, decide_true]
  refine wpC_loop (fun i T L h' => h' = h5 ∧ T 3 = .lp 3 0 ∧ (L 3).2 = [u, x, y] ∧ T 4 = .lp 4 0 ∧ (L 4).2 = [c] ∧ T 8 = .v (.one w4) ∧ T 9 = .v (.one w5) ∧ T 10 = .v (.one (.int .i64 i))) (lackF l f).length ?_ ?_ (Nat.zero_le _) ?_
  · rintro i T L h' hi ⟨rfl, t3, l3, t4, l4, t8, t9, t10⟩
    have e1 := eh (lackF l f)[i]
    have e2 : hasT (lackF l f) (lackF l f)[i] = true := List.any_eq_true.2 ⟨_, List.getElem_mem hi, by simp⟩
    rw [e2] at e1
    simp +contextual (maxSteps := 2000000) only [go_sem, Nat.reduceEqDiff, reduceCtorEq, Nat.reduceAdd, Nat.reduceLeDiff, t3, l3, t4, l4, t8, t9, t10, s45.len, s45.iaddr hi, s45.oneO hi, lt_true hi, e1]
    rw [wrap_next hi (by omega)]
  · rintro T L h' ⟨rfl, t3, l3, t4, l4, t8, t9, t10⟩
    simp +contextual (maxSteps := 2000000) only [go_sem, Nat.reduceEqDiff, reduceCtorEq, Nat.reduceAdd, Nat.reduceLeDiff, t3, l3, t4, l4, t8, t9, t10, s45.len, lt_false]
    refine wp_call (k_iFreeParams ⟨l, f⟩ u x y h' sd5 md) ?_
    rintro q6 h6 ⟨g6, w6, rfl, n6⟩
    have s6 : SlS h6 (.one w6) (freeAll l f) := n6.out.sl lenS
    have so6 := so5.grow g6
    have ef := fun s => c_FindParam (psF l f) c s h6 so6 mw okw'
    have ev := c_ValidSignature (psF l f) c h6 so6.out mw.sm
    rw [okw'] at ev
    simp +contextual (maxSteps := 2000000) only [go_sem, Nat.reduceEqDiff, reduceCtorEq, Nat.reduceAdd, Nat.reduceLeDiff, t3, l3, t4, l4]
    refine wpC_loop (fun i T L h' => h' = h6 ∧ T 4 = .lp 4 0 ∧ (L 4).2 = [c] ∧ T 11 = .v (.one w6) ∧ T 12 = .v (.one (.int .i64 i))) (freeAll l f).length ?_ ?_ (Nat.zero_le _) ?_
    · rintro i T L h' hi ⟨rfl, t4, l4, t11, t12⟩
      have e1 := ef (freeAll l f)[i]
      have e2 := hfree _ (List.getElem_mem hi)
      simp +contextual (maxSteps := 2000000) only [go_sem, Nat.reduceEqDiff, reduceCtorEq, Nat.reduceAdd, Nat.reduceLeDiff, t4, l4, t11, t12, s6.len, s6.iaddr hi, s6.oneO hi, lt_true hi, e1, decide_eq_false (show ¬ paramAt (psF l f) (freeAll l f)[i] < 0 by omega)]
      rw [wrap_next hi (by omega)]
    · rintro T L h' ⟨rfl, t4, l4, t11, t12⟩
      simp +contextual (maxSteps := 2000000) only [go_sem, Nat.reduceEqDiff, reduceCtorEq, Nat.reduceAdd, Nat.reduceLeDiff, t4, l4, t11, t12, s6.len, lt_false, ev]
      try exact gcK_of rfl (fun _ _ => rfl)
    · simp +contextual (maxSteps := 2000000) only [go_sem, Nat.reduceEqDiff, reduceCtorEq, Nat.reduceAdd, Nat.reduceLeDiff, t4, l4]
      try rfl
  · simp +contextual (maxSteps := 2000000) only [go_sem, Nat.reduceEqDiff, reduceCtorEq, Nat.reduceAdd, Nat.reduceLeDiff]
    try rfl
end Go.Proofs.Ytekkimfdcbgcoac.Am
