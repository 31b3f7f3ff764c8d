/- Contracts: calls that are drawn. -/
import Derived.Test.YtekkimfdcbgcoaaDI
import Derived.Test.YtekkimfdcbgcoaaFS
import Derived.Test.YtekkimfdcbgcoaaE1
namespace Go.Proofs.Ytekkimfdcbgcoaa.Am
open Go
set_option maxRecDepth 100000
set_option maxHeartbeats 4000000
set_option linter.unusedSimpArgs false
set_option linter.unusedVariables false
attribute [local go_sem ↓] bv_t bv_c ev_t ev_c put_same put_ne put_none kill_at pro_at lb_same lb_ne start_zero start_succ wpC_seq wpC_reg wpC_cond wpC_block wpC_skip wpC_exit wpC_ret thenQ_normal thenQ_exit thenQ_ret inBlk_normal inBlk_exit inBlk_ret wpS_nil wpS_step wpS_again wpS_guard wpO_mov wpO_load wpO_faddr wpO_nilCheck wpO_pick wpO_build wpO_bin wpO_eqb wpO_eqst wpO_eqnil wpO_not wpO_conv wpO_bytesStr wpO_iaddr wpO_idxStr wpO_field wpO_extract wpO_len wpO_lenStr wpO_cap wpO_min wpO_slice wpO_sliceStr wpO_alloc wpO_box wpO_store wpO_call wpO_callv wpO_mkfn wpO_buildSlice wpO_mkslice wpO_append wpO_appz proA_nil proA_cons tmpX_nil tmpX_tmp tmpX_cell doneB_normal doneB_ret agK_cons agK_nil agK_guard agG_tt agG_ff agG_tf agG_ft agG_undef pureB_load results_one results_two results_nil resBs_cons resBs_nil resB_tmp resB_cell
attribute [local go_sem] kill_v kill_lp_ne kill_lp_same pro_v pro_lp_same pro_lp_ne av_v av_lp optB_some optX_some valX_eq ldX_lp ldX_v faX_lp faX_v ncX_lp ncX_ptr ncX_fn boxK_one boxK_agg stL_some stK_lp_one stK_lp_agg stK_v_one stK_v_agg proM_v proM_lp callG_mk callVG_mk callvK_fn fnG_mk ptrsA_nil ptrsA_cons callH_some whenA_true whenA_false guardH_tt guardH_ff guardH_tf guardH_ft guardH_undef agV_one agV_agg lenO_sl lenStrO_str notO_bool pickO_bool convO_int eqbO_bool eqnilO_sl extractO_tup capO_sl minO_int loadL_one loadL_all storeL_eq fillA_nil fillA_one fillA_agg nat_ge neg_ge nat_lt neg_lt buildO bin_add bin_sub bin_mul bin_eql bin_neq bin_lss bin_leq bin_gtr bin_geq str_eql str_neq str_lss str_leq str_gtr str_geq retK_some endK_mk gcK_same gcK_int gcK_bool tupO_one tupO_agg rdy_self ib ii Option.map_none Option.map_some Option.some.injEq exists_eq_left' exists_eq_left ne_eq not_false_eq_true if_true if_false List.map_cons List.map_nil List.getElem?_cons_zero List.getElem?_cons_succ List.length_cons List.length_nil List.take_succ_cons List.take_zero List.take_nil List.drop_succ_cons List.drop_zero List.drop_nil List.cons_append List.nil_append List.append_nil List.set_cons_zero List.set_cons_succ Nat.zero_add forall_const true_and and_true and_self Bool.false_eq_true false_implies true_implies implies_true Bool.not_true Bool.not_false Bool.not_eq_true' Bool.not_eq_false' beq_self_eq_true Bool.bne_true Bool.bne_false
attribute [local go_sem] lenI lenS lenP lenQ lenB lenL lenT encI_0 encS_0 encP_0 encP_1 encQ_0 encQ_1 encQ_2 encQ_3 encB_0 encB_1 encL_0 encL_1 encT_0 encT_1
attribute [local go_sem low] whenA_bool guardH_bool
attribute [local go_sem] lenC encC_0 encC_1 encC_2 encC_3
theorem Drew.mid {h h1 : H} {b c : Nat} {p : Int} (d : Drew b p c h h1) : Mid b (b + 1) h h1 := ⟨d.st.n, fun i hi hn => d.st.f i hi fun e => by simp [bR, baseOf] at e; omega⟩
theorem Stay.midR {h h1 : H} {b : Nat} (st : Stay (bR b) h h1) : Mid b (b + 1) h h1 := ⟨st.n, fun i hi hn => st.f i hi fun e => by simp [bR, baseOf] at e; omega⟩
theorem NwC.drew {h0 h h1 : H} {b c : Nat} {p : Int} {v : CV} {rs : List RArg} {l : List Arg} (x : NwC h0 h v rs l) (d : Drew b p c h h1) (hb : b < h0.n) : NwC h0 h1 v rs l := x.mid d.mid hb
theorem cut_mid {h h1 : H} {b : Nat} (st : Stay (bR b) h h1) : Mid b (b + 1) h (h1.cut h.n) := ⟨Nat.le_refl _, fun i hi hn => st.f i hi fun e => by simp [bR, baseOf] at e; omega⟩
structure tinyA (a : Arg) : Prop where
  name : a.name.size ≤ 10
  list : a.list.length ≤ 12
  pairs : a.pairs.length ≤ 10
  nm : ∀ x ∈ a.pairs, x.name.size ≤ 10
theorem miniC.tiny {l : List Arg} (h : l.length ≤ 16) (k : ∀ a ∈ l, tinyA a) : miniC l := by
  refine ⟨by omega, fun a ha => ?_, fun a ha => ?_, fun a ha => ?_, fun a ha x hx => ?_, ?_⟩
  · have := (k a ha).name; omega
  · have := (k a ha).list; omega
  · have := (k a ha).pairs; omega
  · have := (k a ha).nm x hx; omega
  · have := wsum_bound (f := cellsEC) (B := 40) (l := l) (fun a ha => by have := (k a ha).list; have := (k a ha).pairs; unfold cellsEC; omega)
    unfold cellsC
    omega
/-- One more argument, its slices made since h', while the reader drew. -/
theorem push_drew {h0 h' h5 h6 h7 : H} {b : Nat} {v s : CV} {rs : List RArg} {l : List Arg} {r : RArg} {a : Arg} (x : NwC h0 h' v rs l) (st0 : Stay (bR b) h' h5) (hb : b < h0.n) (hn : h0.n ≤ h'.n) (g : Grow h5 h6) (y : NtC h' h6 r a)
    (slvpv : SepC r.lv r.pv) (o : Nw encC 4 64 h0 h7 (.one s) (rs ++ [r])) (st : Stay (.one v) h6 h7) (hs : ∀ i, baseOf (.one s) = some i → baseOf (.one v) = some i ∨ h6.n ≤ i) : NwC h0 h7 s (rs ++ [r]) (l ++ [a]) := by
  have xc := x.mid (cut_mid st0) hb
  refine xc.push ((H.cut_grow st0.n).trans g) (y.from (Nat.le_refl _)) (fun j hj => ⟨(y.list.lt hj).2, (y.list.lt hj).1⟩) (fun j hj => ⟨(y.pairs.lt hj).2, (y.pairs.lt hj).1⟩) slvpv o st hs hn
/-! spec.goodCallOf -/
def L131_0 : List AStep := [⟨.alloc 58 [(.sl none 0 (some 0))], (some 2), none, []⟩]
theorem v131_0 : VS L131_0.eq_1 := rfl
def L131_1 : List AStep := [⟨.alloc 58 [(.sl none 0 (some 0))], (some 3), none, []⟩, ⟨.store 1 (.t 3) (.t 7), none, none, []⟩]
theorem v131_1 : VS L131_1.eq_1 := rfl
def L131_2 : List AStep := ⟨.buildSlice 64 0 [(.int .i64 0), (.str (strOfNums [])), (.sl none 0 (some 0)), (.sl none 0 (some 0))] [], (some 6), none, []⟩ :: ⟨.build [(.sl none 0 (some 0))] [(0, 1, (.t 6))], (some 7), none, []⟩ :: L131_1
theorem v131_2 : VS L131_2.eq_1 := rfl
def L131_3 : List AStep := [⟨.call 109 [(.t 8), (.t 9)], (some 10), none, []⟩, ⟨.mov (.t 10), (some 4), none, []⟩]
theorem v131_3 : VS L131_3.eq_1 := rfl
def L131_4 : List AStep := ⟨.mov (.t 0), (some 8), none, []⟩ :: ⟨.buildSlice 3 4 [(.int .i64 0)] [(0, 1, (.c (.int .i64 2))), (1, 1, (.c (.int .i64 1))), (2, 1, (.c (.int .i64 3))), (3, 1, (.c (.int .i64 0)))], (some 9), none, []⟩ :: L131_3
theorem v131_4 : VS L131_4.eq_1 := rfl
def L131_5 : List AStep := [⟨.mov (.t 4), (some 11), none, []⟩, ⟨.bin .gtr (.t 11) (.c (.int .i64 0)), (some 12), none, []⟩]
theorem v131_5 : VS L131_5.eq_1 := rfl
def L131_6 : List AStep := [⟨.bin .eql (.t 16) (.c (.int .i64 0)), (some 17), none, []⟩]
theorem v131_6 : VS L131_6.eq_1 := rfl
def L131_7 : List AStep := ⟨.mov (.t 0), (some 15), none, []⟩ :: ⟨.call 106 [(.t 15), (.c (.int .i64 3))], (some 16), none, []⟩ :: L131_6
theorem v131_7 : VS L131_7.eq_1 := rfl
def L131_8 : List AStep := [⟨.faddr 0 (.t 3), (some 26), none, []⟩, ⟨.store 1 (.t 26) (.t 25), none, none, []⟩]
theorem v131_8 : VS L131_8.eq_1 := rfl
def L131_9 : List AStep := ⟨.buildSlice 64 1 [(.int .i64 0), (.str (strOfNums [])), (.sl none 0 (some 0)), (.sl none 0 (some 0))] [(0, 4, (.t 23))], (some 24), none, []⟩ :: ⟨.append 64 4 72 (.t 19) (.t 24), (some 25), none, []⟩ :: L131_8
theorem v131_9 : VS L131_9.eq_1 := rfl
def L131_10 : List AStep := ⟨.field 0 1 false (.t 21), (some 22), none, []⟩ :: ⟨.build [(.int .i64 0), (.str (strOfNums [])), (.sl none 0 (some 0)), (.sl none 0 (some 0))] [(0, 1, (.c (.int .i64 1))), (2, 1, (.t 22))], (some 23), none, []⟩ :: L131_9
theorem v131_10 : VS L131_10.eq_1 := rfl
def L131_11 : List AStep := ⟨.mov (.t 0), (some 20), none, []⟩ :: ⟨.call 108 [(.t 20)], (some 21), none, [(.load 1 false (.t 18), (some 19), none)]⟩ :: L131_10
theorem v131_11 : VS L131_11.eq_1 := rfl
def L131_12 : List AStep := ⟨.faddr 0 (.t 3), (some 18), none, []⟩ :: ⟨.load 1 false (.t 18), (some 19), none, []⟩ :: L131_11
theorem v131_12 : VS L131_12.eq_1 := rfl
def L131_13 : List AStep := [⟨.faddr 0 (.t 3), (some 35), none, []⟩, ⟨.store 1 (.t 35) (.t 34), none, none, []⟩]
theorem v131_13 : VS L131_13.eq_1 := rfl
def L131_14 : List AStep := ⟨.buildSlice 64 1 [(.int .i64 0), (.str (strOfNums [])), (.sl none 0 (some 0)), (.sl none 0 (some 0))] [(0, 4, (.t 32))], (some 33), none, []⟩ :: ⟨.append 64 4 72 (.t 28) (.t 33), (some 34), none, []⟩ :: L131_13
theorem v131_14 : VS L131_14.eq_1 := rfl
def L131_15 : List AStep := ⟨.buildSlice 3 1 [(.int .i64 0)] [(0, 1, (.t 30))], (some 31), none, []⟩ :: ⟨.build [(.int .i64 0), (.str (strOfNums [])), (.sl none 0 (some 0)), (.sl none 0 (some 0))] [(0, 1, (.c (.int .i64 0))), (2, 1, (.t 31))], (some 32), none, []⟩ :: L131_14
theorem v131_15 : VS L131_15.eq_1 := rfl
def L131_16 : List AStep := ⟨.mov (.t 0), (some 29), none, []⟩ :: ⟨.call 145 [(.t 29)], (some 30), none, [(.load 1 false (.t 27), (some 28), none)]⟩ :: L131_15
theorem v131_16 : VS L131_16.eq_1 := rfl
def L131_17 : List AStep := ⟨.faddr 0 (.t 3), (some 27), none, []⟩ :: ⟨.load 1 false (.t 27), (some 28), none, []⟩ :: L131_16
theorem v131_17 : VS L131_17.eq_1 := rfl
def L131_18 : List AStep := [⟨.mov (.t 14), (some 4), none, []⟩]
theorem v131_18 : VS L131_18.eq_1 := rfl
def L131_19 : List AStep := ⟨.mov (.t 4), (some 13), none, []⟩ :: ⟨.bin .sub (.t 13) (.c (.int .i64 1)), (some 14), none, []⟩ :: L131_18
theorem v131_19 : VS L131_19.eq_1 := rfl
def L131_20 : List AStep := [⟨.call 109 [(.t 36), (.t 37)], (some 38), none, []⟩, ⟨.mov (.t 38), (some 5), none, []⟩]
theorem v131_20 : VS L131_20.eq_1 := rfl
def L131_21 : List AStep := ⟨.mov (.t 0), (some 36), none, []⟩ :: ⟨.buildSlice 3 4 [(.int .i64 0)] [(0, 1, (.c (.int .i64 2))), (1, 1, (.c (.int .i64 1))), (2, 1, (.c (.int .i64 0))), (3, 1, (.c (.int .i64 3)))], (some 37), none, []⟩ :: L131_20
theorem v131_21 : VS L131_21.eq_1 := rfl
def L131_22 : List AStep := [⟨.mov (.t 5), (some 39), none, []⟩, ⟨.bin .gtr (.t 39) (.c (.int .i64 0)), (some 40), none, []⟩]
theorem v131_22 : VS L131_22.eq_1 := rfl
def L131_23 : List AStep := [⟨.bin .eql (.t 44) (.c (.int .i64 0)), (some 45), none, []⟩]
theorem v131_23 : VS L131_23.eq_1 := rfl
def L131_24 : List AStep := ⟨.mov (.t 0), (some 43), none, []⟩ :: ⟨.call 106 [(.t 43), (.c (.int .i64 3))], (some 44), none, []⟩ :: L131_23
theorem v131_24 : VS L131_24.eq_1 := rfl
def L131_25 : List AStep := [⟨.faddr 0 (.t 3), (some 54), none, []⟩, ⟨.store 1 (.t 54) (.t 53), none, none, []⟩]
theorem v131_25 : VS L131_25.eq_1 := rfl
def L131_26 : List AStep := ⟨.buildSlice 64 1 [(.int .i64 0), (.str (strOfNums [])), (.sl none 0 (some 0)), (.sl none 0 (some 0))] [(0, 4, (.t 51))], (some 52), none, []⟩ :: ⟨.append 64 4 72 (.t 47) (.t 52), (some 53), none, []⟩ :: L131_25
theorem v131_26 : VS L131_26.eq_1 := rfl
def L131_27 : List AStep := ⟨.field 1 1 false (.t 49), (some 50), none, []⟩ :: ⟨.build [(.int .i64 0), (.str (strOfNums [])), (.sl none 0 (some 0)), (.sl none 0 (some 0))] [(0, 1, (.c (.int .i64 3))), (3, 1, (.t 50))], (some 51), none, []⟩ :: L131_26
theorem v131_27 : VS L131_27.eq_1 := rfl
def L131_28 : List AStep := ⟨.mov (.t 0), (some 48), none, []⟩ :: ⟨.call 108 [(.t 48)], (some 49), none, [(.load 1 false (.t 46), (some 47), none)]⟩ :: L131_27
theorem v131_28 : VS L131_28.eq_1 := rfl
def L131_29 : List AStep := ⟨.faddr 0 (.t 3), (some 46), none, []⟩ :: ⟨.load 1 false (.t 46), (some 47), none, []⟩ :: L131_28
theorem v131_29 : VS L131_29.eq_1 := rfl
def L131_30 : List AStep := [⟨.faddr 0 (.t 3), (some 65), none, []⟩, ⟨.store 1 (.t 65) (.t 64), none, none, []⟩]
theorem v131_30 : VS L131_30.eq_1 := rfl
def L131_31 : List AStep := ⟨.buildSlice 64 1 [(.int .i64 0), (.str (strOfNums [])), (.sl none 0 (some 0)), (.sl none 0 (some 0))] [(0, 4, (.t 62))], (some 63), none, []⟩ :: ⟨.append 64 4 72 (.t 56) (.t 63), (some 64), none, []⟩ :: L131_30
theorem v131_31 : VS L131_31.eq_1 := rfl
def L131_32 : List AStep := ⟨.buildSlice 3 1 [(.int .i64 0)] [(0, 1, (.t 60))], (some 61), none, []⟩ :: ⟨.build [(.int .i64 0), (.str (strOfNums [])), (.sl none 0 (some 0)), (.sl none 0 (some 0))] [(0, 1, (.c (.int .i64 2))), (1, 1, (.t 58)), (2, 1, (.t 61))], (some 62), none, []⟩ :: L131_31
theorem v131_32 : VS L131_32.eq_1 := rfl
def L131_33 : List AStep := ⟨.call 144 [(.t 57)], (some 58), none, [(.load 1 false (.t 55), (some 56), none)]⟩ :: ⟨.call 145 [(.t 59)], (some 60), none, [(.load 1 false (.t 55), (some 56), none)]⟩ :: L131_32
theorem v131_33 : VS L131_33.eq_1 := rfl
def L131_34 : List AStep := ⟨.mov (.t 0), (some 57), none, []⟩ :: ⟨.mov (.t 0), (some 59), none, []⟩ :: L131_33
theorem v131_34 : VS L131_34.eq_1 := rfl
def L131_35 : List AStep := ⟨.faddr 0 (.t 3), (some 55), none, []⟩ :: ⟨.load 1 false (.t 55), (some 56), none, []⟩ :: L131_34
theorem v131_35 : VS L131_35.eq_1 := rfl
def L131_36 : List AStep := [⟨.mov (.t 42), (some 5), none, []⟩]
theorem v131_36 : VS L131_36.eq_1 := rfl
def L131_37 : List AStep := ⟨.mov (.t 5), (some 41), none, []⟩ :: ⟨.bin .sub (.t 41) (.c (.int .i64 1)), (some 42), none, []⟩ :: L131_36
theorem v131_37 : VS L131_37.eq_1 := rfl
def L131_38 : List AStep := [⟨.load 1 true (.t 3), (some 66), none, []⟩, ⟨.store 1 (.t 2) (.t 66), none, none, []⟩]
theorem v131_38 : VS L131_38.eq_1 := rfl
def C131_0 : ACode := .cond (.t 12) .skip (.exit 0)
theorem u131_0 : VC C131_0.eq_1 := rfl
def C131_1 : ACode := .seq (.reg L131_5) C131_0
theorem u131_1 : VC C131_1.eq_1 := rfl
def C131_2 : ACode := .cond (.t 17) (.reg L131_12) (.reg L131_17)
theorem u131_2 : VC C131_2.eq_1 := rfl
def C131_3 : ACode := .seq (.reg L131_7) C131_2
theorem u131_3 : VC C131_3.eq_1 := rfl
def C131_4 : ACode := .block 1 C131_3
theorem u131_4 : VC C131_4.eq_1 := rfl
def C131_5 : ACode := .seq C131_4 (.reg L131_19)
theorem u131_5 : VC C131_5.eq_1 := rfl
def C131_6 : ACode := .seq C131_1 C131_5
theorem u131_6 : VC C131_6.eq_1 := rfl
def C131_7 : ACode := .block 0 (.loop C131_6)
theorem u131_7 : VC C131_7.eq_1 := rfl
def C131_8 : ACode := .seq (.reg L131_4) C131_7
theorem u131_8 : VC C131_8.eq_1 := rfl
def C131_9 : ACode := .cond (.t 40) .skip (.exit 2)
theorem u131_9 : VC C131_9.eq_1 := rfl
def C131_10 : ACode := .seq (.reg L131_22) C131_9
theorem u131_10 : VC C131_10.eq_1 := rfl
def C131_11 : ACode := .cond (.t 45) (.reg L131_29) (.reg L131_35)
theorem u131_11 : VC C131_11.eq_1 := rfl
def C131_12 : ACode := .seq (.reg L131_24) C131_11
theorem u131_12 : VC C131_12.eq_1 := rfl
def C131_13 : ACode := .block 3 C131_12
theorem u131_13 : VC C131_13.eq_1 := rfl
def C131_14 : ACode := .seq C131_13 (.reg L131_37)
theorem u131_14 : VC C131_14.eq_1 := rfl
def C131_15 : ACode := .seq C131_10 C131_14
theorem u131_15 : VC C131_15.eq_1 := rfl
def C131_16 : ACode := .block 2 (.loop C131_15)
theorem u131_16 : VC C131_16.eq_1 := rfl
def C131_17 : ACode := .seq (.reg L131_21) C131_16
theorem u131_17 : VC C131_17.eq_1 := rfl
def C131_18 : ACode := .seq (.reg L131_38) .ret
theorem u131_18 : VC C131_18.eq_1 := rfl
def C131_19 : ACode := .seq C131_17 C131_18
theorem u131_19 : VC C131_19.eq_1 := rfl
def C131_20 : ACode := .seq C131_8 C131_19
theorem u131_20 : VC C131_20.eq_1 := rfl
def C131_21 : ACode := .seq (.reg L131_2) C131_20
theorem u131_21 : VC C131_21.eq_1 := rfl
def C131_22 : ACode := .seq (.reg L131_0) C131_21
theorem u131_22 : VC C131_22.eq_1 := rfl
def F131 : AFunc := ⟨67, [.cell 2 1 true], C131_22⟩
theorem cF131 : compB Try.prog 131 = some F131 := by kernel_rfl
attribute [local go_sem ↓] u131_0 u131_1 u131_2 u131_3 u131_4 u131_5 u131_6 u131_7 u131_8 u131_9 u131_10 u131_11 u131_12 u131_13 u131_14 u131_15 u131_16 u131_17 u131_18 u131_19 u131_20 u131_21 u131_22 v131_0 v131_1 v131_2 v131_3 v131_4 v131_5 v131_6 v131_7 v131_8 v131_9 v131_10 v131_11 v131_12 v131_13 v131_14 v131_15 v131_16 v131_17 v131_18 v131_19 v131_20 v131_21 v131_22 v131_23 v131_24 v131_25 v131_26 v131_27 v131_28 v131_29 v131_30 v131_31 v131_32 v131_33 v131_34 v131_35 v131_36 v131_37 v131_38
theorem c_goodCallOf (b : Nat) (p : Int) (h : H) (r : Rd h b p) (hp : p ≤ 2 ^ 38) : callK (bm Try.prog 131 [.one (.ptr (some (b, 0)))] h) fun q h' => (∃ x R l, q = .agg [x] ∧ NwC h h' x R l ∧ l.length ≤ 6 ∧ (∀ a ∈ l, tinyA a ∧ a.list.length ≤ 10) ∧ h.n ≤ h'.n) ∧ Drew b p 104 h h' := by
  refine bm_of cF131 ?_
  have hbn := r.lt
  simp +contextual (maxSteps := 2000000) only [go_sem, Nat.reduceEqDiff, reduceCtorEq, Nat.reduceAdd, Nat.reduceLeDiff, F131]
  refine wp_lit (enc := encC) (k := 4) (l := []) rfl rfl ?_
  intro h1 w1 g1 n1 b1
  obtain ⟨c1, rfl⟩ := n1.one
  simp +contextual (maxSteps := 2000000) only [go_sem, Nat.reduceEqDiff, reduceCtorEq, Nat.reduceAdd, Nat.reduceLeDiff]
  refine wp_lit (enc := encI) (k := 1) (l := [2, 1, 3, 0]) rfl rfl ?_
  intro h2 w2 g2 n2 b2
  have g12 := g1.trans g2
  simp +contextual (maxSteps := 2000000) only [go_sem, Nat.reduceEqDiff, reduceCtorEq, Nat.reduceAdd, Nat.reduceLeDiff]
  refine wp_call (c_one b p _ w2 h2 (r.grow g12) (by omega) (n2.sl lenI) (fun i hi => Nat.lt_of_lt_of_le hbn (Nat.le_trans g1.n (b2 i hi))) (by decide) (by decide)) ?_
  rintro q h3 ⟨⟨m, hm, rfl⟩, d3⟩
  have hm8 : 0 ≤ m ∧ m ≤ 3 := by simp at hm; omega
  obtain ⟨m, rfl⟩ := Int.eq_ofNat_of_zero_le hm8.1
  have x3 : NwC h h3 c1 [] [] := (NwC.grow ⟨.nil n1⟩ g2 : NwC h h2 c1 [] []).drew d3 hbn
  have d3 := d3.pre g12
  have hz : decide (((0 : Nat) : Int) > 0) = false := rfl
  simp +contextual (maxSteps := 2000000) only [go_sem, Nat.reduceEqDiff, reduceCtorEq, Nat.reduceAdd, Nat.reduceLeDiff]
  refine wpC_loop (fun k T L h' => T 0 = .v (.one (.ptr (some (b, 0)))) ∧ T 2 = .lp 2 0 ∧ (L 2).2 = [.sl none 0 (some 0)] ∧ T 3 = .lp 3 0 ∧ (∃ x R l, (L 3).2 = [x] ∧ NwC h h' x R l ∧ l.length ≤ k ∧ ∀ a ∈ l, tinyA a ∧ a.list.length ≤ 10) ∧ T 4 = .v (.one (.int .i64 ((m - k : Nat) : Int))) ∧ Drew b p (1 + 17 * k) h h') m ?_ ?_ (Nat.zero_le _) ?_
  · rintro k T L h' hk ⟨t0, t2, l2, t3, ⟨x, R, l, l3, xc, hl1, hl2⟩, t4, d⟩
    obtain ⟨j, hj⟩ : ∃ j, m - k = j + 1 := ⟨m - k - 1, by omega⟩
    rw [hj] at t4
    have ej : m - (k + 1) = j := by omega
    have a3 : decide (((j + 1 : Nat) : Int) > 0) = true := decide_eq_true (by omega)
    obtain ⟨p', hp1, hp2, r'⟩ := d.ex
    have hR : R.length ≤ k := by rw [xc.out.len]; exact hl1
    simp +contextual (maxSteps := 2000000) only [go_sem, Nat.reduceEqDiff, reduceCtorEq, Nat.reduceAdd, Nat.reduceLeDiff, t0, t2, l2, t3, l3, t4, a3]
    refine wp_call (c_pick b 3 p' h' r' (by omega)) ?_
    rintro q h4 ⟨⟨e, rfl, _, _⟩, d4⟩
    have xc := xc.drew d4 hbn
    obtain ⟨p4, hq1, hq2, r4⟩ := d4.ex
    have d4 := d4.then d.st (by omega) hp2
    by_cases e0 : e = 0
    · simp +contextual (maxSteps := 2000000) only [go_sem, Nat.reduceEqDiff, reduceCtorEq, Nat.reduceAdd, Nat.reduceLeDiff, t0, t2, l2, t3, l3, t4, decide_eq_true e0]
      refine wp_call (c_goodFlat b p4 h4 r4 (by omega)) ?_
      rintro q h5 ⟨⟨u, w, f, rfl, z5, tf⟩, d5⟩
      have st5 := d5.st
      have x5 := xc.drew d5 hbn
      have d5 := d5.then d4.st (by omega) (show p4 ≤ p + ((1 + 17 * k + 1 : Nat) : Int) by omega)
      have ef : fieldO 0 1 false (.agg [u, w]) = some (.one u) := rfl
      simp +contextual (maxSteps := 2000000) only [go_sem, Nat.reduceEqDiff, reduceCtorEq, Nat.reduceAdd, Nat.reduceLeDiff, t0, t2, l2, t3, l3, t4, ef]
      refine wp_lit (enc := encC) (k := 4) (l := [⟨1, noName, u, .sl none 0 (some 0)⟩]) rfl rfl ?_
      intro h6 w6 g6 n6 b6
      simp +contextual (maxSteps := 2000000) only [go_sem, Nat.reduceEqDiff, reduceCtorEq, Nat.reduceAdd, Nat.reduceLeDiff, t0, t2, l2, t3, l3, t4]
      refine wp_appendD lenC (x5.out.out.grow g6) (n6.sl lenC) (Nat.le_trans d5.st.n g6.n) (by simp; omega) ?_
      intro h7 s7 n7 st7 hb7
      obtain ⟨c7, rfl⟩ := n7.one
      have y : NtC h4 h6 ⟨1, noName, u, .sl none 0 (some 0)⟩ ⟨1, noName, f.pl, []⟩ := ⟨rfl, rfl, z5.pl.grow g6, .nil⟩
      have z := push_drew xc st5 hbn d4.st.n g6 y Sep.nil.symm n7 st7 hb7
      have d7 := (d5.grow g6).stay st7 (fun i hi => ((x5.out.out).lt hi).2) hbn
      simp +contextual (maxSteps := 2000000) only [go_sem, Nat.reduceEqDiff, reduceCtorEq, Nat.reduceAdd, Nat.reduceLeDiff, t0, t2, l2, t3, l3, t4, wrap_pred (show j < 2 ^ 62 by omega)]
      refine ⟨⟨c7, _, _, rfl, z, by simp; omega, fun a ha => ?_⟩, by rw [ej], d7.more (by omega)⟩
      rcases List.mem_append.1 ha with ha | ha
      · exact hl2 a ha
      · rw [List.mem_singleton.1 ha]
        exact ⟨⟨by show noName.size ≤ 10; rw [noName_size]; omega, Nat.le_trans tf.pl (by decide), by simp, fun x hx => by simp at hx⟩, tf.pl⟩
    · simp +contextual (maxSteps := 2000000) only [go_sem, Nat.reduceEqDiff, reduceCtorEq, Nat.reduceAdd, Nat.reduceLeDiff, t0, t2, l2, t3, l3, t4, decide_eq_false e0]
      refine wp_call (c_aNumber b p4 h4 r4 (by omega)) ?_
      rintro q h5 ⟨⟨n, rfl⟩, d5⟩
      have x5 := xc.drew d5 hbn
      have d5 := d5.then d4.st (by omega) (show p4 ≤ p + ((1 + 17 * k + 1 : Nat) : Int) by omega)
      simp +contextual (maxSteps := 2000000) only [go_sem, Nat.reduceEqDiff, reduceCtorEq, Nat.reduceAdd, Nat.reduceLeDiff, t0, t2, l2, t3, l3, t4]
      refine wp_lit (enc := encI) (k := 1) (l := [n]) rfl rfl ?_
      intro h6 w6 g6 n6 b6
      obtain ⟨c6, rfl⟩ := n6.one
      simp +contextual (maxSteps := 2000000) only [go_sem, Nat.reduceEqDiff, reduceCtorEq, Nat.reduceAdd, Nat.reduceLeDiff, t0, t2, l2, t3, l3, t4]
      refine wp_lit (enc := encC) (k := 4) (l := [⟨0, noName, c6, .sl none 0 (some 0)⟩]) rfl rfl ?_
      intro h8 w8 g8 n8 b8
      simp +contextual (maxSteps := 2000000) only [go_sem, Nat.reduceEqDiff, reduceCtorEq, Nat.reduceAdd, Nat.reduceLeDiff, t0, t2, l2, t3, l3, t4]
      refine wp_appendD lenC (x5.out.out.grow (g6.trans g8)) (n8.sl lenC) (Nat.le_trans d5.st.n (g6.trans g8).n) (by simp; omega) ?_
      intro h7 s7 n7 st7 hb7
      obtain ⟨c7, rfl⟩ := n7.one
      have y : NtC h5 h8 ⟨0, noName, c6, .sl none 0 (some 0)⟩ ⟨0, noName, [n], []⟩ := ⟨rfl, rfl, n6.grow g8, .nil⟩
      have z := push_drew x5 (h5 := h5) ((Grow.refl h5).stay _) hbn d5.st.n (g6.trans g8) y Sep.nil.symm n7 st7 hb7
      have d7 := (d5.grow (g6.trans g8)).stay st7 (fun i hi => ((x5.out.out).lt hi).2) hbn
      simp +contextual (maxSteps := 2000000) only [go_sem, Nat.reduceEqDiff, reduceCtorEq, Nat.reduceAdd, Nat.reduceLeDiff, t0, t2, l2, t3, l3, t4, wrap_pred (show j < 2 ^ 62 by omega)]
      refine ⟨⟨c7, _, _, rfl, z, by simp; omega, fun a ha => ?_⟩, by rw [ej], d7.more (by omega)⟩
      rcases List.mem_append.1 ha with ha | ha
      · exact hl2 a ha
      · rw [List.mem_singleton.1 ha]
        exact ⟨⟨by show noName.size ≤ 10; rw [noName_size]; omega, by simp, by simp, fun x hx => by simp at hx⟩, by simp⟩
  · rintro T L h' ⟨t0, t2, l2, t3, ⟨x, R, l, l3, xc, hl1, hl2⟩, t4, d⟩
    rw [Nat.sub_self] at t4
    obtain ⟨p', hp1, hp2, r'⟩ := d.ex
    simp +contextual (maxSteps := 2000000) only [go_sem, Nat.reduceEqDiff, reduceCtorEq, Nat.reduceAdd, Nat.reduceLeDiff, t0, t2, l2, t3, l3, t4, hz]
    refine wp_lit (enc := encI) (k := 1) (l := [2, 1, 0, 3]) rfl rfl ?_
    intro h5 w5 g5 n5 b5
    simp +contextual (maxSteps := 2000000) only [go_sem, Nat.reduceEqDiff, reduceCtorEq, Nat.reduceAdd, Nat.reduceLeDiff, t0, t2, l2, t3, l3, t4]
    refine wp_call (c_one b p' _ w5 h5 (r'.grow g5) (by omega) (n5.sl lenI) (fun i hi => Nat.lt_of_lt_of_le r'.lt (b5 i hi)) (by decide) (by decide)) ?_
    rintro q h6 ⟨⟨v, hv, rfl⟩, d6⟩
    have hv8 : 0 ≤ v ∧ v ≤ 3 := by simp at hv; omega
    obtain ⟨v, rfl⟩ := Int.eq_ofNat_of_zero_le hv8.1
    have x6 := (xc.grow g5).drew d6 hbn
    have d6 := (d6.pre g5).then d.st (by omega) hp2
    simp +contextual (maxSteps := 2000000) only [go_sem, Nat.reduceEqDiff, reduceCtorEq, Nat.reduceAdd, Nat.reduceLeDiff, t0, t2, l2, t3, l3, t4]
    refine wpC_loop (fun k T L h' => T 0 = .v (.one (.ptr (some (b, 0)))) ∧ T 2 = .lp 2 0 ∧ (L 2).2 = [.sl none 0 (some 0)] ∧ T 3 = .lp 3 0 ∧ (∃ x R l, (L 3).2 = [x] ∧ NwC h h' x R l ∧ l.length ≤ m + k ∧ ∀ a ∈ l, tinyA a ∧ a.list.length ≤ 10) ∧ T 5 = .v (.one (.int .i64 ((v - k : Nat) : Int))) ∧ Drew b p (1 + 17 * m + 1 + 17 * k) h h') v ?_ ?_ (Nat.zero_le _) ?_
    · rintro k T L h' hk ⟨t0, t2, l2, t3, ⟨x, R, l, l3, xc, hl1, hl2⟩, t5, d⟩
      obtain ⟨j, hj⟩ : ∃ j, v - k = j + 1 := ⟨v - k - 1, by omega⟩
      rw [hj] at t5
      have ej : v - (k + 1) = j := by omega
      have a3 : decide (((j + 1 : Nat) : Int) > 0) = true := decide_eq_true (by omega)
      obtain ⟨p', hp1, hp2, r'⟩ := d.ex
      have hR : R.length ≤ m + k := by rw [xc.out.len]; exact hl1
      simp +contextual (maxSteps := 2000000) only [go_sem, Nat.reduceEqDiff, reduceCtorEq, Nat.reduceAdd, Nat.reduceLeDiff, t0, t2, l2, t3, l3, t5, a3]
      refine wp_call (c_pick b 3 p' h' r' (by omega)) ?_
      rintro q h4 ⟨⟨e, rfl, _, _⟩, d4⟩
      have xc := xc.drew d4 hbn
      obtain ⟨p4, hq1, hq2, r4⟩ := d4.ex
      have d4 := d4.then d.st (by omega) hp2
      by_cases e0 : e = 0
      · simp +contextual (maxSteps := 2000000) only [go_sem, Nat.reduceEqDiff, reduceCtorEq, Nat.reduceAdd, Nat.reduceLeDiff, t0, t2, l2, t3, l3, t5, decide_eq_true e0]
        refine wp_call (c_goodFlat b p4 h4 r4 (by omega)) ?_
        rintro q h5 ⟨⟨u, w, f, rfl, z5, tf⟩, d5⟩
        have st5 := d5.st
        have x5 := xc.drew d5 hbn
        have d5 := d5.then d4.st (by omega) (show p4 ≤ p + ((1 + 17 * m + 1 + 17 * k + 1 : Nat) : Int) by omega)
        have ef : fieldO 1 1 false (.agg [u, w]) = some (.one w) := rfl
        simp +contextual (maxSteps := 2000000) only [go_sem, Nat.reduceEqDiff, reduceCtorEq, Nat.reduceAdd, Nat.reduceLeDiff, t0, t2, l2, t3, l3, t5, ef]
        refine wp_lit (enc := encC) (k := 4) (l := [⟨3, noName, .sl none 0 (some 0), w⟩]) rfl rfl ?_
        intro h6 w6 g6 n6 b6
        simp +contextual (maxSteps := 2000000) only [go_sem, Nat.reduceEqDiff, reduceCtorEq, Nat.reduceAdd, Nat.reduceLeDiff, t0, t2, l2, t3, l3, t5]
        refine wp_appendD lenC (x5.out.out.grow g6) (n6.sl lenC) (Nat.le_trans d5.st.n g6.n) (by simp; omega) ?_
        intro h7 s7 n7 st7 hb7
        obtain ⟨c7, rfl⟩ := n7.one
        have y : NtC h4 h6 ⟨3, noName, .sl none 0 (some 0), w⟩ ⟨3, noName, [], f.nl⟩ := ⟨rfl, rfl, .nil, z5.nl.grow g6⟩
        have z := push_drew xc st5 hbn d4.st.n g6 y Sep.nil n7 st7 hb7
        have d7 := (d5.grow g6).stay st7 (fun i hi => ((x5.out.out).lt hi).2) hbn
        simp +contextual (maxSteps := 2000000) only [go_sem, Nat.reduceEqDiff, reduceCtorEq, Nat.reduceAdd, Nat.reduceLeDiff, t0, t2, l2, t3, l3, t5, wrap_pred (show j < 2 ^ 62 by omega)]
        refine ⟨⟨c7, _, _, rfl, z, by simp; omega, fun a ha => ?_⟩, by rw [ej], d7.more (by omega)⟩
        rcases List.mem_append.1 ha with ha | ha
        · exact hl2 a ha
        · rw [List.mem_singleton.1 ha]
          exact ⟨⟨by show noName.size ≤ 10; rw [noName_size]; omega, by simp, tf.nl, tf.nm⟩, by simp⟩
      · simp +contextual (maxSteps := 2000000) only [go_sem, Nat.reduceEqDiff, reduceCtorEq, Nat.reduceAdd, Nat.reduceLeDiff, t0, t2, l2, t3, l3, t5, decide_eq_false e0]
        refine wp_call (c_aName b p4 h4 r4 (by omega)) ?_
        rintro q h5 ⟨⟨nm, rfl, hnm⟩, d5⟩
        have x5 := xc.drew d5 hbn
        obtain ⟨p5, hs1, hs2, r5⟩ := d5.ex
        have d5 := d5.then d4.st (by omega) (show p4 ≤ p + ((1 + 17 * m + 1 + 17 * k + 1 : Nat) : Int) by omega)
        simp +contextual (maxSteps := 2000000) only [go_sem, Nat.reduceEqDiff, reduceCtorEq, Nat.reduceAdd, Nat.reduceLeDiff, t0, t2, l2, t3, l3, t5]
        refine wp_call (c_aNumber b p5 h5 r5 (by omega)) ?_
        rintro q h6 ⟨⟨n, rfl⟩, d6⟩
        have x6 := x5.drew d6 hbn
        have d6 := d6.then d5.st (by omega) (show p5 ≤ p + ((1 + 17 * m + 1 + 17 * k + 1 + 1 : Nat) : Int) by omega)
        simp +contextual (maxSteps := 2000000) only [go_sem, Nat.reduceEqDiff, reduceCtorEq, Nat.reduceAdd, Nat.reduceLeDiff, t0, t2, l2, t3, l3, t5]
        refine wp_lit (enc := encI) (k := 1) (l := [n]) rfl rfl ?_
        intro h8 w8 g8 n8 b8
        obtain ⟨c8, rfl⟩ := n8.one
        simp +contextual (maxSteps := 2000000) only [go_sem, Nat.reduceEqDiff, reduceCtorEq, Nat.reduceAdd, Nat.reduceLeDiff, t0, t2, l2, t3, l3, t5]
        refine wp_lit (enc := encC) (k := 4) (l := [⟨2, nm, c8, .sl none 0 (some 0)⟩]) rfl rfl ?_
        intro h9 w9 g9 n9 b9
        simp +contextual (maxSteps := 2000000) only [go_sem, Nat.reduceEqDiff, reduceCtorEq, Nat.reduceAdd, Nat.reduceLeDiff, t0, t2, l2, t3, l3, t5]
        refine wp_appendD lenC (x6.out.out.grow (g8.trans g9)) (n9.sl lenC) (Nat.le_trans d6.st.n (g8.trans g9).n) (by simp; omega) ?_
        intro h7 s7 n7 st7 hb7
        obtain ⟨c7, rfl⟩ := n7.one
        have y : NtC h6 h9 ⟨2, nm, c8, .sl none 0 (some 0)⟩ ⟨2, nm, [n], []⟩ := ⟨rfl, rfl, n8.grow g9, .nil⟩
        have z := push_drew x6 (h5 := h6) ((Grow.refl h6).stay _) hbn d6.st.n (g8.trans g9) y Sep.nil.symm n7 st7 hb7
        have d7 := (d6.grow (g8.trans g9)).stay st7 (fun i hi => ((x6.out.out).lt hi).2) hbn
        simp +contextual (maxSteps := 2000000) only [go_sem, Nat.reduceEqDiff, reduceCtorEq, Nat.reduceAdd, Nat.reduceLeDiff, t0, t2, l2, t3, l3, t5, wrap_pred (show j < 2 ^ 62 by omega)]
        refine ⟨⟨c7, _, _, rfl, z, by simp; omega, fun a ha => ?_⟩, by rw [ej], d7.more (by omega)⟩
        rcases List.mem_append.1 ha with ha | ha
        · exact hl2 a ha
        · rw [List.mem_singleton.1 ha]
          exact ⟨⟨hnm, by simp, by simp, fun x hx => by simp at hx⟩, by simp⟩
    · rintro T L h' ⟨t0, t2, l2, t3, ⟨x, R, l, l3, xc, hl1, hl2⟩, t5, d⟩
      rw [Nat.sub_self] at t5
      have dn := d.st.n
      have d := d.more (show 1 + 17 * m + 1 + 17 * v ≤ 104 by omega)
      simp +contextual (maxSteps := 2000000) only [go_sem, Nat.reduceEqDiff, reduceCtorEq, Nat.reduceAdd, Nat.reduceLeDiff, t0, t2, l2, t3, l3, t5, hz]
      exact gcK_drew r d ⟨⟨x, R, l, rfl, xc, by omega, hl2, dn⟩, d⟩
    · simp +contextual (maxSteps := 2000000) only [go_sem, Nat.reduceEqDiff, reduceCtorEq, Nat.reduceAdd, Nat.reduceLeDiff, t0, t2, l2, t3, l3, t4]
      exact ⟨⟨x, R, l, rfl, x6, by omega, hl2⟩, rfl, d6.more (by omega)⟩
  · simp +contextual (maxSteps := 2000000) only [go_sem, Nat.reduceEqDiff, reduceCtorEq, Nat.reduceAdd, Nat.reduceLeDiff]
    exact ⟨⟨c1, [], [], rfl, x3, Nat.le_refl 0, fun a ha => by simp at ha⟩, rfl, d3⟩
end Go.Proofs.Ytekkimfdcbgcoaa.Am
