/- Contracts of the laws: sizes. -/
import Derived.Test.YtnphlonhogcedaaDat
namespace Go.Proofs.Ytnphlonhogcedaa.Am
open Go
set_option maxRecDepth 100000
set_option maxHeartbeats 4000000
set_option linter.unusedSimpArgs false
set_option linter.unusedVariables false
attribute [local go_sem ↓] bv_t bv_c ev_t ev_c put_same put_ne put_none kill_at pro_at lb_same lb_ne start_zero start_succ wpC_seq wpC_reg wpC_cond wpC_block wpC_skip wpC_exit wpC_ret thenQ_normal thenQ_exit thenQ_ret inBlk_normal inBlk_exit inBlk_ret wpS_nil wpS_step wpS_again wpS_guard wpO_mov wpO_load wpO_faddr wpO_nilCheck wpO_pick wpO_build wpO_bin wpO_eqb wpO_eqst wpO_eqnil wpO_not wpO_conv wpO_bytesStr wpO_iaddr wpO_idxStr wpO_field wpO_extract wpO_len wpO_lenStr wpO_cap wpO_min wpO_slice wpO_sliceStr wpO_alloc wpO_box wpO_store wpO_call wpO_callv wpO_mkfn wpO_buildSlice wpO_mkslice wpO_append wpO_appz proA_nil proA_cons tmpX_nil tmpX_tmp tmpX_cell doneB_normal doneB_ret agK_cons agK_nil pureB_load results_one results_two results_nil resBs_cons resBs_nil resB_tmp resB_cell
attribute [local go_sem] kill_v kill_lp_ne kill_lp_same pro_v pro_lp_same pro_lp_ne av_v av_lp optB_some optX_some valX_eq ldX_lp ldX_v faX_lp faX_v ncX_lp ncX_ptr ncX_fn boxK_one boxK_agg stL_some stK_lp_one stK_lp_agg stK_v_one stK_v_agg proM_v proM_lp callG_mk callVG_mk callvK_fn fnG_mk ptrsA_nil ptrsA_cons callH_some whenA_true whenA_false guardH_tt guardH_ff guardH_tf guardH_ft guardH_undef agV_one agV_agg lenO_sl lenStrO_str notO_bool pickO_bool convO_int eqbO_bool eqnilO_sl extractO_tup capO_sl minO_int loadL_one loadL_all storeL_eq fillA_nil fillA_one fillA_agg nat_ge neg_ge nat_lt neg_lt buildO bin_add bin_sub bin_mul bin_eql bin_neq bin_lss bin_leq bin_gtr bin_geq str_eql str_neq str_lss str_leq str_gtr str_geq retK_some endK_mk gcK_same gcK_int gcK_bool tupO_one tupO_agg rdy_self ib ii Option.map_none Option.map_some Option.some.injEq exists_eq_left' exists_eq_left ne_eq not_false_eq_true if_true if_false List.map_cons List.map_nil List.getElem?_cons_zero List.getElem?_cons_succ List.length_cons List.length_nil List.take_succ_cons List.take_zero List.take_nil List.drop_succ_cons List.drop_zero List.drop_nil List.cons_append List.nil_append List.append_nil List.set_cons_zero List.set_cons_succ Nat.zero_add forall_const true_and and_true and_self Bool.false_eq_true false_implies true_implies implies_true Bool.not_true Bool.not_false Bool.not_eq_true' Bool.not_eq_false' beq_self_eq_true Bool.bne_true Bool.bne_false
attribute [local go_sem] lenI lenS lenP lenQ lenB lenL lenT encI_0 encS_0 encP_0 encP_1 encQ_0 encQ_1 encQ_2 encQ_3 encB_0 encB_1 encL_0 encL_1 encT_0 encT_1
attribute [local go_sem low] whenA_bool guardH_bool
theorem i64_sub {a : Int} {n : Nat} (h1 : 0 ≤ a) (h2 : a ≤ 1048576) (h3 : n ≤ far) : IntKind.i64.wrap (a - n) = a - n := by unfold far at h3; rw [i64_wrap (by omega) (by omega)]
section
variable {P : Program} {T : Tb} {L : Lb} {h : H} {Q : PostC} {K : Post}
/-! laws.szParam -/
def L190_0 : List AStep := [⟨.box 202 (.t 0), (some 2), none, []⟩, ⟨.mov (.c (.int .i64 0)), (some 4), none, []⟩]
theorem v190_0 : wpS P L190_0 T L (rdy h) K = wpS P ([⟨.box 202 (.t 0), (some 2), none, []⟩, ⟨.mov (.c (.int .i64 0)), (some 4), none, []⟩]) T L (rdy h) K := rfl
def L190_1 : List AStep := [⟨.bin .sub (.t 5) (.t 8), (some 9), none, []⟩, ⟨.mov (.t 9), (some 1), none, []⟩]
theorem v190_1 : wpS P L190_1 T L (rdy h) K = wpS P ([⟨.bin .sub (.t 5) (.t 8), (some 9), none, []⟩, ⟨.mov (.t 9), (some 1), none, []⟩]) T L (rdy h) K := rfl
def L190_2 : List AStep := ⟨.load 1 false (.t 6), (some 7), none, []⟩ :: ⟨.lenStr (.t 7), (some 8), none, []⟩ :: L190_1
theorem v190_2 : wpS P L190_2 T L (rdy h) K = wpS P (⟨.load 1 false (.t 6), (some 7), none, []⟩ :: ⟨.lenStr (.t 7), (some 8), none, []⟩ :: L190_1) T L (rdy h) K := rfl
def L190_3 : List AStep := ⟨.mov (.t 1), (some 5), none, []⟩ :: ⟨.faddr 0 (.t 2), (some 6), none, []⟩ :: L190_2
theorem v190_3 : wpS P L190_3 T L (rdy h) K = wpS P (⟨.mov (.t 1), (some 5), none, []⟩ :: ⟨.faddr 0 (.t 2), (some 6), none, []⟩ :: L190_2) T L (rdy h) K := rfl
def L190_4 : List AStep := [⟨.mov (.t 1), (some 10), none, []⟩, ⟨.bin .lss (.t 10) (.c (.int .i64 0)), (some 11), none, []⟩]
theorem v190_4 : wpS P L190_4 T L (rdy h) K = wpS P ([⟨.mov (.t 1), (some 10), none, []⟩, ⟨.bin .lss (.t 10) (.c (.int .i64 0)), (some 11), none, []⟩]) T L (rdy h) K := rfl
def L190_5 : List AStep := [⟨.mov (.c (.int .i64 (-1))), (some 4), none, []⟩]
theorem v190_5 : wpS P L190_5 T L (rdy h) K = wpS P ([⟨.mov (.c (.int .i64 (-1))), (some 4), none, []⟩]) T L (rdy h) K := rfl
def L190_6 : List AStep := [⟨.mov (.t 1), (some 12), none, []⟩, ⟨.mov (.t 12), (some 4), none, []⟩]
theorem v190_6 : wpS P L190_6 T L (rdy h) K = wpS P ([⟨.mov (.t 1), (some 12), none, []⟩, ⟨.mov (.t 12), (some 4), none, []⟩]) T L (rdy h) K := rfl
def C190_0 : ACode := .seq (.reg L190_5) .ret
theorem u190_0 : wpC P C190_0 T L (rdy h) Q = wpC P (.seq (.reg L190_5) .ret) T L (rdy h) Q := rfl
def C190_1 : ACode := .cond (.t 11) C190_0 .skip
theorem u190_1 : wpC P C190_1 T L (rdy h) Q = wpC P (.cond (.t 11) C190_0 .skip) T L (rdy h) Q := rfl
def C190_2 : ACode := .seq (.reg L190_4) C190_1
theorem u190_2 : wpC P C190_2 T L (rdy h) Q = wpC P (.seq (.reg L190_4) C190_1) T L (rdy h) Q := rfl
def C190_3 : ACode := .seq (.reg L190_6) .ret
theorem u190_3 : wpC P C190_3 T L (rdy h) Q = wpC P (.seq (.reg L190_6) .ret) T L (rdy h) Q := rfl
def C190_4 : ACode := .seq C190_2 C190_3
theorem u190_4 : wpC P C190_4 T L (rdy h) Q = wpC P (.seq C190_2 C190_3) T L (rdy h) Q := rfl
def C190_5 : ACode := .seq (.reg L190_3) C190_4
theorem u190_5 : wpC P C190_5 T L (rdy h) Q = wpC P (.seq (.reg L190_3) C190_4) T L (rdy h) Q := rfl
def C190_6 : ACode := .seq (.reg L190_0) C190_5
theorem u190_6 : wpC P C190_6 T L (rdy h) Q = wpC P (.seq (.reg L190_0) C190_5) T L (rdy h) Q := rfl
def F190 : AFunc := ⟨13, [.tmp 4], C190_6⟩
theorem cF190 : compB Try.prog 190 = some F190 := by kernel_rfl
end
attribute [local go_sem ↓] u190_0 u190_1 u190_2 u190_3 u190_4 u190_5 u190_6 v190_0 v190_1 v190_2 v190_3 v190_4 v190_5 v190_6
theorem c_szParam (p : Param) (left : Int) (h : H) (h1 : 0 ≤ left) (h2 : left ≤ 1048576) (k0 : p.name.size ≤ far) : bm Try.prog 190 [.agg (encQ p), .one (.int .i64 left)] h = some (ii (szr left (wtQ p)), h) := by
  refine bm_eq cF190 ?_
  simp +contextual (maxSteps := 2000000) only [go_sem, Nat.reduceEqDiff, reduceCtorEq, Nat.reduceAdd, Nat.reduceLeDiff, F190, i64_sub h1 h2 k0]
  unfold szr wtQ
  (repeat' (first | refine And.intro ?_ ?_ | intro _)) <;> first | (simp_all; done) | (simp_all; omega)
section
variable {P : Program} {T : Tb} {L : Lb} {h : H} {Q : PostC} {K : Post}
/-! laws.szPair -/
def L181_0 : List AStep := [⟨.box 194 (.t 0), (some 2), none, []⟩, ⟨.mov (.c (.int .i64 0)), (some 4), none, []⟩]
theorem v181_0 : wpS P L181_0 T L (rdy h) K = wpS P ([⟨.box 194 (.t 0), (some 2), none, []⟩, ⟨.mov (.c (.int .i64 0)), (some 4), none, []⟩]) T L (rdy h) K := rfl
def L181_1 : List AStep := [⟨.bin .sub (.t 5) (.t 8), (some 9), none, []⟩, ⟨.mov (.t 9), (some 1), none, []⟩]
theorem v181_1 : wpS P L181_1 T L (rdy h) K = wpS P ([⟨.bin .sub (.t 5) (.t 8), (some 9), none, []⟩, ⟨.mov (.t 9), (some 1), none, []⟩]) T L (rdy h) K := rfl
def L181_2 : List AStep := ⟨.load 1 false (.t 6), (some 7), none, []⟩ :: ⟨.lenStr (.t 7), (some 8), none, []⟩ :: L181_1
theorem v181_2 : wpS P L181_2 T L (rdy h) K = wpS P (⟨.load 1 false (.t 6), (some 7), none, []⟩ :: ⟨.lenStr (.t 7), (some 8), none, []⟩ :: L181_1) T L (rdy h) K := rfl
def L181_3 : List AStep := ⟨.mov (.t 1), (some 5), none, []⟩ :: ⟨.faddr 0 (.t 2), (some 6), none, []⟩ :: L181_2
theorem v181_3 : wpS P L181_3 T L (rdy h) K = wpS P (⟨.mov (.t 1), (some 5), none, []⟩ :: ⟨.faddr 0 (.t 2), (some 6), none, []⟩ :: L181_2) T L (rdy h) K := rfl
def L181_4 : List AStep := [⟨.mov (.t 1), (some 10), none, []⟩, ⟨.bin .lss (.t 10) (.c (.int .i64 0)), (some 11), none, []⟩]
theorem v181_4 : wpS P L181_4 T L (rdy h) K = wpS P ([⟨.mov (.t 1), (some 10), none, []⟩, ⟨.bin .lss (.t 10) (.c (.int .i64 0)), (some 11), none, []⟩]) T L (rdy h) K := rfl
def L181_5 : List AStep := [⟨.mov (.c (.int .i64 (-1))), (some 4), none, []⟩]
theorem v181_5 : wpS P L181_5 T L (rdy h) K = wpS P ([⟨.mov (.c (.int .i64 (-1))), (some 4), none, []⟩]) T L (rdy h) K := rfl
def L181_6 : List AStep := [⟨.mov (.t 1), (some 12), none, []⟩, ⟨.mov (.t 12), (some 4), none, []⟩]
theorem v181_6 : wpS P L181_6 T L (rdy h) K = wpS P ([⟨.mov (.t 1), (some 12), none, []⟩, ⟨.mov (.t 12), (some 4), none, []⟩]) T L (rdy h) K := rfl
def C181_0 : ACode := .seq (.reg L181_5) .ret
theorem u181_0 : wpC P C181_0 T L (rdy h) Q = wpC P (.seq (.reg L181_5) .ret) T L (rdy h) Q := rfl
def C181_1 : ACode := .cond (.t 11) C181_0 .skip
theorem u181_1 : wpC P C181_1 T L (rdy h) Q = wpC P (.cond (.t 11) C181_0 .skip) T L (rdy h) Q := rfl
def C181_2 : ACode := .seq (.reg L181_4) C181_1
theorem u181_2 : wpC P C181_2 T L (rdy h) Q = wpC P (.seq (.reg L181_4) C181_1) T L (rdy h) Q := rfl
def C181_3 : ACode := .seq (.reg L181_6) .ret
theorem u181_3 : wpC P C181_3 T L (rdy h) Q = wpC P (.seq (.reg L181_6) .ret) T L (rdy h) Q := rfl
def C181_4 : ACode := .seq C181_2 C181_3
theorem u181_4 : wpC P C181_4 T L (rdy h) Q = wpC P (.seq C181_2 C181_3) T L (rdy h) Q := rfl
def C181_5 : ACode := .seq (.reg L181_3) C181_4
theorem u181_5 : wpC P C181_5 T L (rdy h) Q = wpC P (.seq (.reg L181_3) C181_4) T L (rdy h) Q := rfl
def C181_6 : ACode := .seq (.reg L181_0) C181_5
theorem u181_6 : wpC P C181_6 T L (rdy h) Q = wpC P (.seq (.reg L181_0) C181_5) T L (rdy h) Q := rfl
def F181 : AFunc := ⟨13, [.tmp 4], C181_6⟩
theorem cF181 : compB Try.prog 181 = some F181 := by kernel_rfl
end
attribute [local go_sem ↓] u181_0 u181_1 u181_2 u181_3 u181_4 u181_5 u181_6 v181_0 v181_1 v181_2 v181_3 v181_4 v181_5 v181_6
theorem c_szPair (p : Pair) (left : Int) (h : H) (h1 : 0 ≤ left) (h2 : left ≤ 1048576) (k0 : p.name.size ≤ far) : bm Try.prog 181 [.agg (encP p), .one (.int .i64 left)] h = some (ii (szr left (wtP p)), h) := by
  refine bm_eq cF181 ?_
  simp +contextual (maxSteps := 2000000) only [go_sem, Nat.reduceEqDiff, reduceCtorEq, Nat.reduceAdd, Nat.reduceLeDiff, F181, i64_sub h1 h2 k0]
  unfold szr wtP
  (repeat' (first | refine And.intro ?_ ?_ | intro _)) <;> first | (simp_all; done) | (simp_all; omega)
section
variable {P : Program} {T : Tb} {L : Lb} {h : H} {Q : PostC} {K : Post}
/-! laws.szIntS -/
def L103_0 : List AStep := [⟨.mov (.c (.int .i64 0)), (some 4), none, []⟩]
theorem v103_0 : wpS P L103_0 T L (rdy h) K = wpS P ([⟨.mov (.c (.int .i64 0)), (some 4), none, []⟩]) T L (rdy h) K := rfl
def L103_1 : List AStep := [⟨.mov (.t 8), (some 1), none, []⟩]
theorem v103_1 : wpS P L103_1 T L (rdy h) K = wpS P ([⟨.mov (.t 8), (some 1), none, []⟩]) T L (rdy h) K := rfl
def L103_2 : List AStep := ⟨.len (.t 6), (some 7), none, []⟩ :: ⟨.bin .sub (.t 5) (.t 7), (some 8), none, []⟩ :: L103_1
theorem v103_2 : wpS P L103_2 T L (rdy h) K = wpS P (⟨.len (.t 6), (some 7), none, []⟩ :: ⟨.bin .sub (.t 5) (.t 7), (some 8), none, []⟩ :: L103_1) T L (rdy h) K := rfl
def L103_3 : List AStep := ⟨.mov (.t 1), (some 5), none, []⟩ :: ⟨.mov (.t 0), (some 6), none, []⟩ :: L103_2
theorem v103_3 : wpS P L103_3 T L (rdy h) K = wpS P (⟨.mov (.t 1), (some 5), none, []⟩ :: ⟨.mov (.t 0), (some 6), none, []⟩ :: L103_2) T L (rdy h) K := rfl
def L103_4 : List AStep := [⟨.mov (.t 1), (some 9), none, []⟩, ⟨.bin .lss (.t 9) (.c (.int .i64 0)), (some 10), none, []⟩]
theorem v103_4 : wpS P L103_4 T L (rdy h) K = wpS P ([⟨.mov (.t 1), (some 9), none, []⟩, ⟨.bin .lss (.t 9) (.c (.int .i64 0)), (some 10), none, []⟩]) T L (rdy h) K := rfl
def L103_5 : List AStep := [⟨.mov (.c (.int .i64 (-1))), (some 4), none, []⟩]
theorem v103_5 : wpS P L103_5 T L (rdy h) K = wpS P ([⟨.mov (.c (.int .i64 (-1))), (some 4), none, []⟩]) T L (rdy h) K := rfl
def L103_6 : List AStep := [⟨.mov (.t 1), (some 11), none, []⟩, ⟨.mov (.t 11), (some 4), none, []⟩]
theorem v103_6 : wpS P L103_6 T L (rdy h) K = wpS P ([⟨.mov (.t 1), (some 11), none, []⟩, ⟨.mov (.t 11), (some 4), none, []⟩]) T L (rdy h) K := rfl
def C103_0 : ACode := .seq (.reg L103_5) .ret
theorem u103_0 : wpC P C103_0 T L (rdy h) Q = wpC P (.seq (.reg L103_5) .ret) T L (rdy h) Q := rfl
def C103_1 : ACode := .cond (.t 10) C103_0 .skip
theorem u103_1 : wpC P C103_1 T L (rdy h) Q = wpC P (.cond (.t 10) C103_0 .skip) T L (rdy h) Q := rfl
def C103_2 : ACode := .seq (.reg L103_4) C103_1
theorem u103_2 : wpC P C103_2 T L (rdy h) Q = wpC P (.seq (.reg L103_4) C103_1) T L (rdy h) Q := rfl
def C103_3 : ACode := .seq (.reg L103_6) .ret
theorem u103_3 : wpC P C103_3 T L (rdy h) Q = wpC P (.seq (.reg L103_6) .ret) T L (rdy h) Q := rfl
def C103_4 : ACode := .seq C103_2 C103_3
theorem u103_4 : wpC P C103_4 T L (rdy h) Q = wpC P (.seq C103_2 C103_3) T L (rdy h) Q := rfl
def C103_5 : ACode := .seq (.reg L103_3) C103_4
theorem u103_5 : wpC P C103_5 T L (rdy h) Q = wpC P (.seq (.reg L103_3) C103_4) T L (rdy h) Q := rfl
def C103_6 : ACode := .seq (.reg L103_0) C103_5
theorem u103_6 : wpC P C103_6 T L (rdy h) Q = wpC P (.seq (.reg L103_0) C103_5) T L (rdy h) Q := rfl
def F103 : AFunc := ⟨12, [.tmp 4], C103_6⟩
theorem cF103 : compB Try.prog 103 = some F103 := by kernel_rfl
end
attribute [local go_sem ↓] u103_0 u103_1 u103_2 u103_3 u103_4 u103_5 u103_6 v103_0 v103_1 v103_2 v103_3 v103_4 v103_5 v103_6
theorem c_szIntS {ty : Nat} (l : List Int) (v : AV) (left : Int) (h : H) (h1 : 0 ≤ left) (h2 : left ≤ 1048576) (hl : Sl encI 1 ty h v l) (k0 : l.length ≤ far) : bm Try.prog 103 [v, .one (.int .i64 left)] h = some (ii (szr left l.length), h) := by
  refine bm_eq cF103 ?_
  simp +contextual (maxSteps := 2000000) only [go_sem, Nat.reduceEqDiff, reduceCtorEq, Nat.reduceAdd, Nat.reduceLeDiff, F103, hl.len, i64_sub h1 h2 k0]
  unfold szr
  (repeat' (first | refine And.intro ?_ ?_ | intro _)) <;> first | (simp_all; done) | (simp_all; omega)
section
variable {P : Program} {T : Tb} {L : Lb} {h : H} {Q : PostC} {K : Post}
/-! laws.szParamS -/
def L122_0 : List AStep := [⟨.mov (.c (.int .i64 0)), (some 4), none, []⟩]
theorem v122_0 : wpS P L122_0 T L (rdy h) K = wpS P ([⟨.mov (.c (.int .i64 0)), (some 4), none, []⟩]) T L (rdy h) K := rfl
def L122_1 : List AStep := [⟨.mov (.t 9), (some 1), none, []⟩]
theorem v122_1 : wpS P L122_1 T L (rdy h) K = wpS P ([⟨.mov (.t 9), (some 1), none, []⟩]) T L (rdy h) K := rfl
def L122_2 : List AStep := ⟨.len (.t 7), (some 8), none, []⟩ :: ⟨.bin .sub (.t 6) (.t 8), (some 9), none, []⟩ :: L122_1
theorem v122_2 : wpS P L122_2 T L (rdy h) K = wpS P (⟨.len (.t 7), (some 8), none, []⟩ :: ⟨.bin .sub (.t 6) (.t 8), (some 9), none, []⟩ :: L122_1) T L (rdy h) K := rfl
def L122_3 : List AStep := ⟨.mov (.t 1), (some 6), none, []⟩ :: ⟨.mov (.t 0), (some 7), none, []⟩ :: L122_2
theorem v122_3 : wpS P L122_3 T L (rdy h) K = wpS P (⟨.mov (.t 1), (some 6), none, []⟩ :: ⟨.mov (.t 0), (some 7), none, []⟩ :: L122_2) T L (rdy h) K := rfl
def L122_4 : List AStep := [⟨.mov (.t 1), (some 10), none, []⟩, ⟨.bin .lss (.t 10) (.c (.int .i64 0)), (some 11), none, []⟩]
theorem v122_4 : wpS P L122_4 T L (rdy h) K = wpS P ([⟨.mov (.t 1), (some 10), none, []⟩, ⟨.bin .lss (.t 10) (.c (.int .i64 0)), (some 11), none, []⟩]) T L (rdy h) K := rfl
def L122_5 : List AStep := [⟨.mov (.c (.int .i64 (-1))), (some 4), none, []⟩]
theorem v122_5 : wpS P L122_5 T L (rdy h) K = wpS P ([⟨.mov (.c (.int .i64 (-1))), (some 4), none, []⟩]) T L (rdy h) K := rfl
def L122_6 : List AStep := [⟨.mov (.c (.int .i64 0)), (some 5), none, []⟩]
theorem v122_6 : wpS P L122_6 T L (rdy h) K = wpS P ([⟨.mov (.c (.int .i64 0)), (some 5), none, []⟩]) T L (rdy h) K := rfl
def L122_7 : List AStep := [⟨.len (.t 13), (some 14), none, []⟩, ⟨.bin .lss (.t 12) (.t 14), (some 15), none, []⟩]
theorem v122_7 : wpS P L122_7 T L (rdy h) K = wpS P ([⟨.len (.t 13), (some 14), none, []⟩, ⟨.bin .lss (.t 12) (.t 14), (some 15), none, []⟩]) T L (rdy h) K := rfl
def L122_8 : List AStep := ⟨.mov (.t 5), (some 12), none, []⟩ :: ⟨.mov (.t 0), (some 13), none, []⟩ :: L122_7
theorem v122_8 : wpS P L122_8 T L (rdy h) K = wpS P (⟨.mov (.t 5), (some 12), none, []⟩ :: ⟨.mov (.t 0), (some 13), none, []⟩ :: L122_7) T L (rdy h) K := rfl
def L122_9 : List AStep := [⟨.mov (.t 23), (some 1), none, []⟩]
theorem v122_9 : wpS P L122_9 T L (rdy h) K = wpS P ([⟨.mov (.t 23), (some 1), none, []⟩]) T L (rdy h) K := rfl
def L122_10 : List AStep := ⟨.mov (.t 1), (some 22), none, []⟩ :: ⟨.call 190 [(.t 21), (.t 22)], (some 23), none, []⟩ :: L122_9
theorem v122_10 : wpS P L122_10 T L (rdy h) K = wpS P (⟨.mov (.t 1), (some 22), none, []⟩ :: ⟨.call 190 [(.t 21), (.t 22)], (some 23), none, []⟩ :: L122_9) T L (rdy h) K := rfl
def L122_11 : List AStep := ⟨.iaddr 4 (.t 18) (.t 19), (some 20), none, []⟩ :: ⟨.load 4 true (.t 20), (some 21), none, []⟩ :: L122_10
theorem v122_11 : wpS P L122_11 T L (rdy h) K = wpS P (⟨.iaddr 4 (.t 18) (.t 19), (some 20), none, []⟩ :: ⟨.load 4 true (.t 20), (some 21), none, []⟩ :: L122_10) T L (rdy h) K := rfl
def L122_12 : List AStep := ⟨.mov (.t 0), (some 18), none, []⟩ :: ⟨.mov (.t 5), (some 19), none, []⟩ :: L122_11
theorem v122_12 : wpS P L122_12 T L (rdy h) K = wpS P (⟨.mov (.t 0), (some 18), none, []⟩ :: ⟨.mov (.t 5), (some 19), none, []⟩ :: L122_11) T L (rdy h) K := rfl
def L122_13 : List AStep := [⟨.mov (.t 1), (some 24), none, []⟩, ⟨.bin .lss (.t 24) (.c (.int .i64 0)), (some 25), none, []⟩]
theorem v122_13 : wpS P L122_13 T L (rdy h) K = wpS P ([⟨.mov (.t 1), (some 24), none, []⟩, ⟨.bin .lss (.t 24) (.c (.int .i64 0)), (some 25), none, []⟩]) T L (rdy h) K := rfl
def L122_14 : List AStep := [⟨.mov (.c (.int .i64 (-1))), (some 4), none, []⟩]
theorem v122_14 : wpS P L122_14 T L (rdy h) K = wpS P ([⟨.mov (.c (.int .i64 (-1))), (some 4), none, []⟩]) T L (rdy h) K := rfl
def L122_15 : List AStep := [⟨.mov (.t 17), (some 5), none, []⟩]
theorem v122_15 : wpS P L122_15 T L (rdy h) K = wpS P ([⟨.mov (.t 17), (some 5), none, []⟩]) T L (rdy h) K := rfl
def L122_16 : List AStep := ⟨.mov (.t 5), (some 16), none, []⟩ :: ⟨.bin .add (.t 16) (.c (.int .i64 1)), (some 17), none, []⟩ :: L122_15
theorem v122_16 : wpS P L122_16 T L (rdy h) K = wpS P (⟨.mov (.t 5), (some 16), none, []⟩ :: ⟨.bin .add (.t 16) (.c (.int .i64 1)), (some 17), none, []⟩ :: L122_15) T L (rdy h) K := rfl
def L122_17 : List AStep := [⟨.mov (.t 1), (some 26), none, []⟩, ⟨.mov (.t 26), (some 4), none, []⟩]
theorem v122_17 : wpS P L122_17 T L (rdy h) K = wpS P ([⟨.mov (.t 1), (some 26), none, []⟩, ⟨.mov (.t 26), (some 4), none, []⟩]) T L (rdy h) K := rfl
def C122_0 : ACode := .seq (.reg L122_5) .ret
theorem u122_0 : wpC P C122_0 T L (rdy h) Q = wpC P (.seq (.reg L122_5) .ret) T L (rdy h) Q := rfl
def C122_1 : ACode := .cond (.t 11) C122_0 .skip
theorem u122_1 : wpC P C122_1 T L (rdy h) Q = wpC P (.cond (.t 11) C122_0 .skip) T L (rdy h) Q := rfl
def C122_2 : ACode := .seq (.reg L122_4) C122_1
theorem u122_2 : wpC P C122_2 T L (rdy h) Q = wpC P (.seq (.reg L122_4) C122_1) T L (rdy h) Q := rfl
def C122_3 : ACode := .cond (.t 15) .skip (.exit 0)
theorem u122_3 : wpC P C122_3 T L (rdy h) Q = wpC P (.cond (.t 15) .skip (.exit 0)) T L (rdy h) Q := rfl
def C122_4 : ACode := .seq (.reg L122_8) C122_3
theorem u122_4 : wpC P C122_4 T L (rdy h) Q = wpC P (.seq (.reg L122_8) C122_3) T L (rdy h) Q := rfl
def C122_5 : ACode := .seq (.reg L122_14) .ret
theorem u122_5 : wpC P C122_5 T L (rdy h) Q = wpC P (.seq (.reg L122_14) .ret) T L (rdy h) Q := rfl
def C122_6 : ACode := .cond (.t 25) C122_5 .skip
theorem u122_6 : wpC P C122_6 T L (rdy h) Q = wpC P (.cond (.t 25) C122_5 .skip) T L (rdy h) Q := rfl
def C122_7 : ACode := .seq (.reg L122_13) C122_6
theorem u122_7 : wpC P C122_7 T L (rdy h) Q = wpC P (.seq (.reg L122_13) C122_6) T L (rdy h) Q := rfl
def C122_8 : ACode := .seq (.reg L122_12) C122_7
theorem u122_8 : wpC P C122_8 T L (rdy h) Q = wpC P (.seq (.reg L122_12) C122_7) T L (rdy h) Q := rfl
def C122_9 : ACode := .block 1 C122_8
theorem u122_9 : wpC P C122_9 T L (rdy h) Q = wpC P (.block 1 C122_8) T L (rdy h) Q := rfl
def C122_10 : ACode := .seq C122_9 (.reg L122_16)
theorem u122_10 : wpC P C122_10 T L (rdy h) Q = wpC P (.seq C122_9 (.reg L122_16)) T L (rdy h) Q := rfl
def C122_11 : ACode := .seq C122_4 C122_10
theorem u122_11 : wpC P C122_11 T L (rdy h) Q = wpC P (.seq C122_4 C122_10) T L (rdy h) Q := rfl
def C122_12 : ACode := .block 0 (.loop C122_11)
theorem u122_12 : wpC P C122_12 T L (rdy h) Q = wpC P (.block 0 (.loop C122_11)) T L (rdy h) Q := rfl
def C122_13 : ACode := .seq (.reg L122_6) C122_12
theorem u122_13 : wpC P C122_13 T L (rdy h) Q = wpC P (.seq (.reg L122_6) C122_12) T L (rdy h) Q := rfl
def C122_14 : ACode := .seq (.reg L122_17) .ret
theorem u122_14 : wpC P C122_14 T L (rdy h) Q = wpC P (.seq (.reg L122_17) .ret) T L (rdy h) Q := rfl
def C122_15 : ACode := .seq C122_13 C122_14
theorem u122_15 : wpC P C122_15 T L (rdy h) Q = wpC P (.seq C122_13 C122_14) T L (rdy h) Q := rfl
def C122_16 : ACode := .seq C122_2 C122_15
theorem u122_16 : wpC P C122_16 T L (rdy h) Q = wpC P (.seq C122_2 C122_15) T L (rdy h) Q := rfl
def C122_17 : ACode := .seq (.reg L122_3) C122_16
theorem u122_17 : wpC P C122_17 T L (rdy h) Q = wpC P (.seq (.reg L122_3) C122_16) T L (rdy h) Q := rfl
def C122_18 : ACode := .seq (.reg L122_0) C122_17
theorem u122_18 : wpC P C122_18 T L (rdy h) Q = wpC P (.seq (.reg L122_0) C122_17) T L (rdy h) Q := rfl
def F122 : AFunc := ⟨27, [.tmp 4], C122_18⟩
theorem cF122 : compB Try.prog 122 = some F122 := by kernel_rfl
end
attribute [local go_sem ↓] u122_0 u122_1 u122_2 u122_3 u122_4 u122_5 u122_6 u122_7 u122_8 u122_9 u122_10 u122_11 u122_12 u122_13 u122_14 u122_15 u122_16 u122_17 u122_18 v122_0 v122_1 v122_2 v122_3 v122_4 v122_5 v122_6 v122_7 v122_8 v122_9 v122_10 v122_11 v122_12 v122_13 v122_14 v122_15 v122_16 v122_17
theorem c_szParamS {ty : Nat} (l : List Param) (v : AV) (left : Int) (h : H) (h1 : 0 ≤ left) (h2 : left ≤ 1048576) (hl : Sl encQ 4 ty h v l) (k0 : l.length ≤ far) (k1 : ∀ x ∈ l, x.name.size ≤ far) : bm Try.prog 122 [v, .one (.int .i64 left)] h = some (ii (szr left (wtL wtQ l)), h) := by
  refine bm_eq cF122 ?_
  by_cases e : left - (l.length : Int) < 0
  · simp +contextual (maxSteps := 2000000) only [go_sem, Nat.reduceEqDiff, reduceCtorEq, Nat.reduceAdd, Nat.reduceLeDiff, F122, hl.len, i64_sub h1 h2 k0, decide_eq_true e]
    unfold szr wtL
    rw [if_pos (by omega)]
  simp +contextual (maxSteps := 2000000) only [go_sem, Nat.reduceEqDiff, reduceCtorEq, Nat.reduceAdd, Nat.reduceLeDiff, F122, hl.len, i64_sub h1 h2 k0, decide_eq_false e]
  refine wpC_loop (fun i T L h' => h' = h ∧ T 0 = .v v ∧ T 5 = .v (.one (.int .i64 i)) ∧ T 1 = .v (.one (.int .i64 (left - (l.length : Int) - (wsum wtQ l i : Int)))) ∧ 0 ≤ left - (l.length : Int) - (wsum wtQ l i : Int)) l.length ?_ ?_ (Nat.zero_le _) ?_
  · rintro i T L h' hi ⟨rfl, t0, t5, t1, hw⟩
    have hm := List.getElem_mem hi
    have e2 := wsum_next (f := wtQ) hi
    have e3 := wsum_le (f := wtQ) (l := l) (show i + 1 ≤ l.length by omega)
    have e1 := c_szParam l[i] (left - (l.length : Int) - (wsum wtQ l i : Int)) h' hw (by omega) (k1 _ hm)
    by_cases e4 : left - (l.length : Int) - (wsum wtQ l i : Int) - (wtQ l[i] : Int) < 0
    · simp +contextual (maxSteps := 2000000) only [go_sem, Nat.reduceEqDiff, reduceCtorEq, Nat.reduceAdd, Nat.reduceLeDiff, t0, t1, t5, hl.len, hl.iaddr hi, hl.whole hi, e1, lt_true hi, decide_eq_true (szr_lt.2 e4)]
      unfold szr wtL
      rw [if_pos (by omega)]
    · simp +contextual (maxSteps := 2000000) only [go_sem, Nat.reduceEqDiff, reduceCtorEq, Nat.reduceAdd, Nat.reduceLeDiff, t0, t1, t5, hl.len, hl.iaddr hi, hl.whole hi, e1, lt_true hi, decide_eq_false (show ¬ szr (left - (l.length : Int) - (wsum wtQ l i : Int)) (wtQ l[i]) < 0 by rw [szr_lt]; exact e4)]
      have e5 : szr (left - (l.length : Int) - (wsum wtQ l i : Int)) (wtQ l[i]) = left - (l.length : Int) - (wsum wtQ l (i + 1) : Int) := by
        unfold szr
        rw [if_neg e4, e2]
        omega
      rw [wrap_next hi (by omega), e5]
      exact ⟨rfl, rfl, by omega⟩
  · rintro T L h' ⟨rfl, t0, t5, t1, hw⟩
    simp +contextual (maxSteps := 2000000) only [go_sem, Nat.reduceEqDiff, reduceCtorEq, Nat.reduceAdd, Nat.reduceLeDiff, t0, t1, t5, hl.len, lt_false]
    unfold szr wtL
    rw [if_neg (by omega)]
    rw [show left - (l.length : Int) - (wsum wtQ l l.length : Int) = left - ((l.length + wsum wtQ l l.length : Nat) : Int) by omega]
  · simp +contextual (maxSteps := 2000000) only [go_sem, Nat.reduceEqDiff, reduceCtorEq, Nat.reduceAdd, Nat.reduceLeDiff, wsum_zero]
    (repeat' (first | refine And.intro ?_ ?_ | intro _)) <;> first | rfl | (simp; done) | (simp; omega)
section
variable {P : Program} {T : Tb} {L : Lb} {h : H} {Q : PostC} {K : Post}
/-! laws.szPairS -/
def L104_0 : List AStep := [⟨.mov (.c (.int .i64 0)), (some 4), none, []⟩]
theorem v104_0 : wpS P L104_0 T L (rdy h) K = wpS P ([⟨.mov (.c (.int .i64 0)), (some 4), none, []⟩]) T L (rdy h) K := rfl
def L104_1 : List AStep := [⟨.mov (.t 9), (some 1), none, []⟩]
theorem v104_1 : wpS P L104_1 T L (rdy h) K = wpS P ([⟨.mov (.t 9), (some 1), none, []⟩]) T L (rdy h) K := rfl
def L104_2 : List AStep := ⟨.len (.t 7), (some 8), none, []⟩ :: ⟨.bin .sub (.t 6) (.t 8), (some 9), none, []⟩ :: L104_1
theorem v104_2 : wpS P L104_2 T L (rdy h) K = wpS P (⟨.len (.t 7), (some 8), none, []⟩ :: ⟨.bin .sub (.t 6) (.t 8), (some 9), none, []⟩ :: L104_1) T L (rdy h) K := rfl
def L104_3 : List AStep := ⟨.mov (.t 1), (some 6), none, []⟩ :: ⟨.mov (.t 0), (some 7), none, []⟩ :: L104_2
theorem v104_3 : wpS P L104_3 T L (rdy h) K = wpS P (⟨.mov (.t 1), (some 6), none, []⟩ :: ⟨.mov (.t 0), (some 7), none, []⟩ :: L104_2) T L (rdy h) K := rfl
def L104_4 : List AStep := [⟨.mov (.t 1), (some 10), none, []⟩, ⟨.bin .lss (.t 10) (.c (.int .i64 0)), (some 11), none, []⟩]
theorem v104_4 : wpS P L104_4 T L (rdy h) K = wpS P ([⟨.mov (.t 1), (some 10), none, []⟩, ⟨.bin .lss (.t 10) (.c (.int .i64 0)), (some 11), none, []⟩]) T L (rdy h) K := rfl
def L104_5 : List AStep := [⟨.mov (.c (.int .i64 (-1))), (some 4), none, []⟩]
theorem v104_5 : wpS P L104_5 T L (rdy h) K = wpS P ([⟨.mov (.c (.int .i64 (-1))), (some 4), none, []⟩]) T L (rdy h) K := rfl
def L104_6 : List AStep := [⟨.mov (.c (.int .i64 0)), (some 5), none, []⟩]
theorem v104_6 : wpS P L104_6 T L (rdy h) K = wpS P ([⟨.mov (.c (.int .i64 0)), (some 5), none, []⟩]) T L (rdy h) K := rfl
def L104_7 : List AStep := [⟨.len (.t 13), (some 14), none, []⟩, ⟨.bin .lss (.t 12) (.t 14), (some 15), none, []⟩]
theorem v104_7 : wpS P L104_7 T L (rdy h) K = wpS P ([⟨.len (.t 13), (some 14), none, []⟩, ⟨.bin .lss (.t 12) (.t 14), (some 15), none, []⟩]) T L (rdy h) K := rfl
def L104_8 : List AStep := ⟨.mov (.t 5), (some 12), none, []⟩ :: ⟨.mov (.t 0), (some 13), none, []⟩ :: L104_7
theorem v104_8 : wpS P L104_8 T L (rdy h) K = wpS P (⟨.mov (.t 5), (some 12), none, []⟩ :: ⟨.mov (.t 0), (some 13), none, []⟩ :: L104_7) T L (rdy h) K := rfl
def L104_9 : List AStep := [⟨.mov (.t 23), (some 1), none, []⟩]
theorem v104_9 : wpS P L104_9 T L (rdy h) K = wpS P ([⟨.mov (.t 23), (some 1), none, []⟩]) T L (rdy h) K := rfl
def L104_10 : List AStep := ⟨.mov (.t 1), (some 22), none, []⟩ :: ⟨.call 181 [(.t 21), (.t 22)], (some 23), none, []⟩ :: L104_9
theorem v104_10 : wpS P L104_10 T L (rdy h) K = wpS P (⟨.mov (.t 1), (some 22), none, []⟩ :: ⟨.call 181 [(.t 21), (.t 22)], (some 23), none, []⟩ :: L104_9) T L (rdy h) K := rfl
def L104_11 : List AStep := ⟨.iaddr 2 (.t 18) (.t 19), (some 20), none, []⟩ :: ⟨.load 2 true (.t 20), (some 21), none, []⟩ :: L104_10
theorem v104_11 : wpS P L104_11 T L (rdy h) K = wpS P (⟨.iaddr 2 (.t 18) (.t 19), (some 20), none, []⟩ :: ⟨.load 2 true (.t 20), (some 21), none, []⟩ :: L104_10) T L (rdy h) K := rfl
def L104_12 : List AStep := ⟨.mov (.t 0), (some 18), none, []⟩ :: ⟨.mov (.t 5), (some 19), none, []⟩ :: L104_11
theorem v104_12 : wpS P L104_12 T L (rdy h) K = wpS P (⟨.mov (.t 0), (some 18), none, []⟩ :: ⟨.mov (.t 5), (some 19), none, []⟩ :: L104_11) T L (rdy h) K := rfl
def L104_13 : List AStep := [⟨.mov (.t 1), (some 24), none, []⟩, ⟨.bin .lss (.t 24) (.c (.int .i64 0)), (some 25), none, []⟩]
theorem v104_13 : wpS P L104_13 T L (rdy h) K = wpS P ([⟨.mov (.t 1), (some 24), none, []⟩, ⟨.bin .lss (.t 24) (.c (.int .i64 0)), (some 25), none, []⟩]) T L (rdy h) K := rfl
def L104_14 : List AStep := [⟨.mov (.c (.int .i64 (-1))), (some 4), none, []⟩]
theorem v104_14 : wpS P L104_14 T L (rdy h) K = wpS P ([⟨.mov (.c (.int .i64 (-1))), (some 4), none, []⟩]) T L (rdy h) K := rfl
def L104_15 : List AStep := [⟨.mov (.t 17), (some 5), none, []⟩]
theorem v104_15 : wpS P L104_15 T L (rdy h) K = wpS P ([⟨.mov (.t 17), (some 5), none, []⟩]) T L (rdy h) K := rfl
def L104_16 : List AStep := ⟨.mov (.t 5), (some 16), none, []⟩ :: ⟨.bin .add (.t 16) (.c (.int .i64 1)), (some 17), none, []⟩ :: L104_15
theorem v104_16 : wpS P L104_16 T L (rdy h) K = wpS P (⟨.mov (.t 5), (some 16), none, []⟩ :: ⟨.bin .add (.t 16) (.c (.int .i64 1)), (some 17), none, []⟩ :: L104_15) T L (rdy h) K := rfl
def L104_17 : List AStep := [⟨.mov (.t 1), (some 26), none, []⟩, ⟨.mov (.t 26), (some 4), none, []⟩]
theorem v104_17 : wpS P L104_17 T L (rdy h) K = wpS P ([⟨.mov (.t 1), (some 26), none, []⟩, ⟨.mov (.t 26), (some 4), none, []⟩]) T L (rdy h) K := rfl
def C104_0 : ACode := .seq (.reg L104_5) .ret
theorem u104_0 : wpC P C104_0 T L (rdy h) Q = wpC P (.seq (.reg L104_5) .ret) T L (rdy h) Q := rfl
def C104_1 : ACode := .cond (.t 11) C104_0 .skip
theorem u104_1 : wpC P C104_1 T L (rdy h) Q = wpC P (.cond (.t 11) C104_0 .skip) T L (rdy h) Q := rfl
def C104_2 : ACode := .seq (.reg L104_4) C104_1
theorem u104_2 : wpC P C104_2 T L (rdy h) Q = wpC P (.seq (.reg L104_4) C104_1) T L (rdy h) Q := rfl
def C104_3 : ACode := .cond (.t 15) .skip (.exit 0)
theorem u104_3 : wpC P C104_3 T L (rdy h) Q = wpC P (.cond (.t 15) .skip (.exit 0)) T L (rdy h) Q := rfl
def C104_4 : ACode := .seq (.reg L104_8) C104_3
theorem u104_4 : wpC P C104_4 T L (rdy h) Q = wpC P (.seq (.reg L104_8) C104_3) T L (rdy h) Q := rfl
def C104_5 : ACode := .seq (.reg L104_14) .ret
theorem u104_5 : wpC P C104_5 T L (rdy h) Q = wpC P (.seq (.reg L104_14) .ret) T L (rdy h) Q := rfl
def C104_6 : ACode := .cond (.t 25) C104_5 .skip
theorem u104_6 : wpC P C104_6 T L (rdy h) Q = wpC P (.cond (.t 25) C104_5 .skip) T L (rdy h) Q := rfl
def C104_7 : ACode := .seq (.reg L104_13) C104_6
theorem u104_7 : wpC P C104_7 T L (rdy h) Q = wpC P (.seq (.reg L104_13) C104_6) T L (rdy h) Q := rfl
def C104_8 : ACode := .seq (.reg L104_12) C104_7
theorem u104_8 : wpC P C104_8 T L (rdy h) Q = wpC P (.seq (.reg L104_12) C104_7) T L (rdy h) Q := rfl
def C104_9 : ACode := .block 1 C104_8
theorem u104_9 : wpC P C104_9 T L (rdy h) Q = wpC P (.block 1 C104_8) T L (rdy h) Q := rfl
def C104_10 : ACode := .seq C104_9 (.reg L104_16)
theorem u104_10 : wpC P C104_10 T L (rdy h) Q = wpC P (.seq C104_9 (.reg L104_16)) T L (rdy h) Q := rfl
def C104_11 : ACode := .seq C104_4 C104_10
theorem u104_11 : wpC P C104_11 T L (rdy h) Q = wpC P (.seq C104_4 C104_10) T L (rdy h) Q := rfl
def C104_12 : ACode := .block 0 (.loop C104_11)
theorem u104_12 : wpC P C104_12 T L (rdy h) Q = wpC P (.block 0 (.loop C104_11)) T L (rdy h) Q := rfl
def C104_13 : ACode := .seq (.reg L104_6) C104_12
theorem u104_13 : wpC P C104_13 T L (rdy h) Q = wpC P (.seq (.reg L104_6) C104_12) T L (rdy h) Q := rfl
def C104_14 : ACode := .seq (.reg L104_17) .ret
theorem u104_14 : wpC P C104_14 T L (rdy h) Q = wpC P (.seq (.reg L104_17) .ret) T L (rdy h) Q := rfl
def C104_15 : ACode := .seq C104_13 C104_14
theorem u104_15 : wpC P C104_15 T L (rdy h) Q = wpC P (.seq C104_13 C104_14) T L (rdy h) Q := rfl
def C104_16 : ACode := .seq C104_2 C104_15
theorem u104_16 : wpC P C104_16 T L (rdy h) Q = wpC P (.seq C104_2 C104_15) T L (rdy h) Q := rfl
def C104_17 : ACode := .seq (.reg L104_3) C104_16
theorem u104_17 : wpC P C104_17 T L (rdy h) Q = wpC P (.seq (.reg L104_3) C104_16) T L (rdy h) Q := rfl
def C104_18 : ACode := .seq (.reg L104_0) C104_17
theorem u104_18 : wpC P C104_18 T L (rdy h) Q = wpC P (.seq (.reg L104_0) C104_17) T L (rdy h) Q := rfl
def F104 : AFunc := ⟨27, [.tmp 4], C104_18⟩
theorem cF104 : compB Try.prog 104 = some F104 := by kernel_rfl
end
attribute [local go_sem ↓] u104_0 u104_1 u104_2 u104_3 u104_4 u104_5 u104_6 u104_7 u104_8 u104_9 u104_10 u104_11 u104_12 u104_13 u104_14 u104_15 u104_16 u104_17 u104_18 v104_0 v104_1 v104_2 v104_3 v104_4 v104_5 v104_6 v104_7 v104_8 v104_9 v104_10 v104_11 v104_12 v104_13 v104_14 v104_15 v104_16 v104_17
theorem c_szPairS {ty : Nat} (l : List Pair) (v : AV) (left : Int) (h : H) (h1 : 0 ≤ left) (h2 : left ≤ 1048576) (hl : Sl encP 2 ty h v l) (k0 : l.length ≤ far) (k1 : ∀ x ∈ l, x.name.size ≤ far) : bm Try.prog 104 [v, .one (.int .i64 left)] h = some (ii (szr left (wtL wtP l)), h) := by
  refine bm_eq cF104 ?_
  by_cases e : left - (l.length : Int) < 0
  · simp +contextual (maxSteps := 2000000) only [go_sem, Nat.reduceEqDiff, reduceCtorEq, Nat.reduceAdd, Nat.reduceLeDiff, F104, hl.len, i64_sub h1 h2 k0, decide_eq_true e]
    unfold szr wtL
    rw [if_pos (by omega)]
  simp +contextual (maxSteps := 2000000) only [go_sem, Nat.reduceEqDiff, reduceCtorEq, Nat.reduceAdd, Nat.reduceLeDiff, F104, hl.len, i64_sub h1 h2 k0, decide_eq_false e]
  refine wpC_loop (fun i T L h' => h' = h ∧ T 0 = .v v ∧ T 5 = .v (.one (.int .i64 i)) ∧ T 1 = .v (.one (.int .i64 (left - (l.length : Int) - (wsum wtP l i : Int)))) ∧ 0 ≤ left - (l.length : Int) - (wsum wtP l i : Int)) l.length ?_ ?_ (Nat.zero_le _) ?_
  · rintro i T L h' hi ⟨rfl, t0, t5, t1, hw⟩
    have hm := List.getElem_mem hi
    have e2 := wsum_next (f := wtP) hi
    have e3 := wsum_le (f := wtP) (l := l) (show i + 1 ≤ l.length by omega)
    have e1 := c_szPair l[i] (left - (l.length : Int) - (wsum wtP l i : Int)) h' hw (by omega) (k1 _ hm)
    by_cases e4 : left - (l.length : Int) - (wsum wtP l i : Int) - (wtP l[i] : Int) < 0
    · simp +contextual (maxSteps := 2000000) only [go_sem, Nat.reduceEqDiff, reduceCtorEq, Nat.reduceAdd, Nat.reduceLeDiff, t0, t1, t5, hl.len, hl.iaddr hi, hl.whole hi, e1, lt_true hi, decide_eq_true (szr_lt.2 e4)]
      unfold szr wtL
      rw [if_pos (by omega)]
    · simp +contextual (maxSteps := 2000000) only [go_sem, Nat.reduceEqDiff, reduceCtorEq, Nat.reduceAdd, Nat.reduceLeDiff, t0, t1, t5, hl.len, hl.iaddr hi, hl.whole hi, e1, lt_true hi, decide_eq_false (show ¬ szr (left - (l.length : Int) - (wsum wtP l i : Int)) (wtP l[i]) < 0 by rw [szr_lt]; exact e4)]
      have e5 : szr (left - (l.length : Int) - (wsum wtP l i : Int)) (wtP l[i]) = left - (l.length : Int) - (wsum wtP l (i + 1) : Int) := by
        unfold szr
        rw [if_neg e4, e2]
        omega
      rw [wrap_next hi (by omega), e5]
      exact ⟨rfl, rfl, by omega⟩
  · rintro T L h' ⟨rfl, t0, t5, t1, hw⟩
    simp +contextual (maxSteps := 2000000) only [go_sem, Nat.reduceEqDiff, reduceCtorEq, Nat.reduceAdd, Nat.reduceLeDiff, t0, t1, t5, hl.len, lt_false]
    unfold szr wtL
    rw [if_neg (by omega)]
    rw [show left - (l.length : Int) - (wsum wtP l l.length : Int) = left - ((l.length + wsum wtP l l.length : Nat) : Int) by omega]
  · simp +contextual (maxSteps := 2000000) only [go_sem, Nat.reduceEqDiff, reduceCtorEq, Nat.reduceAdd, Nat.reduceLeDiff, wsum_zero]
    (repeat' (first | refine And.intro ?_ ?_ | intro _)) <;> first | rfl | (simp; done) | (simp; omega)
section
variable {P : Program} {T : Tb} {L : Lb} {h : H} {Q : PostC} {K : Post}
/-! laws.szSignature -/
def L46_0 : List AStep := [⟨.box 74 (.t 0), (some 2), none, []⟩, ⟨.mov (.c (.int .i64 0)), (some 4), none, []⟩]
theorem v46_0 : wpS P L46_0 T L (rdy h) K = wpS P ([⟨.box 74 (.t 0), (some 2), none, []⟩, ⟨.mov (.c (.int .i64 0)), (some 4), none, []⟩]) T L (rdy h) K := rfl
def L46_1 : List AStep := [⟨.mov (.t 8), (some 1), none, []⟩]
theorem v46_1 : wpS P L46_1 T L (rdy h) K = wpS P ([⟨.mov (.t 8), (some 1), none, []⟩]) T L (rdy h) K := rfl
def L46_2 : List AStep := ⟨.mov (.t 1), (some 7), none, []⟩ :: ⟨.call 122 [(.t 6), (.t 7)], (some 8), none, []⟩ :: L46_1
theorem v46_2 : wpS P L46_2 T L (rdy h) K = wpS P (⟨.mov (.t 1), (some 7), none, []⟩ :: ⟨.call 122 [(.t 6), (.t 7)], (some 8), none, []⟩ :: L46_1) T L (rdy h) K := rfl
def L46_3 : List AStep := ⟨.faddr 0 (.t 2), (some 5), none, []⟩ :: ⟨.load 1 false (.t 5), (some 6), none, []⟩ :: L46_2
theorem v46_3 : wpS P L46_3 T L (rdy h) K = wpS P (⟨.faddr 0 (.t 2), (some 5), none, []⟩ :: ⟨.load 1 false (.t 5), (some 6), none, []⟩ :: L46_2) T L (rdy h) K := rfl
def L46_4 : List AStep := [⟨.mov (.t 1), (some 9), none, []⟩, ⟨.bin .lss (.t 9) (.c (.int .i64 0)), (some 10), none, []⟩]
theorem v46_4 : wpS P L46_4 T L (rdy h) K = wpS P ([⟨.mov (.t 1), (some 9), none, []⟩, ⟨.bin .lss (.t 9) (.c (.int .i64 0)), (some 10), none, []⟩]) T L (rdy h) K := rfl
def L46_5 : List AStep := [⟨.mov (.c (.int .i64 (-1))), (some 4), none, []⟩]
theorem v46_5 : wpS P L46_5 T L (rdy h) K = wpS P ([⟨.mov (.c (.int .i64 (-1))), (some 4), none, []⟩]) T L (rdy h) K := rfl
def L46_6 : List AStep := [⟨.mov (.t 1), (some 11), none, []⟩, ⟨.mov (.t 11), (some 4), none, []⟩]
theorem v46_6 : wpS P L46_6 T L (rdy h) K = wpS P ([⟨.mov (.t 1), (some 11), none, []⟩, ⟨.mov (.t 11), (some 4), none, []⟩]) T L (rdy h) K := rfl
def C46_0 : ACode := .seq (.reg L46_5) .ret
theorem u46_0 : wpC P C46_0 T L (rdy h) Q = wpC P (.seq (.reg L46_5) .ret) T L (rdy h) Q := rfl
def C46_1 : ACode := .cond (.t 10) C46_0 .skip
theorem u46_1 : wpC P C46_1 T L (rdy h) Q = wpC P (.cond (.t 10) C46_0 .skip) T L (rdy h) Q := rfl
def C46_2 : ACode := .seq (.reg L46_4) C46_1
theorem u46_2 : wpC P C46_2 T L (rdy h) Q = wpC P (.seq (.reg L46_4) C46_1) T L (rdy h) Q := rfl
def C46_3 : ACode := .seq (.reg L46_6) .ret
theorem u46_3 : wpC P C46_3 T L (rdy h) Q = wpC P (.seq (.reg L46_6) .ret) T L (rdy h) Q := rfl
def C46_4 : ACode := .seq C46_2 C46_3
theorem u46_4 : wpC P C46_4 T L (rdy h) Q = wpC P (.seq C46_2 C46_3) T L (rdy h) Q := rfl
def C46_5 : ACode := .seq (.reg L46_3) C46_4
theorem u46_5 : wpC P C46_5 T L (rdy h) Q = wpC P (.seq (.reg L46_3) C46_4) T L (rdy h) Q := rfl
def C46_6 : ACode := .seq (.reg L46_0) C46_5
theorem u46_6 : wpC P C46_6 T L (rdy h) Q = wpC P (.seq (.reg L46_0) C46_5) T L (rdy h) Q := rfl
def F46 : AFunc := ⟨12, [.tmp 4], C46_6⟩
theorem cF46 : compB Try.prog 46 = some F46 := by kernel_rfl
end
attribute [local go_sem ↓] u46_0 u46_1 u46_2 u46_3 u46_4 u46_5 u46_6 v46_0 v46_1 v46_2 v46_3 v46_4 v46_5 v46_6
theorem c_szSignature {ty : Nat} (l : List Param) (v : CV) (left : Int) (h : H) (h1 : 0 ≤ left) (h2 : left ≤ 1048576) (hl : Sl encQ 4 ty h (.one v) l) (k0 : l.length ≤ far) (k1 : ∀ x ∈ l, x.name.size ≤ far) : bm Try.prog 46 [.agg [v], .one (.int .i64 left)] h = some (ii (szr left (wtL wtQ l)), h) := by
  refine bm_eq cF46 ?_
  simp +contextual (maxSteps := 2000000) only [go_sem, Nat.reduceEqDiff, reduceCtorEq, Nat.reduceAdd, Nat.reduceLeDiff, F46, c_szParamS _ _ _ _ h1 h2 hl k0 k1]
  unfold szr
  (repeat' (first | refine And.intro ?_ ?_ | intro _)) <;> first | (simp_all; done) | (simp_all; omega)
section
variable {P : Program} {T : Tb} {L : Lb} {h : H} {Q : PostC} {K : Post}
/-! laws.szFlat -/
def L33_0 : List AStep := [⟨.box 63 (.t 0), (some 2), none, []⟩, ⟨.mov (.c (.int .i64 0)), (some 4), none, []⟩]
theorem v33_0 : wpS P L33_0 T L (rdy h) K = wpS P ([⟨.box 63 (.t 0), (some 2), none, []⟩, ⟨.mov (.c (.int .i64 0)), (some 4), none, []⟩]) T L (rdy h) K := rfl
def L33_1 : List AStep := [⟨.mov (.t 8), (some 1), none, []⟩]
theorem v33_1 : wpS P L33_1 T L (rdy h) K = wpS P ([⟨.mov (.t 8), (some 1), none, []⟩]) T L (rdy h) K := rfl
def L33_2 : List AStep := ⟨.mov (.t 1), (some 7), none, []⟩ :: ⟨.call 103 [(.t 6), (.t 7)], (some 8), none, []⟩ :: L33_1
theorem v33_2 : wpS P L33_2 T L (rdy h) K = wpS P (⟨.mov (.t 1), (some 7), none, []⟩ :: ⟨.call 103 [(.t 6), (.t 7)], (some 8), none, []⟩ :: L33_1) T L (rdy h) K := rfl
def L33_3 : List AStep := ⟨.faddr 0 (.t 2), (some 5), none, []⟩ :: ⟨.load 1 false (.t 5), (some 6), none, []⟩ :: L33_2
theorem v33_3 : wpS P L33_3 T L (rdy h) K = wpS P (⟨.faddr 0 (.t 2), (some 5), none, []⟩ :: ⟨.load 1 false (.t 5), (some 6), none, []⟩ :: L33_2) T L (rdy h) K := rfl
def L33_4 : List AStep := [⟨.mov (.t 1), (some 9), none, []⟩, ⟨.bin .lss (.t 9) (.c (.int .i64 0)), (some 10), none, []⟩]
theorem v33_4 : wpS P L33_4 T L (rdy h) K = wpS P ([⟨.mov (.t 1), (some 9), none, []⟩, ⟨.bin .lss (.t 9) (.c (.int .i64 0)), (some 10), none, []⟩]) T L (rdy h) K := rfl
def L33_5 : List AStep := [⟨.mov (.c (.int .i64 (-1))), (some 4), none, []⟩]
theorem v33_5 : wpS P L33_5 T L (rdy h) K = wpS P ([⟨.mov (.c (.int .i64 (-1))), (some 4), none, []⟩]) T L (rdy h) K := rfl
def L33_6 : List AStep := [⟨.mov (.t 14), (some 1), none, []⟩]
theorem v33_6 : wpS P L33_6 T L (rdy h) K = wpS P ([⟨.mov (.t 14), (some 1), none, []⟩]) T L (rdy h) K := rfl
def L33_7 : List AStep := ⟨.mov (.t 1), (some 13), none, []⟩ :: ⟨.call 104 [(.t 12), (.t 13)], (some 14), none, []⟩ :: L33_6
theorem v33_7 : wpS P L33_7 T L (rdy h) K = wpS P (⟨.mov (.t 1), (some 13), none, []⟩ :: ⟨.call 104 [(.t 12), (.t 13)], (some 14), none, []⟩ :: L33_6) T L (rdy h) K := rfl
def L33_8 : List AStep := ⟨.faddr 1 (.t 2), (some 11), none, []⟩ :: ⟨.load 1 false (.t 11), (some 12), none, []⟩ :: L33_7
theorem v33_8 : wpS P L33_8 T L (rdy h) K = wpS P (⟨.faddr 1 (.t 2), (some 11), none, []⟩ :: ⟨.load 1 false (.t 11), (some 12), none, []⟩ :: L33_7) T L (rdy h) K := rfl
def L33_9 : List AStep := [⟨.mov (.t 1), (some 15), none, []⟩, ⟨.bin .lss (.t 15) (.c (.int .i64 0)), (some 16), none, []⟩]
theorem v33_9 : wpS P L33_9 T L (rdy h) K = wpS P ([⟨.mov (.t 1), (some 15), none, []⟩, ⟨.bin .lss (.t 15) (.c (.int .i64 0)), (some 16), none, []⟩]) T L (rdy h) K := rfl
def L33_10 : List AStep := [⟨.mov (.c (.int .i64 (-1))), (some 4), none, []⟩]
theorem v33_10 : wpS P L33_10 T L (rdy h) K = wpS P ([⟨.mov (.c (.int .i64 (-1))), (some 4), none, []⟩]) T L (rdy h) K := rfl
def L33_11 : List AStep := [⟨.mov (.t 1), (some 17), none, []⟩, ⟨.mov (.t 17), (some 4), none, []⟩]
theorem v33_11 : wpS P L33_11 T L (rdy h) K = wpS P ([⟨.mov (.t 1), (some 17), none, []⟩, ⟨.mov (.t 17), (some 4), none, []⟩]) T L (rdy h) K := rfl
def C33_0 : ACode := .seq (.reg L33_5) .ret
theorem u33_0 : wpC P C33_0 T L (rdy h) Q = wpC P (.seq (.reg L33_5) .ret) T L (rdy h) Q := rfl
def C33_1 : ACode := .cond (.t 10) C33_0 .skip
theorem u33_1 : wpC P C33_1 T L (rdy h) Q = wpC P (.cond (.t 10) C33_0 .skip) T L (rdy h) Q := rfl
def C33_2 : ACode := .seq (.reg L33_4) C33_1
theorem u33_2 : wpC P C33_2 T L (rdy h) Q = wpC P (.seq (.reg L33_4) C33_1) T L (rdy h) Q := rfl
def C33_3 : ACode := .seq (.reg L33_10) .ret
theorem u33_3 : wpC P C33_3 T L (rdy h) Q = wpC P (.seq (.reg L33_10) .ret) T L (rdy h) Q := rfl
def C33_4 : ACode := .cond (.t 16) C33_3 .skip
theorem u33_4 : wpC P C33_4 T L (rdy h) Q = wpC P (.cond (.t 16) C33_3 .skip) T L (rdy h) Q := rfl
def C33_5 : ACode := .seq (.reg L33_9) C33_4
theorem u33_5 : wpC P C33_5 T L (rdy h) Q = wpC P (.seq (.reg L33_9) C33_4) T L (rdy h) Q := rfl
def C33_6 : ACode := .seq (.reg L33_11) .ret
theorem u33_6 : wpC P C33_6 T L (rdy h) Q = wpC P (.seq (.reg L33_11) .ret) T L (rdy h) Q := rfl
def C33_7 : ACode := .seq C33_5 C33_6
theorem u33_7 : wpC P C33_7 T L (rdy h) Q = wpC P (.seq C33_5 C33_6) T L (rdy h) Q := rfl
def C33_8 : ACode := .seq (.reg L33_8) C33_7
theorem u33_8 : wpC P C33_8 T L (rdy h) Q = wpC P (.seq (.reg L33_8) C33_7) T L (rdy h) Q := rfl
def C33_9 : ACode := .seq C33_2 C33_8
theorem u33_9 : wpC P C33_9 T L (rdy h) Q = wpC P (.seq C33_2 C33_8) T L (rdy h) Q := rfl
def C33_10 : ACode := .seq (.reg L33_3) C33_9
theorem u33_10 : wpC P C33_10 T L (rdy h) Q = wpC P (.seq (.reg L33_3) C33_9) T L (rdy h) Q := rfl
def C33_11 : ACode := .seq (.reg L33_0) C33_10
theorem u33_11 : wpC P C33_11 T L (rdy h) Q = wpC P (.seq (.reg L33_0) C33_10) T L (rdy h) Q := rfl
def F33 : AFunc := ⟨18, [.tmp 4], C33_11⟩
theorem cF33 : compB Try.prog 33 = some F33 := by kernel_rfl
end
attribute [local go_sem ↓] u33_0 u33_1 u33_2 u33_3 u33_4 u33_5 u33_6 u33_7 u33_8 u33_9 u33_10 u33_11 v33_0 v33_1 v33_2 v33_3 v33_4 v33_5 v33_6 v33_7 v33_8 v33_9 v33_10 v33_11
theorem c_szFlat {t1 t2 : Nat} (f : Flat) (pv nv : CV) (left : Int) (h : H) (h1 : 0 ≤ left) (h2 : left ≤ 1048576) (hp : Sl encI 1 t1 h (.one pv) f.pl) (hq : Sl encP 2 t2 h (.one nv) f.nl) (k0 : f.pl.length ≤ far) (k1 : f.nl.length ≤ far) (k2 : ∀ x ∈ f.nl, x.name.size ≤ far) :
    bm Try.prog 33 [.agg [pv, nv], .one (.int .i64 left)] h = some (ii (szr left (wtF f)), h) := by
  refine bm_eq cF33 ?_
  by_cases e : left - (f.pl.length : Int) < 0
  · simp +contextual (maxSteps := 2000000) only [go_sem, Nat.reduceEqDiff, reduceCtorEq, Nat.reduceAdd, Nat.reduceLeDiff, F33, c_szIntS _ _ _ _ h1 h2 hp k0, decide_eq_true (szr_lt.2 e)]
    unfold szr wtF
    rw [if_pos (by omega)]
  · have e1 : szr left f.pl.length = left - (f.pl.length : Int) := by unfold szr; rw [if_neg e]
    simp +contextual (maxSteps := 2000000) only [go_sem, Nat.reduceEqDiff, reduceCtorEq, Nat.reduceAdd, Nat.reduceLeDiff, F33, c_szIntS _ _ _ _ h1 h2 hp k0, e1, decide_eq_false e, c_szPairS _ _ (left - (f.pl.length : Int)) _ (by omega) (by omega) hq k1 k2]
    unfold szr wtF
    (repeat' (first | refine And.intro ?_ ?_ | intro _)) <;> first | (split <;> simp_all <;> omega)
end Go.Proofs.Ytnphlonhogcedaa.Am
