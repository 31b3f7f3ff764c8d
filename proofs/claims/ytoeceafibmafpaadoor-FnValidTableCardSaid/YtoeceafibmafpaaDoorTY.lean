/- Contracts: numbers in decimal, texts joined; plain lists of bytes. -/
import Derived.Test.YtoeceafibmafpaaDoorTX
import Derived.Test.YtoeceafibmafpaaDoorL2
import Derived.Test.YtoeceafibmafpaaDoorDat
namespace Go.Proofs.YtoeceafibmafpaaDoor.Am
open Go
set_option maxRecDepth 100000
set_option maxHeartbeats 4000000
set_option linter.unusedSimpArgs false
set_option linter.unusedVariables false
attribute [local go_sem ↓] bv_t bv_c ev_t ev_c put_same put_ne put_none kill_at pro_at lb_same lb_ne start_zero start_succ wpC_seq wpC_reg wpC_cond wpC_block wpC_skip wpC_exit wpC_ret thenQ_normal thenQ_exit thenQ_ret inBlk_normal inBlk_exit inBlk_ret wpS_nil wpS_step wpS_again wpS_guard wpO_mov wpO_load wpO_faddr wpO_nilCheck wpO_pick wpO_build wpO_bin wpO_eqb wpO_eqst wpO_eqnil wpO_not wpO_conv wpO_bytesStr wpO_iaddr wpO_idxStr wpO_field wpO_extract wpO_len wpO_lenStr wpO_cap wpO_min wpO_slice wpO_sliceStr wpO_alloc wpO_box wpO_store wpO_call wpO_callv wpO_mkfn wpO_buildSlice wpO_mkslice wpO_append wpO_appz proA_nil proA_cons tmpX_nil tmpX_tmp tmpX_cell doneB_normal doneB_ret agK_cons agK_nil agK_guard agG_tt agG_ff agG_tf agG_ft agG_undef pureB_load results_one results_two results_nil resBs_cons resBs_nil resB_tmp resB_cell
attribute [local go_sem] kill_v kill_lp_ne kill_lp_same pro_v pro_lp_same pro_lp_ne av_v av_lp optB_some optX_some valX_eq ldX_lp ldX_v faX_lp faX_v ncX_lp ncX_ptr ncX_fn boxK_one boxK_agg stL_some stK_lp_one stK_lp_agg stK_v_one stK_v_agg proM_v proM_lp callG_mk callVG_mk callvK_fn fnG_mk ptrsA_nil ptrsA_cons callH_some whenA_true whenA_false guardH_tt guardH_ff guardH_tf guardH_ft guardH_undef agV_one agV_agg lenO_sl lenStrO_str notO_bool pickO_bool convO_int eqbO_bool eqnilO_sl extractO_tup capO_sl minO_int loadL_one loadL_all storeL_eq fillA_nil fillA_one fillA_agg nat_ge neg_ge nat_lt neg_lt buildO bin_add bin_sub bin_mul bin_eql bin_neq bin_lss bin_leq bin_gtr bin_geq str_eql str_neq str_lss str_leq str_gtr str_geq retK_some endK_mk gcK_same gcK_int gcK_bool tupO_one tupO_agg rdy_self ib ii Option.map_none Option.map_some Option.some.injEq exists_eq_left' exists_eq_left ne_eq not_false_eq_true if_true if_false List.map_cons List.map_nil List.getElem?_cons_zero List.getElem?_cons_succ List.length_cons List.length_nil List.take_succ_cons List.take_zero List.take_nil List.drop_succ_cons List.drop_zero List.drop_nil List.cons_append List.nil_append List.append_nil List.set_cons_zero List.set_cons_succ Nat.zero_add forall_const true_and and_true and_self Bool.false_eq_true false_implies true_implies implies_true Bool.not_true Bool.not_false Bool.not_eq_true' Bool.not_eq_false' beq_self_eq_true Bool.bne_true Bool.bne_false
attribute [local go_sem] lenI lenS lenP lenQ lenB lenL lenT encI_0 encS_0 encP_0 encP_1 encQ_0 encQ_1 encQ_2 encQ_3 encB_0 encB_1 encL_0 encL_1 encT_0 encT_1
attribute [local go_sem low] whenA_bool guardH_bool
theorem digB_ten (n : Nat) (hn : n < 10) : (strOfNums [48, 49, 50, 51, 52, 53, 54, 55, 56, 57]).extract n (n + 1) = digB n := by
  match n, hn with
  | 0, _ => show _ = _; kernel_rfl
  | 1, _ => show _ = _; kernel_rfl
  | 2, _ => show _ = _; kernel_rfl
  | 3, _ => show _ = _; kernel_rfl
  | 4, _ => show _ = _; kernel_rfl
  | 5, _ => show _ = _; kernel_rfl
  | 6, _ => show _ = _; kernel_rfl
  | 7, _ => show _ = _; kernel_rfl
  | 8, _ => show _ = _; kernel_rfl
  | 9, _ => show _ = _; kernel_rfl
theorem sliceStr_at {s : ByteArray} {i j : Nat} {kd kd' : IntKind} (hij : i ≤ j) (hj : j ≤ s.size) : sliceStrO (.one (.str s)) (some (.one (.int kd i))) (some (.one (.int kd' j))) = some (.one (.str (s.extract i j))) := by
  unfold sliceStrO boundsA maxA highA lowA boundA
  simp [AX.ev]
  rw [if_pos hj]
  simp [hij]
theorem digB_two (n : Nat) (h0 : 10 ≤ n) (hn : n < 100) : digB (n / 10) ++ digB (n % 10) = digB n := by
  apply ba_ext
  unfold digB
  rw [if_pos (by omega), if_pos (by omega), if_neg (by omega)]
  simp [ByteArray.data_append, strOfNums_data]
theorem digB_size (n : Nat) : (digB n).size ≤ 2 := by
  unfold digB
  split <;> simp [strOfNums_size]
theorem digB_pos (n : Nat) : 1 ≤ (digB n).size := by
  unfold digB
  split <;> simp [strOfNums_size]
theorem numB_size (n : Int) : (numB n).size ≤ 3 := by
  unfold numB
  have := digB_size n.natAbs
  have := digB_size n.toNat
  split
  · rw [ByteArray.size_append, strOfNums_size]; simp; omega
  · omega
theorem numB_nat {n : Int} (h : 0 ≤ n) : numB n = digB n.toNat := by
  unfold numB
  rw [if_neg (by omega)]
theorem c_itoa (n : Int) (h0 : -100 < n) (hn : n < 100) (h : H) : bm Tryd.prog 42 [.one (.int .i64 n)] h = some (.one (.str (numB n)), h) :=
  bm_ext (ext_itoa Tryd.func42 (by kernel_rfl) ⟨h0, hn⟩)
theorem strsOf_enc : ∀ l : List ByteArray, strsOf (l.flatMap encS) = some l
  | [] => rfl
  | x :: l => by
    have ih := strsOf_enc l
    rw [List.flatMap_cons]
    show (strsOf (l.flatMap encS)).map (x :: ·) = some (x :: l)
    rw [ih]
    rfl
theorem ext_list {ty : Nat} {h : H} {v : AV} {l : List ByteArray} {sep : ByteArray} (hl : Sl encS 1 ty h v l) (hs : (joinB sep l).size ≤ 140737488355328) (hn : l.length ≤ 140737488355328) : extJoin v sep h = some (.one (.str (joinB sep l))) := by
  unfold extJoin
  rw [hl.src]
  simp only [strsOf_enc]
  rw [if_pos ⟨hs, hn⟩]
theorem c_join {ty : Nat} (v : AV) (sep : ByteArray) (l : List ByteArray) (h : H) (hl : Sl encS 1 ty h v l) (hs : (joinB sep l).size ≤ 140737488355328) (hn : l.length ≤ 140737488355328) : bm Tryd.prog 40 [v, .one (.str sep)] h = some (.one (.str (joinB sep l)), h) :=
  bm_ext (ext_join Tryd.func40 (by decide +kernel) (by kernel_rfl) (ext_list hl hs hn))
end Go.Proofs.YtoeceafibmafpaaDoor.Am
