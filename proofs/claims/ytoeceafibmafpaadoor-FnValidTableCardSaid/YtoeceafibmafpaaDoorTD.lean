/- Contracts: tables of functions that are drawn. -/
import Derived.Test.YtoeceafibmafpaaDoorDZ
import Derived.Test.YtoeceafibmafpaaDoorTB
import Derived.Test.YtoeceafibmafpaaDoorDI
namespace Go.Proofs.YtoeceafibmafpaaDoor.Am
open Go
attribute [local go_sem] loadL_agg
set_option maxRecDepth 100000
set_option maxHeartbeats 4000000
set_option linter.unusedSimpArgs false
set_option linter.unusedVariables false
attribute [local go_sem ↓] bv_t bv_c ev_t ev_c put_same put_ne put_none kill_at pro_at lb_same lb_ne start_zero start_succ wpC_seq wpC_reg wpC_cond wpC_block wpC_skip wpC_exit wpC_ret thenQ_normal thenQ_exit thenQ_ret inBlk_normal inBlk_exit inBlk_ret wpS_nil wpS_step wpS_again wpS_guard wpO_mov wpO_load wpO_faddr wpO_nilCheck wpO_pick wpO_build wpO_bin wpO_eqb wpO_eqst wpO_eqnil wpO_not wpO_conv wpO_bytesStr wpO_iaddr wpO_idxStr wpO_field wpO_extract wpO_len wpO_lenStr wpO_cap wpO_min wpO_slice wpO_sliceStr wpO_alloc wpO_box wpO_store wpO_call wpO_callv wpO_mkfn wpO_buildSlice wpO_mkslice wpO_append wpO_appz proA_nil proA_cons tmpX_nil tmpX_tmp tmpX_cell doneB_normal doneB_ret agK_cons agK_nil agK_guard agG_tt agG_ff agG_tf agG_ft agG_undef pureB_load results_one results_two results_nil resBs_cons resBs_nil resB_tmp resB_cell
attribute [local go_sem] kill_v kill_lp_ne kill_lp_same pro_v pro_lp_same pro_lp_ne av_v av_lp optB_some optX_some valX_eq ldX_lp ldX_v faX_lp faX_v ncX_lp ncX_ptr ncX_fn boxK_one boxK_agg stL_some stK_lp_one stK_lp_agg stK_v_one stK_v_agg proM_v proM_lp callG_mk callVG_mk callvK_fn fnG_mk ptrsA_nil ptrsA_cons callH_some whenA_true whenA_false guardH_tt guardH_ff guardH_tf guardH_ft guardH_undef agV_one agV_agg lenO_sl lenStrO_str notO_bool pickO_bool convO_int eqbO_bool eqnilO_sl extractO_tup capO_sl minO_int loadL_one loadL_all storeL_eq fillA_nil fillA_one fillA_agg nat_ge neg_ge nat_lt neg_lt buildO bin_add bin_sub bin_mul bin_eql bin_neq bin_lss bin_leq bin_gtr bin_geq str_eql str_neq str_lss str_leq str_gtr str_geq retK_some endK_mk gcK_same gcK_int gcK_bool tupO_one tupO_agg rdy_self ib ii Option.map_none Option.map_some Option.some.injEq exists_eq_left' exists_eq_left ne_eq not_false_eq_true if_true if_false List.map_cons List.map_nil List.getElem?_cons_zero List.getElem?_cons_succ List.length_cons List.length_nil List.take_succ_cons List.take_zero List.take_nil List.drop_succ_cons List.drop_zero List.drop_nil List.cons_append List.nil_append List.append_nil List.set_cons_zero List.set_cons_succ Nat.zero_add forall_const true_and and_true and_self Bool.false_eq_true false_implies true_implies implies_true Bool.not_true Bool.not_false Bool.not_eq_true' Bool.not_eq_false' beq_self_eq_true Bool.bne_true Bool.bne_false
attribute [local go_sem] lenI lenS lenP lenQ lenB lenL lenT encI_0 encS_0 encP_0 encP_1 encQ_0 encQ_1 encQ_2 encQ_3 encB_0 encB_1 encL_0 encL_1 encT_0 encT_1
attribute [local go_sem low] whenA_bool guardH_bool
attribute [local go_sem] lenW encW_0 encW_1
structure tinyW (l : List Func) : Prop where
  len : l.length ≤ 6
  el : ∀ a ∈ l, tinyQ a.params
  nm : ∀ a ∈ l, a.name.size ≤ 10
theorem tinyW.mini {l : List Func} (t : tinyW l) : miniW l := by
  have hl := t.len
  refine ⟨by omega, fun a ha => Nat.le_trans (t.nm a ha) (by decide), fun a ha => Nat.le_trans (t.el a ha).len (by decide), fun a ha x hx => Nat.le_trans ((t.el a ha).nm x hx) (by decide), ?_⟩
  have := wsum_bound (f := cellsEW) (B := 41) (l := l) (fun a ha => by have := (t.el a ha).len; unfold cellsEW; omega)
  unfold cellsW
  omega
theorem Sl.part {α : Type} {enc : α → List CV} {k ty : Nat} {h : H} {v : AV} {l : List α} (hs : Sl enc k ty h v l) {i off m : Nat} (hi : i < l.length) (ho : off + m ≤ k) : loadO m true h (.one (.ptr (some ((elem k v i).1, (elem k v i).2 + off)))) = some (.agg (((enc l[i]).drop off).take m)) :=
  loadO_agg (H.load_part (hs.load hi) ho)
/-- A table under way. -/
structure TabW (h h' : H) (w : CV) (rs : List RFunc) (l : List Func) : Prop where
  out : Nw encW 2 48 h h' (.one w) rs
  len : rs.length = l.length
  nm : ∀ i (hi : i < rs.length), rs[i].name = (getW l i).name
  el : ∀ i (hi : i < rs.length), NwQ h h' (.one rs[i].qv) (getW l i).params
  sep : ∀ i (hi : i < rs.length), SepC w rs[i].qv
theorem TabW.grow {h h1 h2 : H} {w : CV} {rs : List RFunc} {l : List Func} (x : TabW h h1 w rs l) (g : Grow h1 h2) : TabW h h2 w rs l := ⟨x.out.grow g, x.len, x.nm, fun i hi => (x.el i hi).grow g, x.sep⟩
theorem TabW.drew {h h1 h2 : H} {w : CV} {rs : List RFunc} {l : List Func} {b c : Nat} {p : Int} (x : TabW h h1 w rs l) (d : Drew b p c h1 h2) (hb : b < h.n) : TabW h h2 w rs l := ⟨x.out.drew d hb, x.len, x.nm, fun i hi => (x.el i hi).drew d hb, x.sep⟩
theorem TabW.rd {h h1 : H} {w : CV} {rs : List RFunc} {l : List Func} (x : TabW h h1 w rs l) : RdW 48 83 h1 w rs l.length (getW l) := ⟨x.out.sl lenW, x.len, fun i hi => ⟨x.nm i hi, (x.el i hi).sl lenQ⟩⟩
theorem TabW.sl {h h1 : H} {w : CV} {rs : List RFunc} {l : List Func} (x : TabW h h1 w rs l) : SlW h1 w l := ⟨rs, x.rd⟩
theorem TabW.push {h h3 h4 : H} {w s c : CV} {nm : ByteArray} {rs : List RFunc} {l : List Func} {m : List Param} (x : TabW h h3 w rs l) (z : NwQ h h3 (.one c) m) (sc : SepC w c) (n : Nw encW 2 48 h h4 (.one s) (rs ++ [⟨nm, c⟩])) (st : Stay (.one w) h3 h4)
    (hb : ∀ i, baseOf (.one s) = some i → baseOf (.one w) = some i ∨ h3.n ≤ i) : TabW h h4 s (rs ++ [⟨nm, c⟩]) (l ++ [⟨nm, m⟩]) := by
  have hl := x.len
  refine ⟨n, by simp [hl], fun i hi => ?_, fun i hi => ?_, fun i hi => ?_⟩
  · by_cases e : i < rs.length
    · rw [getW_eq (by simp; omega), List.getElem_append_left e, List.getElem_append_left (show i < l.length by omega)]
      have := x.nm i e
      rwa [getW_eq (by omega)] at this
    · have : i = rs.length := by simp at hi; omega
      rw [getW_eq (by simp; omega), List.getElem_append_right (by omega), List.getElem_append_right (by omega)]
      simp only [List.getElem_singleton]
  · by_cases e : i < rs.length
    · rw [getW_eq (by simp; omega), List.getElem_append_left e, List.getElem_append_left (show i < l.length by omega)]
      have := (x.el i e).stay st (x.sep i e).symm
      rwa [getW_eq (by omega)] at this
    · have : i = rs.length := by simp at hi; omega
      rw [getW_eq (by simp; omega), List.getElem_append_right (by omega), List.getElem_append_right (by omega)]
      simp only [List.getElem_singleton]
      exact z.stay st sc.symm
  · by_cases e : i < rs.length
    · rw [List.getElem_append_left e]
      intro j hj hk
      rcases hb j hj with d | d
      · exact x.sep i e j d hk
      · have := ((x.el i e).lt hk).1; omega
    · rw [List.getElem_append_right (by omega)]
      simp only [List.getElem_singleton]
      intro j hj hk
      rcases hb j hj with d | d
      · exact sc j d hk
      · have := (z.lt hk).1; omega
theorem TabW.set {h h3 h4 : H} {w c : CV} {nm : ByteArray} {rs : List RFunc} {l : List Func} {m : List Param} {i : Nat} (x : TabW h h3 w rs l) (hi : i < rs.length) (z : NwQ h h3 (.one c) m) (sc : SepC w c) (n : Nw encW 2 48 h h4 (.one w) (rs.set i ⟨nm, c⟩)) (st : Stay (.one w) h3 h4) : TabW h h4 w (rs.set i ⟨nm, c⟩) (l.set i ⟨nm, m⟩) := by
  have hl := x.len
  have hg : ∀ j, getW (l.set i ⟨nm, m⟩) j = if j = i then ⟨nm, m⟩ else getW l j := fun j => by
    unfold getW
    rw [List.getElem?_set]
    by_cases e : i = j
    · subst e
      rw [if_pos rfl, if_pos rfl, if_pos (by omega)]
      rfl
    · rw [if_neg e, if_neg (fun q => e q.symm)]
  refine ⟨n, by simp [hl], fun j hj => ?_, fun j hj => ?_, fun j hj => ?_⟩
  · rw [hg]
    rcases setR (rs := rs) (i := i) (r := ⟨nm, c⟩) j hj with ⟨e, e2⟩ | ⟨e, hk, e2⟩
    · rw [e2, if_pos e]
    · rw [e2, if_neg e]; exact x.nm j hk
  · rw [hg]
    rcases setR (rs := rs) (i := i) (r := ⟨nm, c⟩) j hj with ⟨e, e2⟩ | ⟨e, hk, e2⟩
    · rw [e2, if_pos e]; exact z.stay st sc.symm
    · rw [e2, if_neg e]; exact (x.el j hk).stay st (x.sep j hk).symm
  · rcases setR (rs := rs) (i := i) (r := ⟨nm, c⟩) j hj with ⟨e, e2⟩ | ⟨e, hk, e2⟩
    · rw [e2]; exact sc
    · rw [e2]; exact x.sep j hk
def names5 : List ByteArray := [strOfNums [102], strOfNums [103], strOfNums [104], strOfNums [114, 117, 110], strOfNums [107]]
theorem names5_size : ∀ s ∈ names5, s.size ≤ 3 := by
  intro s hs
  simp only [names5, List.mem_cons, List.not_mem_nil, or_false] at hs
  rcases hs with rfl | rfl | rfl | rfl | rfl <;> rw [strOfNums_size] <;> decide
/-- A table under way, and the names beside it. -/
structure TabN (h h' : H) (w nv : CV) (rs : List RFunc) (l : List Func) (k : Nat) : Prop where
  tab : TabW h h' w rs l
  len : l.length = k
  tiny : ∀ a ∈ l, tinyQ a.params ∧ a.name.size ≤ 10
  nms : NwS h h' (.one nv) names5
  sep : SepC w nv
theorem TabN.grow {h h1 h2 : H} {w nv : CV} {rs : List RFunc} {l : List Func} {k : Nat} (x : TabN h h1 w nv rs l k) (g : Grow h1 h2) : TabN h h2 w nv rs l k := ⟨x.tab.grow g, x.len, x.tiny, x.nms.grow g, x.sep⟩
theorem TabN.drew {h h1 h2 : H} {w nv : CV} {rs : List RFunc} {l : List Func} {k b c : Nat} {p : Int} (x : TabN h h1 w nv rs l k) (d : Drew b p c h1 h2) (hb : b < h.n) : TabN h h2 w nv rs l k := ⟨x.tab.drew d hb, x.len, x.tiny, x.nms.drew d hb, x.sep⟩
/-! spec.goodTable -/
def L88_0 : List AStep := [⟨.mov (.c (.sl none 0 (some 0))), (some 2), none, []⟩]
theorem v88_0 : VS L88_0.eq_1 := rfl
def L88_1 : List AStep := [⟨.buildSlice 48 0 [(.str (strOfNums [])), (.sl none 0 (some 0))] [], (some 7), none, []⟩, ⟨.mov (.t 7), (some 3), none, []⟩]
theorem v88_1 : VS L88_1.eq_1 := rfl
def L88_2 : List AStep := [⟨.buildSlice 9 5 [(.str (strOfNums []))] [(0, 1, (.c (.str (strOfNums [102])))), (1, 1, (.c (.str (strOfNums [103])))), (2, 1, (.c (.str (strOfNums [104])))), (3, 1, (.c (.str (strOfNums [114, 117, 110])))), (4, 1, (.c (.str (strOfNums [107]))))], (some 8), none, []⟩, ⟨.mov (.t 8), (some 4), none, []⟩]
theorem v88_2 : VS L88_2.eq_1 := rfl
def L88_3 : List AStep := [⟨.call 111 [(.t 9), (.t 10)], (some 11), none, []⟩, ⟨.mov (.t 11), (some 5), none, []⟩]
theorem v88_3 : VS L88_3.eq_1 := rfl
def L88_4 : List AStep := ⟨.mov (.t 0), (some 9), none, []⟩ :: ⟨.buildSlice 3 6 [(.int .i64 0)] [(0, 1, (.c (.int .i64 2))), (1, 1, (.c (.int .i64 3))), (2, 1, (.c (.int .i64 1))), (3, 1, (.c (.int .i64 4))), (4, 1, (.c (.int .i64 0))), (5, 1, (.c (.int .i64 5)))], (some 10), none, []⟩ :: L88_3
theorem v88_4 : VS L88_4.eq_1 := rfl
def L88_5 : List AStep := [⟨.mov (.c (.int .i64 0)), (some 6), none, []⟩]
theorem v88_5 : VS L88_5.eq_1 := rfl
def L88_6 : List AStep := [⟨.bin .lss (.t 12) (.t 13), (some 14), none, []⟩]
theorem v88_6 : VS L88_6.eq_1 := rfl
def L88_7 : List AStep := ⟨.mov (.t 6), (some 12), none, []⟩ :: ⟨.mov (.t 5), (some 13), none, []⟩ :: L88_6
theorem v88_7 : VS L88_7.eq_1 := rfl
def L88_8 : List AStep := [⟨.mov (.t 26), (some 3), none, []⟩]
theorem v88_8 : VS L88_8.eq_1 := rfl
def L88_9 : List AStep := ⟨.buildSlice 48 1 [(.str (strOfNums [])), (.sl none 0 (some 0))] [(0, 2, (.t 24))], (some 25), none, []⟩ :: ⟨.append 48 2 40 (.t 17) (.t 25), (some 26), none, []⟩ :: L88_8
theorem v88_9 : VS L88_9.eq_1 := rfl
def L88_10 : List AStep := ⟨.call 112 [(.t 22)], (some 23), none, [(.load 1 false (.t 20), (some 21), none)]⟩ :: ⟨.build [(.str (strOfNums [])), (.sl none 0 (some 0))] [(0, 1, (.t 21)), (1, 1, (.t 23))], (some 24), none, []⟩ :: L88_9
theorem v88_10 : VS L88_10.eq_1 := rfl
def L88_11 : List AStep := ⟨.load 1 false (.t 20), (some 21), none, []⟩ :: ⟨.mov (.t 0), (some 22), none, []⟩ :: L88_10
theorem v88_11 : VS L88_11.eq_1 := rfl
def L88_12 : List AStep := ⟨.mov (.t 6), (some 19), none, []⟩ :: ⟨.iaddr 1 (.t 18) (.t 19), (some 20), none, []⟩ :: L88_11
theorem v88_12 : VS L88_12.eq_1 := rfl
def L88_13 : List AStep := ⟨.mov (.t 3), (some 17), none, []⟩ :: ⟨.mov (.t 4), (some 18), none, []⟩ :: L88_12
theorem v88_13 : VS L88_13.eq_1 := rfl
def L88_14 : List AStep := [⟨.pick (.t 29) (.t 32) (.c (.bool false)), (some 33), none, []⟩]
theorem v88_14 : VS L88_14.eq_1 := rfl
def L88_15 : List AStep := ⟨.call 89 [(.t 30), (.c (.int .i64 2))], (some 31), (some (29, true)), []⟩ :: ⟨.bin .eql (.t 31) (.c (.int .i64 0)), (some 32), (some (29, true)), []⟩ :: L88_14
theorem v88_15 : VS L88_15.eq_1 := rfl
def L88_16 : List AStep := ⟨.mov (.t 28), (some 29), none, []⟩ :: ⟨.mov (.t 0), (some 30), (some (29, true)), []⟩ :: L88_15
theorem v88_16 : VS L88_16.eq_1 := rfl
def L88_17 : List AStep := ⟨.mov (.t 6), (some 27), none, []⟩ :: ⟨.bin .gtr (.t 27) (.c (.int .i64 0)), (some 28), none, []⟩ :: L88_16
theorem v88_17 : VS L88_17.eq_1 := rfl
def L88_18 : List AStep := [⟨.store 1 (.t 45) (.t 43), none, none, []⟩]
theorem v88_18 : VS L88_18.eq_1 := rfl
def L88_19 : List AStep := ⟨.iaddr 2 (.t 34) (.t 35), (some 44), none, []⟩ :: ⟨.faddr 1 (.t 44), (some 45), none, []⟩ :: L88_18
theorem v88_19 : VS L88_19.eq_1 := rfl
def L88_20 : List AStep := ⟨.load 1 true (.t 41), (some 42), none, []⟩ :: ⟨.call 113 [(.t 36), (.t 42)], (some 43), none, []⟩ :: L88_19
theorem v88_20 : VS L88_20.eq_1 := rfl
def L88_21 : List AStep := ⟨.iaddr 2 (.t 37) (.t 39), (some 40), none, []⟩ :: ⟨.faddr 1 (.t 40), (some 41), none, []⟩ :: L88_20
theorem v88_21 : VS L88_21.eq_1 := rfl
def L88_22 : List AStep := ⟨.mov (.t 6), (some 38), none, []⟩ :: ⟨.bin .sub (.t 38) (.c (.int .i64 1)), (some 39), none, []⟩ :: L88_21
theorem v88_22 : VS L88_22.eq_1 := rfl
def L88_23 : List AStep := ⟨.mov (.t 0), (some 36), none, []⟩ :: ⟨.mov (.t 3), (some 37), none, []⟩ :: L88_22
theorem v88_23 : VS L88_23.eq_1 := rfl
def L88_24 : List AStep := ⟨.mov (.t 3), (some 34), none, []⟩ :: ⟨.mov (.t 6), (some 35), none, []⟩ :: L88_23
theorem v88_24 : VS L88_24.eq_1 := rfl
def L88_25 : List AStep := [⟨.mov (.t 16), (some 6), none, []⟩]
theorem v88_25 : VS L88_25.eq_1 := rfl
def L88_26 : List AStep := ⟨.mov (.t 6), (some 15), none, []⟩ :: ⟨.bin .add (.t 15) (.c (.int .i64 1)), (some 16), none, []⟩ :: L88_25
theorem v88_26 : VS L88_26.eq_1 := rfl
def L88_27 : List AStep := [⟨.mov (.t 3), (some 46), none, []⟩, ⟨.mov (.t 46), (some 2), none, []⟩]
theorem v88_27 : VS L88_27.eq_1 := rfl
def C88_0 : ACode := .cond (.t 14) .skip (.exit 0)
theorem u88_0 : VC C88_0.eq_1 := rfl
def C88_1 : ACode := .seq (.reg L88_7) C88_0
theorem u88_1 : VC C88_1.eq_1 := rfl
def C88_2 : ACode := .cond (.t 33) (.reg L88_24) .skip
theorem u88_2 : VC C88_2.eq_1 := rfl
def C88_3 : ACode := .seq (.reg L88_17) C88_2
theorem u88_3 : VC C88_3.eq_1 := rfl
def C88_4 : ACode := .seq (.reg L88_13) C88_3
theorem u88_4 : VC C88_4.eq_1 := rfl
def C88_5 : ACode := .block 1 C88_4
theorem u88_5 : VC C88_5.eq_1 := rfl
def C88_6 : ACode := .seq C88_5 (.reg L88_26)
theorem u88_6 : VC C88_6.eq_1 := rfl
def C88_7 : ACode := .seq C88_1 C88_6
theorem u88_7 : VC C88_7.eq_1 := rfl
def C88_8 : ACode := .block 0 (.loop C88_7)
theorem u88_8 : VC C88_8.eq_1 := rfl
def C88_9 : ACode := .seq (.reg L88_5) C88_8
theorem u88_9 : VC C88_9.eq_1 := rfl
def C88_10 : ACode := .seq (.reg L88_27) .ret
theorem u88_10 : VC C88_10.eq_1 := rfl
def C88_11 : ACode := .seq C88_9 C88_10
theorem u88_11 : VC C88_11.eq_1 := rfl
def C88_12 : ACode := .seq (.reg L88_4) C88_11
theorem u88_12 : VC C88_12.eq_1 := rfl
def C88_13 : ACode := .seq (.reg L88_2) C88_12
theorem u88_13 : VC C88_13.eq_1 := rfl
def C88_14 : ACode := .seq (.reg L88_1) C88_13
theorem u88_14 : VC C88_14.eq_1 := rfl
def C88_15 : ACode := .seq (.reg L88_0) C88_14
theorem u88_15 : VC C88_15.eq_1 := rfl
def F88 : AFunc := ⟨47, [.tmp 2], C88_15⟩
theorem cF88 : compB Tryd.prog 88 = some F88 := by kernel_rfl
attribute [local go_sem ↓] u88_0 u88_1 u88_2 u88_3 u88_4 u88_5 u88_6 u88_7 u88_8 u88_9 u88_10 u88_11 u88_12 u88_13 u88_14 u88_15 v88_0 v88_1 v88_2 v88_3 v88_4 v88_5 v88_6 v88_7 v88_8 v88_9 v88_10 v88_11 v88_12 v88_13 v88_14 v88_15 v88_16 v88_17 v88_18 v88_19 v88_20 v88_21 v88_22 v88_23 v88_24 v88_25 v88_26 v88_27
theorem c_goodTable (b : Nat) (p : Int) (h : H) (r : Rd h b p) (hp : p ≤ 2 ^ 36) : callK (bm Tryd.prog 88 [.one (.ptr (some (b, 0)))] h) fun q h' => (∃ w rs l, q = .one w ∧ TabW h h' w rs l ∧ l.length ≤ 5 ∧ ∀ a ∈ l, tinyQ a.params ∧ a.name.size ≤ 10) ∧ Drew b p 281 h h' := by
  refine bm_of cF88 ?_
  have hbn := r.lt
  simp +contextual (maxSteps := 2000000) only [go_sem, Nat.reduceEqDiff, reduceCtorEq, Nat.reduceAdd, Nat.reduceLeDiff, F88]
  refine wp_lit (enc := encW) (k := 2) (l := []) rfl rfl ?_
  intro h1 w1 g1 n1 b1
  obtain ⟨c1, rfl⟩ := n1.one
  simp +contextual (maxSteps := 2000000) only [go_sem, Nat.reduceEqDiff, reduceCtorEq, Nat.reduceAdd, Nat.reduceLeDiff]
  refine wp_lit (enc := encS) (k := 1) (l := names5) rfl rfl ?_
  intro h2 w2 g2 n2 b2
  obtain ⟨nv, rfl⟩ := n2.one
  have sw : SepC c1 nv := Sep.new (fun i hi => (n1.lt hi).1) b2
  simp +contextual (maxSteps := 2000000) only [go_sem, Nat.reduceEqDiff, reduceCtorEq, Nat.reduceAdd, Nat.reduceLeDiff]
  refine wp_lit (enc := encI) (k := 1) (l := [2, 3, 1, 4, 0, 5]) rfl rfl ?_
  intro h3 w3 g3 n3 b3
  have g13 := (g1.trans g2).trans g3
  have n2 : NwS h h3 (.one nv) names5 := (n2.from g1.n).grow g3
  simp +contextual (maxSteps := 2000000) only [go_sem, Nat.reduceEqDiff, reduceCtorEq, Nat.reduceAdd, Nat.reduceLeDiff]
  refine wp_call (c_one b p _ w3 h3 (r.grow g13) (by omega) (n3.sl lenI) (fun i hi => Nat.lt_of_lt_of_le hbn (Nat.le_trans (g1.trans g2).n (b3 i hi))) (by decide) (by decide)) ?_
  rintro q h4 ⟨⟨m, hm, rfl⟩, d4⟩
  have hm8 : 0 ≤ m ∧ m ≤ 5 := by simp at hm; omega
  obtain ⟨m, rfl⟩ := Int.eq_ofNat_of_zero_le hm8.1
  have x4 : TabN h h4 c1 nv [] [] 0 := TabN.drew ⟨⟨(n1.grow g2).grow g3, rfl, fun i hi => absurd hi (Nat.not_lt_zero _), fun i hi => absurd hi (Nat.not_lt_zero _), fun i hi => absurd hi (Nat.not_lt_zero _)⟩, rfl, fun a ha => by simp at ha, n2, sw⟩ d4 hbn
  have d4 := d4.pre g13
  simp +contextual (maxSteps := 2000000) only [go_sem, Nat.reduceEqDiff, reduceCtorEq, Nat.reduceAdd, Nat.reduceLeDiff]
  refine wpC_loop (fun i T L h' => T 0 = .v (.one (.ptr (some (b, 0)))) ∧ (∃ w rs l, T 3 = .v (.one w) ∧ TabN h h' w nv rs l i) ∧ T 4 = .v (.one nv) ∧ T 5 = .v (.one (.int .i64 m)) ∧ T 6 = .v (.one (.int .i64 i)) ∧ Drew b p (1 + 56 * i) h h') m ?_ ?_ (Nat.zero_le _) ?_
  · rintro i T L h' hi ⟨t0, ⟨w, rs, l, t3, x⟩, t4, t5, t6, d⟩
    obtain ⟨p', hp1, hp2, r'⟩ := d.ex
    have hi5 : i < names5.length := by show i < 5; omega
    have hlen := x.tab.len
    have hll := x.len
    have nsz := names5_size _ (List.getElem_mem hi5)
    have nS := x.nms.sl lenS
    have ld : loadO 1 false h' (.one (.ptr (some (elem 1 (.one nv) i)))) = some (.one (.str names5[i])) := nS.one hi5 rfl
    simp +contextual (maxSteps := 2000000) only [go_sem, Nat.reduceEqDiff, reduceCtorEq, Nat.reduceAdd, Nat.reduceLeDiff, t0, t3, t4, t5, t6, lt_true hi, nS.iaddr hi5, ld]
    refine wp_call (c_goodSignature b p' h' r' (by omega)) ?_
    rintro q h6 ⟨⟨u, mq, rfl, z6, tm⟩, d6⟩
    have x6 := x.drew d6 hbn
    have sc : SepC w u := Sep.new (fun i hi => (x.tab.out.lt hi).1) (fun i hi => (z6.lt hi).2)
    have z6 := z6.from d.st.n
    have d6 := d6.then d.st (by omega) hp2
    have nS6 := x6.nms.sl lenS
    have ld6 : loadO 1 false h6 (.one (.ptr (some (elem 1 (.one nv) i)))) = some (.one (.str names5[i])) := nS6.one hi5 rfl
    simp +contextual (maxSteps := 2000000) only [go_sem, Nat.reduceEqDiff, reduceCtorEq, Nat.reduceAdd, Nat.reduceLeDiff, t0, t3, t4, t5, t6, nS6.iaddr hi5, ld6]
    refine wp_lit (enc := encW) (k := 2) (l := [⟨names5[i], u⟩]) rfl rfl ?_
    intro h7 w7 g7 n7 b7
    have x7 := x6.grow g7
    simp +contextual (maxSteps := 2000000) only [go_sem, Nat.reduceEqDiff, reduceCtorEq, Nat.reduceAdd, Nat.reduceLeDiff, t0, t3, t4, t5, t6]
    refine wp_appendD lenW x7.tab.out (n7.sl lenW) (Nat.le_trans d6.st.n g7.n) (by simp; omega) ?_
    intro h8 s8 n8 st8 hb8
    obtain ⟨c8, rfl⟩ := n8.one
    have y8 := x7.tab.push (z6.grow g7) sc n8 st8 hb8
    have d8 := (d6.grow g7).stay st8 (fun i hi => (x7.tab.out.lt hi).2) hbn
    have x8 : TabN h h8 c8 nv (rs ++ [⟨names5[i], u⟩]) (l ++ [⟨names5[i], mq⟩]) (i + 1) := by
      refine ⟨y8, by simp [hll], fun a ha => ?_, x7.nms.stay st8 x7.sep.symm, fun j hj hk => ?_⟩
      · rcases List.mem_append.1 ha with ha | ha
        · exact x.tiny a ha
        · rw [List.mem_singleton.1 ha]; exact ⟨tm, by show names5[i].size ≤ 10; omega⟩
      · rcases hb8 j hj with e | e
        · exact x7.sep j e hk
        · have := (x7.nms.lt hk).1; omega
    obtain ⟨p8, hq1, hq2, r8⟩ := d8.ex
    have ew : IntKind.i64.wrap ((i : Int) + 1) = ((i + 1 : Nat) : Int) := wrap_next hi (by omega)
    by_cases i0 : i = 0
    · subst i0
      simp +contextual (maxSteps := 2000000) only [go_sem, Nat.reduceEqDiff, reduceCtorEq, Nat.reduceAdd, Nat.reduceLeDiff, t0, t3, t4, t5, t6, show decide (((0 : Nat) : Int) > 0) = false from rfl]
      refine ⟨⟨c8, _, _, rfl, x8⟩, by rw [ew], d8.more (by omega)⟩
    obtain ⟨j, rfl⟩ : ∃ j, i = j + 1 := ⟨i - 1, by omega⟩
    have i1 : decide (((j + 1 : Nat) : Int) > 0) = true := decide_eq_true (by omega)
    simp +contextual (maxSteps := 2000000) only [go_sem, Nat.reduceEqDiff, reduceCtorEq, Nat.reduceAdd, Nat.reduceLeDiff, t0, t3, t4, t5, t6, i1]
    refine wp_call (c_pick b 2 p8 h8 r8 (by omega)) ?_
    rintro q h9 ⟨⟨e, rfl, _, _⟩, d9⟩
    have x9 := x8.drew d9 hbn
    have d9 := d9.then d8.st (by omega) hq2
    obtain ⟨p9, hs1, hs2, r9⟩ := d9.ex
    by_cases e0 : e = 0
    · have hj : j < (rs ++ [(⟨names5[j + 1], u⟩ : RFunc)]).length := by simp; omega
      have hj1 : j + 1 < (rs ++ [(⟨names5[j + 1], u⟩ : RFunc)]).length := by simp; omega
      have hjl : j < (l ++ [(⟨names5[j + 1], mq⟩ : Func)]).length := by simp; omega
      have zk := x9.tab.el j hj
      rw [getW_eq hjl] at zk
      have tk := (x9.tiny _ (List.getElem_mem hjl)).1
      have S9 := x9.tab.out.sl lenW
      have ep : IntKind.i64.wrap (((j + 1 : Nat) : Int) - 1) = (j : Int) := wrap_pred (by omega)
      have lp : loadO 1 true h9 (.one (.ptr (some ((elem 2 (.one c8) j).1, (elem 2 (.one c8) j).2 + 1)))) = some (.agg [((rs ++ [(⟨names5[j + 1], u⟩ : RFunc)])[j]).qv]) := S9.part hj (by decide)
      simp +contextual (maxSteps := 2000000) only [go_sem, Nat.reduceEqDiff, reduceCtorEq, Nat.reduceAdd, Nat.reduceLeDiff, t0, t3, t4, t5, t6, decide_eq_true e0, ep, S9.iaddr hj, lp]
      refine wp_call (c_near b p9 _ _ h9 r9 (by omega) (zk.sl lenQ) tk) ?_
      rintro q h10 ⟨⟨u2, m2, rfl, z10, tm2⟩, d10⟩
      have x10 := x9.drew d10 hbn
      have sc2 : SepC c8 u2 := Sep.new (fun i hi => (x9.tab.out.lt hi).1) (fun i hi => (z10.lt hi).2)
      have z10 := z10.from d9.st.n
      have d10 := d10.then d9.st (by omega) hs2
      have S10 := x10.tab.out.sl lenW
      simp +contextual (maxSteps := 2000000) only [go_sem, Nat.reduceEqDiff, reduceCtorEq, Nat.reduceAdd, Nat.reduceLeDiff, t0, t3, t4, t5, t6, S10.iaddr hj1]
      refine wp_setD (x := ⟨names5[j + 1], u2⟩) lenW x10.tab.out hj1 rfl (by
        rw [List.getElem_append_right (by omega)]
        simp [encW]) (by simp) d10.st.n ?_
      intro h11 n11 st11
      have y11 := x10.tab.set (m := m2) hj1 z10 sc2 n11 st11
      have d11 := d10.stay st11 (fun i hi => (x10.tab.out.lt hi).2) hbn
      have x11 : TabN h h11 c8 nv ((rs ++ [(⟨names5[j + 1], u⟩ : RFunc)]).set (j + 1) ⟨names5[j + 1], u2⟩) ((l ++ [(⟨names5[j + 1], mq⟩ : Func)]).set (j + 1) ⟨names5[j + 1], m2⟩) (j + 1 + 1) := by
        refine ⟨y11, by simp [hll], fun a ha => ?_, x10.nms.stay st11 x10.sep.symm, x10.sep⟩
        rcases List.mem_or_eq_of_mem_set ha with ha | ha
        · exact x10.tiny a ha
        · rw [ha]; exact ⟨tm2, by show names5[j + 1].size ≤ 10; omega⟩
      simp +contextual (maxSteps := 2000000) only [go_sem, Nat.reduceEqDiff, reduceCtorEq, Nat.reduceAdd, Nat.reduceLeDiff, t0, t3, t4, t5, t6]
      refine ⟨⟨c8, _, _, rfl, x11⟩, by rw [ew], d11.more (by omega)⟩
    · simp +contextual (maxSteps := 2000000) only [go_sem, Nat.reduceEqDiff, reduceCtorEq, Nat.reduceAdd, Nat.reduceLeDiff, t0, t3, t4, t5, t6, decide_eq_false e0]
      refine ⟨⟨c8, _, _, rfl, x9⟩, by rw [ew], d9.more (by omega)⟩
  · rintro T L h' ⟨t0, ⟨w, rs, l, t3, x⟩, t4, t5, t6, d⟩
    have d := d.more (show 1 + 56 * m ≤ 281 by omega)
    have hll := x.len
    simp +contextual (maxSteps := 2000000) only [go_sem, Nat.reduceEqDiff, reduceCtorEq, Nat.reduceAdd, Nat.reduceLeDiff, t0, t3, t4, t5, t6, lt_false]
    exact gcK_drew r d ⟨⟨w, rs, l, rfl, x.tab, by omega, x.tiny⟩, d⟩
  · simp +contextual (maxSteps := 2000000) only [go_sem, Nat.reduceEqDiff, reduceCtorEq, Nat.reduceAdd, Nat.reduceLeDiff]
    first | exact ⟨⟨c1, [], [], rfl, x4⟩, d4⟩ | exact ⟨⟨c1, [], [], rfl, x4⟩, rfl, d4⟩ | exact ⟨⟨c1, [], [], rfl, x4⟩, rfl, rfl, d4⟩
/-! spec.someFunc -/
def L90_0 : List AStep := [⟨.alloc 48 [(.str (strOfNums [])), (.sl none 0 (some 0))], (some 2), none, []⟩]
theorem v90_0 : VS L90_0.eq_1 := rfl
def L90_1 : List AStep := [⟨.store 2 (.t 2) (.t 8), none, none, []⟩]
theorem v90_1 : VS L90_1.eq_1 := rfl
def L90_2 : List AStep := ⟨.call 115 [(.t 6)], (some 7), none, []⟩ :: ⟨.build [(.str (strOfNums [])), (.sl none 0 (some 0))] [(0, 1, (.t 5)), (1, 1, (.t 7))], (some 8), none, []⟩ :: L90_1
theorem v90_2 : VS L90_2.eq_1 := rfl
def L90_3 : List AStep := ⟨.call 114 [(.t 3), (.t 4)], (some 5), none, []⟩ :: ⟨.mov (.t 0), (some 6), none, []⟩ :: L90_2
theorem v90_3 : VS L90_3.eq_1 := rfl
def L90_4 : List AStep := ⟨.mov (.t 0), (some 3), none, []⟩ :: ⟨.buildSlice 9 7 [(.str (strOfNums []))] [(0, 1, (.c (.str (strOfNums [102])))), (1, 1, (.c (.str (strOfNums [103])))), (2, 1, (.c (.str (strOfNums [104])))), (3, 1, (.c (.str (strOfNums [114, 117, 110])))), (4, 1, (.c (.str (strOfNums [102])))), (5, 1, (.c (.str (strOfNums [])))), (6, 1, (.c (.str (strOfNums [70]))))], (some 4), none, []⟩ :: L90_3
theorem v90_4 : VS L90_4.eq_1 := rfl
def C90_0 : ACode := .seq (.reg L90_4) .ret
theorem u90_0 : VC C90_0.eq_1 := rfl
def C90_1 : ACode := .seq (.reg L90_0) C90_0
theorem u90_1 : VC C90_1.eq_1 := rfl
def F90 : AFunc := ⟨9, [.cell 2 2 true], C90_1⟩
theorem cF90 : compB Tryd.prog 90 = some F90 := by kernel_rfl
attribute [local go_sem ↓] u90_0 u90_1 v90_0 v90_1 v90_2 v90_3 v90_4
theorem c_someFunc (b : Nat) (p : Int) (h : H) (r : Rd h b p) (hp : p ≤ 2 ^ 36) : callK (bm Tryd.prog 90 [.one (.ptr (some (b, 0)))] h) fun q h' => (∃ s u m, q = .agg [.str s, u] ∧ NwQ h h' (.one u) m ∧ tinyQ m ∧ s.size ≤ 10) ∧ Drew b p 47 h h' := by
  refine bm_of cF90 ?_
  have hbn := r.lt
  simp +contextual (maxSteps := 2000000) only [go_sem, Nat.reduceEqDiff, reduceCtorEq, Nat.reduceAdd, Nat.reduceLeDiff, F90]
  refine wp_lit (enc := encS) (k := 1) (l := [strOfNums [102], strOfNums [103], strOfNums [104], strOfNums [114, 117, 110], strOfNums [102], strOfNums [], strOfNums [70]]) rfl rfl ?_
  intro h1 w1 g1 n1 b1
  simp +contextual (maxSteps := 2000000) only [go_sem, Nat.reduceEqDiff, reduceCtorEq, Nat.reduceAdd, Nat.reduceLeDiff]
  refine wp_call (c_of b p _ w1 h1 (r.grow g1) (by omega) (n1.sl lenS) (fun i hi => Nat.lt_of_lt_of_le hbn (b1 i hi)) (by decide) (by decide)) ?_
  rintro q h2 ⟨⟨s, hs, rfl⟩, d2⟩
  have hsz : s.size ≤ 10 := by
    simp only [List.mem_cons, List.not_mem_nil, or_false] at hs
    rcases hs with rfl | rfl | rfl | rfl | rfl | rfl | rfl <;> rw [strOfNums_size] <;> decide
  have d2 := d2.pre g1
  obtain ⟨p2, hq1, hq2, r2⟩ := d2.ex
  simp +contextual (maxSteps := 2000000) only [go_sem, Nat.reduceEqDiff, reduceCtorEq, Nat.reduceAdd, Nat.reduceLeDiff]
  refine wp_call (c_someSignature b p2 h2 r2 (by omega)) ?_
  rintro q h3 ⟨⟨u, m, rfl, z3, tm⟩, d3⟩
  have z3 := z3.from d2.st.n
  have d3 := d3.then d2.st (by omega) hq2
  simp +contextual (maxSteps := 2000000) only [go_sem, Nat.reduceEqDiff, reduceCtorEq, Nat.reduceAdd, Nat.reduceLeDiff]
  exact gcK_drew r d3 ⟨⟨s, u, m, rfl, z3, tm, hsz⟩, d3⟩
/-! spec.someTable -/
def L52_0 : List AStep := [⟨.mov (.c (.sl none 0 (some 0))), (some 2), none, []⟩]
theorem v52_0 : VS L52_0.eq_1 := rfl
def L52_1 : List AStep := [⟨.mov (.t 5), (some 3), none, []⟩]
theorem v52_1 : VS L52_1.eq_1 := rfl
def L52_2 : List AStep := ⟨.mov (.t 0), (some 4), none, []⟩ :: ⟨.call 88 [(.t 4)], (some 5), none, []⟩ :: L52_1
theorem v52_2 : VS L52_2.eq_1 := rfl
def L52_3 : List AStep := [⟨.bin .eql (.t 11) (.c (.int .i64 0)), (some 12), (some (9, true)), []⟩, ⟨.pick (.t 9) (.t 12) (.c (.bool false)), (some 13), none, []⟩]
theorem v52_3 : VS L52_3.eq_1 := rfl
def L52_4 : List AStep := ⟨.mov (.t 0), (some 10), (some (9, true)), []⟩ :: ⟨.call 89 [(.t 10), (.c (.int .i64 12))], (some 11), (some (9, true)), []⟩ :: L52_3
theorem v52_4 : VS L52_4.eq_1 := rfl
def L52_5 : List AStep := ⟨.bin .gtr (.t 7) (.c (.int .i64 0)), (some 8), none, []⟩ :: ⟨.mov (.t 8), (some 9), none, []⟩ :: L52_4
theorem v52_5 : VS L52_5.eq_1 := rfl
def L52_6 : List AStep := ⟨.mov (.t 3), (some 6), none, []⟩ :: ⟨.len (.t 6), (some 7), none, []⟩ :: L52_5
theorem v52_6 : VS L52_6.eq_1 := rfl
def L52_7 : List AStep := [⟨.store 2 (.t 21) (.t 20), none, none, []⟩]
theorem v52_7 : VS L52_7.eq_1 := rfl
def L52_8 : List AStep := ⟨.call 90 [(.t 19)], (some 20), none, []⟩ :: ⟨.iaddr 2 (.t 14) (.t 18), (some 21), none, []⟩ :: L52_7
theorem v52_8 : VS L52_8.eq_1 := rfl
def L52_9 : List AStep := ⟨.call 89 [(.t 15), (.t 17)], (some 18), none, []⟩ :: ⟨.mov (.t 0), (some 19), none, []⟩ :: L52_8
theorem v52_9 : VS L52_9.eq_1 := rfl
def L52_10 : List AStep := ⟨.mov (.t 3), (some 16), none, []⟩ :: ⟨.len (.t 16), (some 17), none, []⟩ :: L52_9
theorem v52_10 : VS L52_10.eq_1 := rfl
def L52_11 : List AStep := ⟨.mov (.t 3), (some 14), none, []⟩ :: ⟨.mov (.t 0), (some 15), none, []⟩ :: L52_10
theorem v52_11 : VS L52_11.eq_1 := rfl
def L52_12 : List AStep := [⟨.mov (.t 3), (some 22), none, []⟩, ⟨.mov (.t 22), (some 2), none, []⟩]
theorem v52_12 : VS L52_12.eq_1 := rfl
def C52_0 : ACode := .cond (.t 13) (.reg L52_11) .skip
theorem u52_0 : VC C52_0.eq_1 := rfl
def C52_1 : ACode := .seq (.reg L52_6) C52_0
theorem u52_1 : VC C52_1.eq_1 := rfl
def C52_2 : ACode := .seq (.reg L52_12) .ret
theorem u52_2 : VC C52_2.eq_1 := rfl
def C52_3 : ACode := .seq C52_1 C52_2
theorem u52_3 : VC C52_3.eq_1 := rfl
def C52_4 : ACode := .seq (.reg L52_2) C52_3
theorem u52_4 : VC C52_4.eq_1 := rfl
def C52_5 : ACode := .seq (.reg L52_0) C52_4
theorem u52_5 : VC C52_5.eq_1 := rfl
def F52 : AFunc := ⟨23, [.tmp 2], C52_5⟩
theorem cF52 : compB Tryd.prog 52 = some F52 := by kernel_rfl
attribute [local go_sem ↓] u52_0 u52_1 u52_2 u52_3 u52_4 u52_5 v52_0 v52_1 v52_2 v52_3 v52_4 v52_5 v52_6 v52_7 v52_8 v52_9 v52_10 v52_11 v52_12
theorem c_someTable (b : Nat) (p : Int) (h : H) (r : Rd h b p) (hp : p ≤ 2 ^ 35) : callK (bm Tryd.prog 52 [.one (.ptr (some (b, 0)))] h) fun q h' => (∃ w rs l, q = .one w ∧ TabW h h' w rs l ∧ tinyW l) ∧ Drew b p 330 h h' := by
  refine bm_of cF52 ?_
  have hbn := r.lt
  simp +contextual (maxSteps := 2000000) only [go_sem, Nat.reduceEqDiff, reduceCtorEq, Nat.reduceAdd, Nat.reduceLeDiff, F52]
  refine wp_call (c_goodTable b p h r (by omega)) ?_
  rintro q h1 ⟨⟨w, rs, l, rfl, x1, hl5, hel⟩, d1⟩
  obtain ⟨p1, hp1, hp2, r1⟩ := d1.ex
  have hlen := x1.len
  have wlen : lenO (.one w) = some (ii l.length) := by rw [x1.out.length, hlen]
  have tl : tinyW l := ⟨by omega, fun a ha => (hel a ha).1, fun a ha => (hel a ha).2⟩
  cases c0 : decide ((l.length : Int) > 0) with
  | false =>
    have d := d1.more (show 281 ≤ 330 by omega)
    simp +contextual (maxSteps := 2000000) only [go_sem, Nat.reduceEqDiff, reduceCtorEq, Nat.reduceAdd, Nat.reduceLeDiff, wlen, c0]
    exact gcK_drew r d ⟨⟨w, rs, l, rfl, x1, tl⟩, d⟩
  | true =>
  have h0 : 0 < l.length := by have := of_decide_eq_true c0; omega
  simp +contextual (maxSteps := 2000000) only [go_sem, Nat.reduceEqDiff, reduceCtorEq, Nat.reduceAdd, Nat.reduceLeDiff, wlen, c0]
  refine wp_call (c_pick b 12 p1 h1 r1 (by omega)) ?_
  rintro q h2 ⟨⟨e, rfl, _, _⟩, d2⟩
  have x2 := x1.drew d2 hbn
  have d2 := d2.then d1.st (by omega) hp2
  obtain ⟨p2, hq1, hq2, r2⟩ := d2.ex
  by_cases e0 : e = 0
  · simp +contextual (maxSteps := 2000000) only [go_sem, Nat.reduceEqDiff, reduceCtorEq, Nat.reduceAdd, Nat.reduceLeDiff, decide_eq_true e0, wlen]
    refine wp_call (c_pick b l.length p2 h2 r2 (by omega)) ?_
    rintro q h3 ⟨⟨kk, rfl, kk0, kk1⟩, d3⟩
    obtain ⟨kk, rfl⟩ := Int.eq_ofNat_of_zero_le kk0
    have hkk : kk < rs.length := by omega
    have x3 := x2.drew d3 hbn
    have d3 := d3.then d2.st (by omega) hq2
    obtain ⟨p3, hs1, hs2, r3⟩ := d3.ex
    simp +contextual (maxSteps := 2000000) only [go_sem, Nat.reduceEqDiff, reduceCtorEq, Nat.reduceAdd, Nat.reduceLeDiff, wlen]
    refine wp_call (c_someFunc b p3 h3 r3 (by omega)) ?_
    rintro q h4 ⟨⟨s, u, m, rfl, z4, tm, hsz⟩, d4⟩
    have x4 := x3.drew d4 hbn
    have sc : SepC w u := Sep.new (fun i hi => (x3.out.lt hi).1) (fun i hi => (z4.lt hi).2)
    have z4 := z4.from d3.st.n
    have d4 := d4.then d3.st (by omega) hs2
    simp +contextual (maxSteps := 2000000) only [go_sem, Nat.reduceEqDiff, reduceCtorEq, Nat.reduceAdd, Nat.reduceLeDiff, (x4.out.sl lenW).iaddr hkk]
    refine wp_setED (x := ⟨s, u⟩) lenW x4.out hkk rfl rfl d4.st.n ?_
    intro h5 n5 st5
    have x5 := x4.set (m := m) hkk z4 sc n5 st5
    have d5 := (d4.stay st5 (fun i hi => (x4.out.lt hi).2) hbn).more (show 281 + 1 + 1 + 47 ≤ 330 by omega)
    simp +contextual (maxSteps := 2000000) only [go_sem, Nat.reduceEqDiff, reduceCtorEq, Nat.reduceAdd, Nat.reduceLeDiff]
    refine gcK_drew r d5 ⟨⟨w, _, _, rfl, x5, ⟨by simp; omega, fun a ha => ?_, fun a ha => ?_⟩⟩, d5⟩
    · rcases List.mem_or_eq_of_mem_set ha with ha | ha
      · exact tl.el a ha
      · rw [ha]; exact tm
    · rcases List.mem_or_eq_of_mem_set ha with ha | ha
      · exact tl.nm a ha
      · rw [ha]; exact hsz
  · have d := d2.more (show 281 + 1 ≤ 330 by omega)
    simp +contextual (maxSteps := 2000000) only [go_sem, Nat.reduceEqDiff, reduceCtorEq, Nat.reduceAdd, Nat.reduceLeDiff, decide_eq_false e0]
    exact gcK_drew r d ⟨⟨w, rs, l, rfl, x2, tl⟩, d⟩
/-! spec.DrawValidTable -/
def L19_0 : List AStep := [⟨.mov (.c (.sl none 0 (some 0))), (some 2), none, []⟩]
theorem v19_0 : VS L19_0.eq_1 := rfl
def L19_1 : List AStep := [⟨.call 52 [(.t 4)], (some 5), none, []⟩, ⟨.mov (.t 5), (some 2), none, []⟩]
theorem v19_1 : VS L19_1.eq_1 := rfl
def L19_2 : List AStep := ⟨.mov (.t 0), (some 3), none, []⟩ :: ⟨.call 53 [(.t 3)], (some 4), none, []⟩ :: L19_1
theorem v19_2 : VS L19_2.eq_1 := rfl
def C19_0 : ACode := .seq (.reg L19_2) .ret
theorem u19_0 : VC C19_0.eq_1 := rfl
def C19_1 : ACode := .seq (.reg L19_0) C19_0
theorem u19_1 : VC C19_1.eq_1 := rfl
def F19 : AFunc := ⟨6, [.tmp 2], C19_1⟩
theorem cF19 : compB Tryd.prog 19 = some F19 := by kernel_rfl
attribute [local go_sem ↓] u19_0 u19_1 v19_0 v19_1 v19_2
theorem c_drawValidTable (code : List Int) (v : CV) (h : H) (hl : Sl encBy 1 5 h (.one v) code) (hc : ∀ x ∈ code, 0 ≤ x ∧ x ≤ 255) : callK (bm Tryd.prog 19 [.one v] h) fun q h' => Grow h h' ∧ ∃ w l, q = .one w ∧ SlW h' w l ∧ tinyW l := by
  refine bm_of cF19 ?_
  simp +contextual (maxSteps := 2000000) only [go_sem, Nat.reduceEqDiff, reduceCtorEq, Nat.reduceAdd, Nat.reduceLeDiff, F19]
  refine wp_call (c_newReader code v h hl hc) ?_
  rintro q h1 ⟨g1, b, rfl, r1, hb⟩
  simp +contextual (maxSteps := 2000000) only [go_sem, Nat.reduceEqDiff, reduceCtorEq, Nat.reduceAdd, Nat.reduceLeDiff]
  refine wp_call (c_someTable b 0 h1 r1 (by decide)) ?_
  rintro q h2 ⟨⟨w, rs, l, rfl, x2, tl⟩, d2⟩
  have G := d2.out g1 hb
  simp +contextual (maxSteps := 2000000) only [go_sem, Nat.reduceEqDiff, reduceCtorEq, Nat.reduceAdd, Nat.reduceLeDiff]
  exact gcK_of ⟨G, w, l, rfl, x2.sl, tl⟩ (fun hs _ => by
    have hw : w.scalar = true := by simpa [AV.scalar] using hs
    have e : rs = [] := by
      cases hr : rs with
      | nil => rfl
      | cons a t =>
        obtain ⟨a, c, e, _⟩ := (x2.out.sl lenW).base (i := 0) (by simp [hr])
        have e := AV.one.inj e
        subst e
        simp [CV.scalar] at hw
    exact ⟨Grow.refl h, w, l, rfl, ⟨rs, (x2.out.sl lenW).scalar hs h, x2.len, fun i hi => absurd hi (by simp [e])⟩, tl⟩)
end Go.Proofs.YtoeceafibmafpaaDoor.Am
