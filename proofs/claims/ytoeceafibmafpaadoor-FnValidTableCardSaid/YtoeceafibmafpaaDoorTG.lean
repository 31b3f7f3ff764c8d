/- Contracts: the texts of signatures, of both sides. -/
import Derived.Test.YtoeceafibmafpaaDoorTY
import Derived.Test.YtoeceafibmafpaaDoorA2
import Derived.Test.YtoeceafibmafpaaDoorA4
import Derived.Test.YtoeceafibmafpaaDoorHS
import Derived.Test.YtoeceafibmafpaaDoorBD
import Derived.Test.YtoeceafibmafpaaDoorB1
namespace Go.Proofs.YtoeceafibmafpaaDoor.Am
open Go
set_option maxRecDepth 100000
set_option maxHeartbeats 4000000
set_option linter.unusedSimpArgs false
set_option linter.unusedVariables false
attribute [local go_sem ↓] bv_t bv_c ev_t ev_c put_same put_ne put_none kill_at pro_at lb_same lb_ne start_zero start_succ wpC_seq wpC_reg wpC_cond wpC_block wpC_skip wpC_exit wpC_ret thenQ_normal thenQ_exit thenQ_ret inBlk_normal inBlk_exit inBlk_ret wpS_nil wpS_step wpS_again wpS_guard wpO_mov wpO_load wpO_faddr wpO_nilCheck wpO_pick wpO_build wpO_bin wpO_eqb wpO_eqst wpO_eqnil wpO_not wpO_conv wpO_bytesStr wpO_iaddr wpO_idxStr wpO_field wpO_extract wpO_len wpO_lenStr wpO_cap wpO_min wpO_slice wpO_sliceStr wpO_alloc wpO_box wpO_store wpO_call wpO_callv wpO_mkfn wpO_buildSlice wpO_mkslice wpO_append wpO_appz proA_nil proA_cons tmpX_nil tmpX_tmp tmpX_cell doneB_normal doneB_ret agK_cons agK_nil agK_guard agG_tt agG_ff agG_tf agG_ft agG_undef pureB_load results_one results_two results_nil resBs_cons resBs_nil resB_tmp resB_cell
attribute [local go_sem] kill_v kill_lp_ne kill_lp_same pro_v pro_lp_same pro_lp_ne av_v av_lp optB_some optX_some valX_eq ldX_lp ldX_v faX_lp faX_v ncX_lp ncX_ptr ncX_fn boxK_one boxK_agg stL_some stK_lp_one stK_lp_agg stK_v_one stK_v_agg proM_v proM_lp callG_mk callVG_mk callvK_fn fnG_mk ptrsA_nil ptrsA_cons callH_some whenA_true whenA_false guardH_tt guardH_ff guardH_tf guardH_ft guardH_undef agV_one agV_agg lenO_sl lenStrO_str notO_bool pickO_bool convO_int eqbO_bool eqnilO_sl extractO_tup capO_sl minO_int loadL_one loadL_all storeL_eq fillA_nil fillA_one fillA_agg nat_ge neg_ge nat_lt neg_lt buildO bin_add bin_sub bin_mul bin_eql bin_neq bin_lss bin_leq bin_gtr bin_geq str_eql str_neq str_lss str_leq str_gtr str_geq retK_some endK_mk gcK_same gcK_int gcK_bool tupO_one tupO_agg rdy_self ib ii Option.map_none Option.map_some Option.some.injEq exists_eq_left' exists_eq_left ne_eq not_false_eq_true if_true if_false List.map_cons List.map_nil List.getElem?_cons_zero List.getElem?_cons_succ List.length_cons List.length_nil List.take_succ_cons List.take_zero List.take_nil List.drop_succ_cons List.drop_zero List.drop_nil List.cons_append List.nil_append List.append_nil List.set_cons_zero List.set_cons_succ Nat.zero_add forall_const true_and and_true and_self Bool.false_eq_true false_implies true_implies implies_true Bool.not_true Bool.not_false Bool.not_eq_true' Bool.not_eq_false' beq_self_eq_true Bool.bne_true Bool.bne_false
attribute [local go_sem] lenI lenS lenP lenQ lenB lenL lenT encI_0 encS_0 encP_0 encP_1 encQ_0 encQ_1 encQ_2 encQ_3 encB_0 encB_1 encL_0 encL_1 encT_0 encT_1
attribute [local go_sem low] whenA_bool guardH_bool
theorem joinT {P : Program} {c : ACode} {Q : PostC} {G : Prop} (M : Post) (main : (∀ T L h, M T L h → wpC P c T L (rdy h) Q) → G) (join : ∀ T L h, M T L h → wpC P c T L (rdy h) Q) : G := main join
theorem sum_smallT {m : Nat} : ∀ {l : List ByteArray}, (∀ s ∈ l, s.size ≤ m) → (l.map (·.size)).sum ≤ l.length * m
  | [], _ => by simp
  | x :: l, h => by
    have h1 := h x (.head _)
    have h2 := sum_smallT (l := l) fun s hs => h s (.tail _ hs)
    simp only [List.map_cons, List.sum_cons, List.length_cons, Nat.succ_mul]
    omega
theorem joinB_sm {sep : ByteArray} {l : List ByteArray} (hsep : sep.size ≤ 4) (hn : l.length ≤ 4194304) (hs : ∀ s ∈ l, s.size ≤ 4194304) : (joinB sep l).size ≤ 35184372088832 := by
  have h1 := joinB_size sep l
  have h2 := sum_smallT hs
  have h3 : l.length * 4194304 ≤ 4194304 * 4194304 := Nat.mul_le_mul_right _ hn
  have h4 : sep.size * l.length ≤ 4 * 4194304 := Nat.mul_le_mul hsep hn
  omega
theorem joinB_next (sep : ByteArray) {l : List ByteArray} {i : Nat} (hi : i < l.length) : joinB sep (l.take (i + 1)) = if i = 0 then l[i] else joinB sep (l.take i) ++ sep ++ l[i] := by
  cases l with
  | nil => simp at hi
  | cons a r =>
    cases i with
    | zero => simp [joinB]
    | succ j =>
      have hj : j < r.length := by simpa using hi
      rw [if_neg (by omega)]
      simp only [List.take_succ_cons, List.getElem_cons_succ]
      exact joinB_step sep a r j hj
/-! ### the parts of a signature's text -/
def parT (p : Param) : ByteArray := if p.kind = 2 then strOfNums [42] ++ p.name else if p.kind = 4 then strOfNums [42, 42] ++ p.name else if p.has = true then p.name ++ strOfNums [61] ++ numB p.dflt else p.name
theorem parT_size (p : Param) : (parT p).size ≤ p.name.size + 4 := by
  unfold parT
  have := numB_size p.dflt
  split
  · rw [ByteArray.size_append, strOfNums_size]; simp; omega
  split
  · rw [ByteArray.size_append, strOfNums_size]; simp; omega
  split
  · rw [ByteArray.size_append, ByteArray.size_append, strOfNums_size]; simp; omega
  · omega
def ahead3 (l : List Param) : Nat → Bool
  | 0 => true
  | j + 1 => match l[j]? with | some a => !(decide (a.kind = 3)) | none => true
def starB (l : List Param) (i : Nat) : Bool := match l[i]? with
  | some p => decide (p.kind = 3) && (!(hasRest l) && ahead3 l i)
  | none => false
def slashB (l : List Param) (i : Nat) : Bool := match l[i]? with
  | some p => decide (p.kind = 0) && (match l[i + 1]? with | some b => !(decide (b.kind = 0)) | none => true)
  | none => false
def starL (l : List Param) (i : Nat) : List ByteArray := if starB l i = true then [strOfNums [42]] else []
def slashL (l : List Param) (i : Nat) : List ByteArray := if slashB l i = true then [strOfNums [47]] else []
def partA (l : List Param) (i : Nat) : List ByteArray := match l[i]? with | some p => starL l i ++ [parT p] ++ slashL l i | none => []
def partsT (l : List Param) : Nat → List ByteArray
  | 0 => []
  | i + 1 => partsT l i ++ partA l i
theorem partsT_next {l : List Param} {i : Nat} (hi : i < l.length) : partsT l (i + 1) = partsT l i ++ starL l i ++ [parT l[i]] ++ slashL l i := by
  rw [partsT, partA, List.getElem?_eq_getElem hi]
  simp
theorem partA_mem {l : List Param} (hn : ∀ x ∈ l, x.name.size ≤ 6) {i : Nat} : ∀ s ∈ partA l i, s.size ≤ 10 := by
  intro s hs
  unfold partA at hs
  split at hs
  · rename_i p hp
    have h1 := hn p (List.mem_of_getElem? hp)
    have h2 := parT_size p
    simp only [List.mem_append, List.mem_singleton, starL, slashL] at hs
    rcases hs with (hs | rfl) | hs
    · split at hs
      · rw [List.mem_singleton] at hs; subst hs; rw [strOfNums_size]; decide
      · simp at hs
    · omega
    · split at hs
      · rw [List.mem_singleton] at hs; subst hs; rw [strOfNums_size]; decide
      · simp at hs
  · simp at hs
theorem partsT_mem {l : List Param} (hn : ∀ x ∈ l, x.name.size ≤ 6) : ∀ {i : Nat}, ∀ s ∈ partsT l i, s.size ≤ 10
  | 0, s, hs => by simp [partsT] at hs
  | i + 1, s, hs => by
    rw [partsT, List.mem_append] at hs
    rcases hs with hs | hs
    · exact partsT_mem hn s hs
    · exact partA_mem hn s hs
theorem partA_len {l : List Param} {i : Nat} : (partA l i).length ≤ 3 := by
  unfold partA starL slashL
  split
  · split <;> split <;> simp
  · simp
theorem partsT_len {l : List Param} : ∀ {i : Nat}, (partsT l i).length ≤ 3 * i
  | 0 => by simp [partsT]
  | i + 1 => by
    have := partsT_len (l := l) (i := i)
    have := partA_len (l := l) (i := i)
    rw [partsT, List.length_append]
    omega
def sigT (l : List Param) : ByteArray := joinB (strOfNums [44, 32]) (partsT l l.length)
def sigTx (l : List Param) : ByteArray := if okSig l = true then sigT l else strOfNums []
theorem starB_zero {l : List Param} (hi : 0 < l.length) : starB l 0 = (decide (l[0].kind = 3) && !(hasRest l)) := by
  unfold starB ahead3
  rw [List.getElem?_eq_getElem hi]
  simp
theorem starB_succ {l : List Param} {j : Nat} (hi : j + 1 < l.length) : starB l (j + 1) = (decide (l[j + 1].kind = 3) && (!(hasRest l) && !(decide ((l[j]'(by omega)).kind = 3)))) := by
  unfold starB ahead3
  rw [List.getElem?_eq_getElem hi]
  simp only
  rw [List.getElem?_eq_getElem (show j < l.length by omega)]
theorem slashB_last {l : List Param} {i : Nat} (hi : i < l.length) (h : ¬ i + 1 < l.length) : slashB l i = decide (l[i].kind = 0) := by
  unfold slashB
  rw [List.getElem?_eq_getElem hi, List.getElem?_eq_none (by omega)]
  simp
theorem slashB_mid {l : List Param} {i : Nat} (h : i + 1 < l.length) : slashB l i = (decide ((l[i]'(by omega)).kind = 0) && !(decide (l[i + 1].kind = 0))) := by
  unfold slashB
  rw [List.getElem?_eq_getElem (show i < l.length by omega), List.getElem?_eq_getElem h]
/-- the first of the parameters that are found by their name alone -/
theorem star_first {l : List Param} (o : Ord l) {i : Nat} (hi : i < l.length) (e : l[i].kind = 3) : starB l i = (!(hasRest l) && decide (kindAt l 3 = (i : Int))) := by
  have key : decide (kindAt l 3 = (i : Int)) = ahead3 l i := by
    cases i with
    | zero =>
      unfold ahead3 kindAt
      rw [idx_hit hi ⟨fun x hx => by simp at hx⟩ (by simpa using e)]
      simp
    | succ j =>
      have hj : j < l.length := by omega
      simp only [ahead3, List.getElem?_eq_getElem hj]
      have h1 := o.up hi (Nat.le_succ j)
      by_cases h2 : l[j].kind = 3
      · rw [decide_eq_true h2]
        refine decide_eq_false fun h3 => ?_
        unfold kindAt idx at h3
        cases h4 : l.findIdx? (fun p : Param => decide (p.kind = 3)) with
        | none => rw [h4] at h3; simp at h3; omega
        | some k =>
          rw [h4] at h3
          obtain ⟨_, _, h6⟩ := List.findIdx?_eq_some_iff_getElem.1 h4
          simp at h3
          have := h6 j (by omega)
          simp [h2] at this
      · rw [decide_eq_false h2]
        have : kindAt l 3 = ((j + 1 : Nat) : Int) := by
          unfold kindAt
          refine idx_hit hi ⟨fun x hx => ?_⟩ (by simpa using e)
          rw [List.mem_take_iff_getElem] at hx
          obtain ⟨k, hk, rfl⟩ := hx
          have h3 := o.up hj (show k ≤ j by omega)
          rw [e] at h1
          simp only [decide_eq_false_iff_not]
          omega
        rw [this]
        simp
  unfold starB
  rw [List.getElem?_eq_getElem hi]
  simp only
  rw [e, key]
  simp
/-! (impl.Param).text -/
def L50_0 : List AStep := [⟨.box 83 (.t 0), (some 1), none, []⟩, ⟨.mov (.c (.str (strOfNums []))), (some 2), none, []⟩]
theorem v50_0 : VS L50_0.eq_1 := rfl
def L50_1 : List AStep := [⟨.bin .eql (.t 5) (.c (.int .i64 2)), (some 6), none, []⟩, ⟨.mov (.t 6), (some 3), none, []⟩]
theorem v50_1 : VS L50_1.eq_1 := rfl
def L50_2 : List AStep := ⟨.faddr 1 (.t 1), (some 4), none, []⟩ :: ⟨.load 1 false (.t 4), (some 5), none, []⟩ :: L50_1
theorem v50_2 : VS L50_2.eq_1 := rfl
def L50_3 : List AStep := [⟨.bin .add (.c (.str (strOfNums [42]))) (.t 8), (some 9), none, []⟩, ⟨.mov (.t 9), (some 2), none, []⟩]
theorem v50_3 : VS L50_3.eq_1 := rfl
def L50_4 : List AStep := ⟨.faddr 0 (.t 1), (some 7), none, []⟩ :: ⟨.load 1 false (.t 7), (some 8), none, []⟩ :: L50_3
theorem v50_4 : VS L50_4.eq_1 := rfl
def L50_5 : List AStep := [⟨.bin .eql (.t 12) (.c (.int .i64 4)), (some 13), none, []⟩, ⟨.mov (.t 13), (some 10), none, []⟩]
theorem v50_5 : VS L50_5.eq_1 := rfl
def L50_6 : List AStep := ⟨.faddr 1 (.t 1), (some 11), none, []⟩ :: ⟨.load 1 false (.t 11), (some 12), none, []⟩ :: L50_5
theorem v50_6 : VS L50_6.eq_1 := rfl
def L50_7 : List AStep := [⟨.bin .add (.c (.str (strOfNums [42, 42]))) (.t 15), (some 16), none, []⟩, ⟨.mov (.t 16), (some 2), none, []⟩]
theorem v50_7 : VS L50_7.eq_1 := rfl
def L50_8 : List AStep := ⟨.faddr 0 (.t 1), (some 14), none, []⟩ :: ⟨.load 1 false (.t 14), (some 15), none, []⟩ :: L50_7
theorem v50_8 : VS L50_8.eq_1 := rfl
def L50_9 : List AStep := [⟨.mov (.t 19), (some 17), none, []⟩]
theorem v50_9 : VS L50_9.eq_1 := rfl
def L50_10 : List AStep := ⟨.faddr 2 (.t 1), (some 18), none, []⟩ :: ⟨.load 1 false (.t 18), (some 19), none, []⟩ :: L50_9
theorem v50_10 : VS L50_10.eq_1 := rfl
def L50_11 : List AStep := [⟨.bin .add (.t 22) (.t 25), (some 26), none, []⟩, ⟨.mov (.t 26), (some 2), none, []⟩]
theorem v50_11 : VS L50_11.eq_1 := rfl
def L50_12 : List AStep := ⟨.load 1 false (.t 23), (some 24), none, []⟩ :: ⟨.call 42 [(.t 24)], (some 25), none, [(.load 1 false (.t 20), (some 21), none)]⟩ :: L50_11
theorem v50_12 : VS L50_12.eq_1 := rfl
def L50_13 : List AStep := ⟨.bin .add (.t 21) (.c (.str (strOfNums [61]))), (some 22), none, []⟩ :: ⟨.faddr 3 (.t 1), (some 23), none, []⟩ :: L50_12
theorem v50_13 : VS L50_13.eq_1 := rfl
def L50_14 : List AStep := ⟨.faddr 0 (.t 1), (some 20), none, []⟩ :: ⟨.load 1 false (.t 20), (some 21), none, []⟩ :: L50_13
theorem v50_14 : VS L50_14.eq_1 := rfl
def L50_15 : List AStep := [⟨.mov (.t 28), (some 2), none, []⟩]
theorem v50_15 : VS L50_15.eq_1 := rfl
def L50_16 : List AStep := ⟨.faddr 0 (.t 1), (some 27), none, []⟩ :: ⟨.load 1 false (.t 27), (some 28), none, []⟩ :: L50_15
theorem v50_16 : VS L50_16.eq_1 := rfl
def C50_0 : ACode := .seq (.reg L50_4) .ret
theorem u50_0 : VC C50_0.eq_1 := rfl
def C50_1 : ACode := .seq (.reg L50_8) .ret
theorem u50_1 : VC C50_1.eq_1 := rfl
def C50_2 : ACode := .seq (.reg L50_14) .ret
theorem u50_2 : VC C50_2.eq_1 := rfl
def C50_3 : ACode := .cond (.t 17) C50_2 .skip
theorem u50_3 : VC C50_3.eq_1 := rfl
def C50_4 : ACode := .seq (.reg L50_10) C50_3
theorem u50_4 : VC C50_4.eq_1 := rfl
def C50_5 : ACode := .cond (.t 10) C50_1 C50_4
theorem u50_5 : VC C50_5.eq_1 := rfl
def C50_6 : ACode := .seq (.reg L50_6) C50_5
theorem u50_6 : VC C50_6.eq_1 := rfl
def C50_7 : ACode := .cond (.t 3) C50_0 C50_6
theorem u50_7 : VC C50_7.eq_1 := rfl
def C50_8 : ACode := .seq (.reg L50_2) C50_7
theorem u50_8 : VC C50_8.eq_1 := rfl
def C50_9 : ACode := .block 0 C50_8
theorem u50_9 : VC C50_9.eq_1 := rfl
def C50_10 : ACode := .seq (.reg L50_16) .ret
theorem u50_10 : VC C50_10.eq_1 := rfl
def C50_11 : ACode := .seq C50_9 C50_10
theorem u50_11 : VC C50_11.eq_1 := rfl
def C50_12 : ACode := .seq (.reg L50_0) C50_11
theorem u50_12 : VC C50_12.eq_1 := rfl
def F50 : AFunc := ⟨29, [.tmp 2], C50_12⟩
theorem cF50 : compB Tryd.prog 50 = some F50 := by kernel_rfl
attribute [local go_sem ↓] u50_0 u50_1 u50_2 u50_3 u50_4 u50_5 u50_6 u50_7 u50_8 u50_9 u50_10 u50_11 u50_12 v50_0 v50_1 v50_2 v50_3 v50_4 v50_5 v50_6 v50_7 v50_8 v50_9 v50_10 v50_11 v50_12 v50_13 v50_14 v50_15 v50_16
theorem c_paramTextI (p : Param) (h : H) (hn : p.name.size ≤ 1048576) (hd : okNum p.dflt = true) : bm Tryd.prog 50 [.agg (encQ p)] h = some (.one (.str (parT p)), h) := by
  refine bm_eq cF50 ?_
  unfold okNum at hd
  simp only [Bool.and_eq_true, decide_eq_true_iff] at hd
  have e1 := str_add (s := strOfNums [42]) (t := p.name) (by rw [strOfNums_size]; simp; omega)
  have e2 := str_add (s := strOfNums [42, 42]) (t := p.name) (by rw [strOfNums_size]; simp; omega)
  have e3 := str_add (s := p.name) (t := strOfNums [61]) (by rw [strOfNums_size]; simp; omega)
  have e4 := str_add (s := p.name ++ strOfNums [61]) (t := numB p.dflt) (by have := numB_size p.dflt; rw [ByteArray.size_append, strOfNums_size]; simp; omega)
  unfold parT
  by_cases k2 : p.kind = 2
  · rw [if_pos k2]
    simp +contextual (maxSteps := 2000000) only [go_sem, Nat.reduceEqDiff, reduceCtorEq, Nat.reduceAdd, Nat.reduceLeDiff, F50, encQ, decide_eq_true k2, e1]
  rw [if_neg k2]
  by_cases k4 : p.kind = 4
  · rw [if_pos k4]
    simp +contextual (maxSteps := 2000000) only [go_sem, Nat.reduceEqDiff, reduceCtorEq, Nat.reduceAdd, Nat.reduceLeDiff, F50, encQ, decide_eq_false k2, decide_eq_true k4, e2]
  rw [if_neg k4]
  cases kh : p.has with
  | true => simp +contextual (maxSteps := 2000000) only [go_sem, Nat.reduceEqDiff, reduceCtorEq, Nat.reduceAdd, Nat.reduceLeDiff, F50, encQ, decide_eq_false k2, decide_eq_false k4, kh, c_itoa p.dflt (by omega) (by omega), e3, e4]
  | false => simp +contextual (maxSteps := 2000000) only [go_sem, Nat.reduceEqDiff, reduceCtorEq, Nat.reduceAdd, Nat.reduceLeDiff, F50, encQ, decide_eq_false k2, decide_eq_false k4, kh]
end Go.Proofs.YtoeceafibmafpaaDoor.Am
