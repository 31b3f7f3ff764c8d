/- Contracts: the texts of arguments, of both sides. -/
import Derived.Test.YtoeceafibmafpaaDoorTG
import Derived.Test.YtoeceafibmafpaaDoorFC
import Derived.Test.YtoeceafibmafpaaDoorFD
import Derived.Test.YtoeceafibmafpaaDoorDN
namespace Go.Proofs.YtoeceafibmafpaaDoor.Am
open Go
set_option maxRecDepth 100000
set_option maxHeartbeats 4000000
set_option linter.unusedSimpArgs false
set_option linter.unusedVariables false
attribute [local go_sem ↓] bv_t bv_c ev_t ev_c put_same put_ne put_none kill_at pro_at lb_same lb_ne start_zero start_succ wpC_seq wpC_reg wpC_cond wpC_block wpC_skip wpC_exit wpC_ret thenQ_normal thenQ_exit thenQ_ret inBlk_normal inBlk_exit inBlk_ret wpS_nil wpS_step wpS_again wpS_guard wpO_mov wpO_load wpO_faddr wpO_nilCheck wpO_pick wpO_build wpO_bin wpO_eqb wpO_eqst wpO_eqnil wpO_not wpO_conv wpO_bytesStr wpO_iaddr wpO_idxStr wpO_field wpO_extract wpO_len wpO_lenStr wpO_cap wpO_min wpO_slice wpO_sliceStr wpO_alloc wpO_box wpO_store wpO_call wpO_callv wpO_mkfn wpO_buildSlice wpO_mkslice wpO_append wpO_appz proA_nil proA_cons tmpX_nil tmpX_tmp tmpX_cell doneB_normal doneB_ret agK_cons agK_nil agK_guard agG_tt agG_ff agG_tf agG_ft agG_undef pureB_load results_one results_two results_nil resBs_cons resBs_nil resB_tmp resB_cell
attribute [local go_sem] kill_v kill_lp_ne kill_lp_same pro_v pro_lp_same pro_lp_ne av_v av_lp optB_some optX_some valX_eq ldX_lp ldX_v faX_lp faX_v ncX_lp ncX_ptr ncX_fn boxK_one boxK_agg stL_some stK_lp_one stK_lp_agg stK_v_one stK_v_agg proM_v proM_lp callG_mk callVG_mk callvK_fn fnG_mk ptrsA_nil ptrsA_cons callH_some whenA_true whenA_false guardH_tt guardH_ff guardH_tf guardH_ft guardH_undef agV_one agV_agg lenO_sl lenStrO_str notO_bool pickO_bool convO_int eqbO_bool eqnilO_sl extractO_tup capO_sl minO_int loadL_one loadL_all storeL_eq fillA_nil fillA_one fillA_agg nat_ge neg_ge nat_lt neg_lt buildO bin_add bin_sub bin_mul bin_eql bin_neq bin_lss bin_leq bin_gtr bin_geq str_eql str_neq str_lss str_leq str_gtr str_geq retK_some endK_mk gcK_same gcK_int gcK_bool tupO_one tupO_agg rdy_self ib ii Option.map_none Option.map_some Option.some.injEq exists_eq_left' exists_eq_left ne_eq not_false_eq_true if_true if_false List.map_cons List.map_nil List.getElem?_cons_zero List.getElem?_cons_succ List.length_cons List.length_nil List.take_succ_cons List.take_zero List.take_nil List.drop_succ_cons List.drop_zero List.drop_nil List.cons_append List.nil_append List.append_nil List.set_cons_zero List.set_cons_succ Nat.zero_add forall_const true_and and_true and_self Bool.false_eq_true false_implies true_implies implies_true Bool.not_true Bool.not_false Bool.not_eq_true' Bool.not_eq_false' beq_self_eq_true Bool.bne_true Bool.bne_false
attribute [local go_sem] lenI lenS lenP lenQ lenB lenL lenT encI_0 encS_0 encP_0 encP_1 encQ_0 encQ_1 encQ_2 encQ_3 encB_0 encB_1 encL_0 encL_1 encT_0 encT_1
attribute [local go_sem low] whenA_bool guardH_bool
theorem joinB_mul {sep : ByteArray} {l : List ByteArray} {m : Nat} (hs : ∀ s ∈ l, s.size ≤ m) : (joinB sep l).size ≤ l.length * m + sep.size * l.length := by
  have h1 := joinB_size sep l
  have h2 := sum_smallT hs
  omega
theorem map_next {α β : Type} (f : α → β) {l : List α} {i : Nat} (hi : i < l.length) : (l.take (i + 1)).map f = (l.take i).map f ++ [f l[i]] := by
  rw [List.take_succ_eq_append_getElem hi, List.map_append]
  rfl
def pairT (p : Pair) : ByteArray := p.name ++ strOfNums [61] ++ numB p.value
def numsT (l : List Int) : ByteArray := joinB (strOfNums [32]) (l.map numB)
def prsT (l : List Pair) : ByteArray := joinB (strOfNums [32]) (l.map pairT)
def argT (a : Arg) : ByteArray :=
  if a.kind = 1 then strOfNums [42, 91] ++ numsT a.list ++ strOfNums [93]
  else if a.kind = 2 then a.name ++ strOfNums [61] ++ numsT a.list
  else if a.kind = 3 then strOfNums [42, 42, 123] ++ prsT a.pairs ++ strOfNums [125]
  else numsT a.list
theorem pairT_size (p : Pair) : (pairT p).size ≤ p.name.size + 4 := by
  unfold pairT
  have := numB_size p.value
  rw [ByteArray.size_append, ByteArray.size_append, strOfNums_size]
  simp
  omega
theorem numsT_size {l : List Int} (h : l.length ≤ 8) : (numsT l).size ≤ 32 := by
  unfold numsT
  have h1 := joinB_mul (sep := strOfNums [32]) (l := l.map numB) (m := 3) (fun s hs => by
    obtain ⟨n, _, rfl⟩ := List.mem_map.1 hs
    exact numB_size n)
  rw [strOfNums_size, List.length_map] at h1
  simp at h1
  omega
theorem prsT_size {l : List Pair} (h : l.length ≤ 8) (hn : ∀ p ∈ l, p.name.size ≤ 6) : (prsT l).size ≤ 88 := by
  unfold prsT
  have h1 := joinB_mul (sep := strOfNums [32]) (l := l.map pairT) (m := 10) (fun s hs => by
    obtain ⟨p, hp, rfl⟩ := List.mem_map.1 hs
    have := pairT_size p
    have := hn p hp
    omega)
  rw [strOfNums_size, List.length_map] at h1
  simp at h1
  omega
theorem okNum_le {n : Int} (h : okNum n = true) : -100 < n ∧ n < 100 := by
  unfold okNum at h
  simp only [Bool.and_eq_true, decide_eq_true_iff] at h
  omega
structure ArgOk (a : Arg) : Prop where
  list : a.list.length ≤ 8
  nums : ∀ n ∈ a.list, -100 < n ∧ n < 100
  pairs : a.pairs.length ≤ 8
  prs : ∀ p ∈ a.pairs, p.name.size ≤ 6 ∧ -100 < p.value ∧ p.value < 100
  one : a.kind = 0 ∨ a.kind = 2 → a.list.length = 1
  name : a.kind = 2 → a.name.size ≤ 6
  kind : a.kind = 0 ∨ a.kind = 1 ∨ a.kind = 2 ∨ a.kind = 3
theorem ArgOk.of {a : Arg} (h : okArg a = true) : ArgOk a := by
  obtain ⟨h1, h2, h3, h4⟩ := okArg_sm h
  have hk := okArg_kind h
  have hall : (∀ n ∈ a.list, okNum n = true) ∧ (∀ p ∈ a.pairs, okPair p = true) ∧ (a.kind = 0 → a.list.length = 1) := by
    have en : ∀ {l : List Int}, (l.length : Int) = 0 → ∀ n ∈ l, okNum n = true := fun h n hn => by
      have := List.length_eq_zero_iff.1 (Int.ofNat.inj h)
      subst this
      simp at hn
    have ep : ∀ {l : List Pair}, (l.length : Int) = 0 → ∀ n ∈ l, okPair n = true := fun h n hn => by
      have := List.length_eq_zero_iff.1 (Int.ofNat.inj h)
      subst this
      simp at hn
    unfold okArg noNm len1 len0 le8 at h
    split at h
    · simp only [Bool.and_eq_true, decide_eq_true_iff] at h
      exact ⟨List.all_eq_true.1 h.2.2.1, ep h.2.2.2, fun _ => by omega⟩
    · split at h
      · simp only [Bool.and_eq_true, decide_eq_true_iff] at h
        exact ⟨List.all_eq_true.1 h.2.2.1, ep h.2.2.2, fun h => by omega⟩
      · split at h
        · simp only [Bool.and_eq_true, decide_eq_true_iff] at h
          exact ⟨List.all_eq_true.1 h.2.2.1, ep h.2.2.2, fun _ => by omega⟩
        · split at h
          · simp only [Bool.and_eq_true, decide_eq_true_iff] at h
            exact ⟨en h.2.1, List.all_eq_true.1 h.2.2.2, fun h => by omega⟩
          · simp at h
  refine ⟨h1, fun n hn => okNum_le (hall.1 n hn), h2, fun p hp => ⟨h4 p hp, ?_⟩, fun hk => ?_, fun hk => (h3 hk).2, by omega⟩
  · have := hall.2.1 p hp
    unfold okPair at this
    rw [Bool.and_eq_true] at this
    exact okNum_le this.2
  · rcases hk with hk | hk
    · exact hall.2.2 hk
    · exact (h3 hk).1
theorem argT_size {a : Arg} (o : ArgOk a) : (argT a).size ≤ 100 := by
  have h1 := numsT_size o.list
  have h2 := prsT_size o.pairs fun p hp => (o.prs p hp).1
  unfold argT
  split
  · rw [ByteArray.size_append, ByteArray.size_append, strOfNums_size, strOfNums_size]; simp; omega
  split
  · have := o.name ‹_›
    rw [ByteArray.size_append, ByteArray.size_append, strOfNums_size]; simp; omega
  split
  · rw [ByteArray.size_append, ByteArray.size_append, strOfNums_size, strOfNums_size]; simp; omega
  · omega
theorem numsT_one (n : Int) : numsT [n] = numB n := rfl
/-! spec.numbersText -/
def L120_0 : List AStep := [⟨.mov (.c (.sl none 0 (some 0))), (some 2), none, []⟩]
theorem v120_0 : VS L120_0.eq_1 := rfl
def L120_1 : List AStep := [⟨.buildSlice 9 0 [(.str (strOfNums []))] [], (some 5), none, []⟩, ⟨.mov (.t 5), (some 3), none, []⟩]
theorem v120_1 : VS L120_1.eq_1 := rfl
def L120_2 : List AStep := [⟨.mov (.c (.int .i64 0)), (some 4), none, []⟩]
theorem v120_2 : VS L120_2.eq_1 := rfl
def L120_3 : List AStep := [⟨.len (.t 7), (some 8), none, []⟩, ⟨.bin .lss (.t 6) (.t 8), (some 9), none, []⟩]
theorem v120_3 : VS L120_3.eq_1 := rfl
def L120_4 : List AStep := ⟨.mov (.t 4), (some 6), none, []⟩ :: ⟨.mov (.t 0), (some 7), none, []⟩ :: L120_3
theorem v120_4 : VS L120_4.eq_1 := rfl
def L120_5 : List AStep := [⟨.mov (.t 19), (some 3), none, []⟩]
theorem v120_5 : VS L120_5.eq_1 := rfl
def L120_6 : List AStep := ⟨.buildSlice 9 1 [(.str (strOfNums []))] [(0, 1, (.t 17))], (some 18), none, []⟩ :: ⟨.append 9 1 16 (.t 12) (.t 18), (some 19), none, []⟩ :: L120_5
theorem v120_6 : VS L120_6.eq_1 := rfl
def L120_7 : List AStep := ⟨.load 1 false (.t 15), (some 16), none, []⟩ :: ⟨.call 68 [(.t 16)], (some 17), none, []⟩ :: L120_6
theorem v120_7 : VS L120_7.eq_1 := rfl
def L120_8 : List AStep := ⟨.mov (.t 4), (some 14), none, []⟩ :: ⟨.iaddr 1 (.t 13) (.t 14), (some 15), none, []⟩ :: L120_7
theorem v120_8 : VS L120_8.eq_1 := rfl
def L120_9 : List AStep := ⟨.mov (.t 3), (some 12), none, []⟩ :: ⟨.mov (.t 0), (some 13), none, []⟩ :: L120_8
theorem v120_9 : VS L120_9.eq_1 := rfl
def L120_10 : List AStep := [⟨.mov (.t 11), (some 4), none, []⟩]
theorem v120_10 : VS L120_10.eq_1 := rfl
def L120_11 : List AStep := ⟨.mov (.t 4), (some 10), none, []⟩ :: ⟨.bin .add (.t 10) (.c (.int .i64 1)), (some 11), none, []⟩ :: L120_10
theorem v120_11 : VS L120_11.eq_1 := rfl
def L120_12 : List AStep := [⟨.mov (.t 3), (some 20), none, []⟩, ⟨.mov (.t 20), (some 2), none, []⟩]
theorem v120_12 : VS L120_12.eq_1 := rfl
def C120_0 : ACode := .cond (.t 9) .skip (.exit 0)
theorem u120_0 : VC C120_0.eq_1 := rfl
def C120_1 : ACode := .seq (.reg L120_4) C120_0
theorem u120_1 : VC C120_1.eq_1 := rfl
def C120_2 : ACode := .block 1 (.reg L120_9)
theorem u120_2 : VC C120_2.eq_1 := rfl
def C120_3 : ACode := .seq C120_2 (.reg L120_11)
theorem u120_3 : VC C120_3.eq_1 := rfl
def C120_4 : ACode := .seq C120_1 C120_3
theorem u120_4 : VC C120_4.eq_1 := rfl
def C120_5 : ACode := .block 0 (.loop C120_4)
theorem u120_5 : VC C120_5.eq_1 := rfl
def C120_6 : ACode := .seq (.reg L120_2) C120_5
theorem u120_6 : VC C120_6.eq_1 := rfl
def C120_7 : ACode := .seq (.reg L120_12) .ret
theorem u120_7 : VC C120_7.eq_1 := rfl
def C120_8 : ACode := .seq C120_6 C120_7
theorem u120_8 : VC C120_8.eq_1 := rfl
def C120_9 : ACode := .seq (.reg L120_1) C120_8
theorem u120_9 : VC C120_9.eq_1 := rfl
def C120_10 : ACode := .seq (.reg L120_0) C120_9
theorem u120_10 : VC C120_10.eq_1 := rfl
def F120 : AFunc := ⟨21, [.tmp 2], C120_10⟩
theorem cF120 : compB Tryd.prog 120 = some F120 := by kernel_rfl
attribute [local go_sem ↓] u120_0 u120_1 u120_2 u120_3 u120_4 u120_5 u120_6 u120_7 u120_8 u120_9 u120_10 v120_0 v120_1 v120_2 v120_3 v120_4 v120_5 v120_6 v120_7 v120_8 v120_9 v120_10 v120_11 v120_12
theorem c_numbersText {ty : Nat} (l : List Int) (v : AV) (h : H) (hl : Sl encI 1 ty h v l) (hn : l.length ≤ 8) (hk : ∀ x ∈ l, -100 < x ∧ x < 100) : callK (bm Tryd.prog 120 [v] h) fun r h' => Grow h h' ∧ NwS h h' r (l.map numB) := by
  refine bm_of cF120 ?_
  simp +contextual (maxSteps := 2000000) only [go_sem, Nat.reduceEqDiff, reduceCtorEq, Nat.reduceAdd, Nat.reduceLeDiff, F120]
  refine wp_lit (enc := encS) (k := 1) (l := []) rfl rfl ?_
  intro h1 w1 g1 n1 _
  simp +contextual (maxSteps := 2000000) only [go_sem, Nat.reduceEqDiff, reduceCtorEq, Nat.reduceAdd, Nat.reduceLeDiff]
  refine wpC_loop (fun i T L h' => Grow h h' ∧ T 0 = .v v ∧ (∃ s, T 3 = .v s ∧ NwS h h' s ((l.take i).map numB)) ∧ T 4 = .v (.one (.int .i64 i))) l.length ?_ ?_ (Nat.zero_le _) ?_
  · rintro i T L h' hi ⟨gh, t0, ⟨s, t3, z⟩, t4⟩
    have k := hl.grow gh
    have hx := hk _ (List.getElem_mem hi)
    simp +contextual (maxSteps := 2000000) only [go_sem, Nat.reduceEqDiff, reduceCtorEq, Nat.reduceAdd, Nat.reduceLeDiff, t0, t3, t4, k.len, k.iaddr hi, k.oneO hi, lt_true hi, c_number l[i] hx.1 hx.2]
    refine wp_lit (enc := encS) (k := 1) (l := [numB l[i]]) rfl rfl ?_
    intro h2 w2 g2 n2 _
    simp +contextual (maxSteps := 2000000) only [go_sem, Nat.reduceEqDiff, reduceCtorEq, Nat.reduceAdd, Nat.reduceLeDiff, t0, t3, t4]
    refine wp_append lenS (z.grow g2) (n2.sl lenS) (gh.trans g2) (by simp; omega) ?_
    intro h3 s3 g3 n3 _ _
    simp +contextual (maxSteps := 2000000) only [go_sem, Nat.reduceEqDiff, reduceCtorEq, Nat.reduceAdd, Nat.reduceLeDiff, t0, t3, t4]
    rw [wrap_next hi (by omega)]
    exact ⟨g3, ⟨s3, rfl, by rw [map_next numB hi]; exact n3⟩, rfl⟩
  · rintro T L h' ⟨gh, t0, ⟨s, t3, z⟩, t4⟩
    have k := hl.grow gh
    rw [List.take_length] at z
    simp +contextual (maxSteps := 2000000) only [go_sem, Nat.reduceEqDiff, reduceCtorEq, Nat.reduceAdd, Nat.reduceLeDiff, t0, t3, t4, k.len, lt_false]
    exact gcK_of ⟨gh, z⟩ (fun hs _ => ⟨Grow.refl h, z.scalar hs h⟩)
  · simp +contextual (maxSteps := 2000000) only [go_sem, Nat.reduceEqDiff, reduceCtorEq, Nat.reduceAdd, Nat.reduceLeDiff]
    first | exact ⟨g1, _, rfl, n1⟩ | exact ⟨g1, ⟨_, rfl, n1⟩, rfl⟩
/-! impl.numbersText -/
def L99_0 : List AStep := [⟨.mov (.c (.str (strOfNums []))), (some 2), none, []⟩]
theorem v99_0 : VS L99_0.eq_1 := rfl
def L99_1 : List AStep := [⟨.mov (.c (.sl none 0 (some 0))), (some 3), none, []⟩]
theorem v99_1 : VS L99_1.eq_1 := rfl
def L99_2 : List AStep := [⟨.mov (.c (.int .i64 0)), (some 8), none, []⟩]
theorem v99_2 : VS L99_2.eq_1 := rfl
def L99_3 : List AStep := ⟨.mov (.t 0), (some 6), none, []⟩ :: ⟨.len (.t 6), (some 7), none, []⟩ :: L99_2
theorem v99_3 : VS L99_3.eq_1 := rfl
def L99_4 : List AStep := [⟨.bin .lss (.t 8) (.t 7), (some 9), none, []⟩]
theorem v99_4 : VS L99_4.eq_1 := rfl
def L99_5 : List AStep := [⟨.mov (.t 11), (some 5), none, []⟩]
theorem v99_5 : VS L99_5.eq_1 := rfl
def L99_6 : List AStep := ⟨.iaddr 1 (.t 6) (.t 8), (some 10), none, []⟩ :: ⟨.load 1 false (.t 10), (some 11), none, []⟩ :: L99_5
theorem v99_6 : VS L99_6.eq_1 := rfl
def L99_7 : List AStep := [⟨.append 9 1 16 (.t 12) (.t 15), (some 16), none, []⟩, ⟨.mov (.t 16), (some 3), none, []⟩]
theorem v99_7 : VS L99_7.eq_1 := rfl
def L99_8 : List AStep := ⟨.call 42 [(.t 13)], (some 14), none, []⟩ :: ⟨.buildSlice 9 1 [(.str (strOfNums []))] [(0, 1, (.t 14))], (some 15), none, []⟩ :: L99_7
theorem v99_8 : VS L99_8.eq_1 := rfl
def L99_9 : List AStep := ⟨.mov (.t 3), (some 12), none, []⟩ :: ⟨.mov (.t 5), (some 13), none, []⟩ :: L99_8
theorem v99_9 : VS L99_9.eq_1 := rfl
def L99_10 : List AStep := [⟨.bin .add (.t 8) (.c (.int .i64 1)), (some 17), none, []⟩, ⟨.mov (.t 17), (some 8), none, []⟩]
theorem v99_10 : VS L99_10.eq_1 := rfl
def L99_11 : List AStep := [⟨.mov (.t 19), (some 2), none, []⟩]
theorem v99_11 : VS L99_11.eq_1 := rfl
def L99_12 : List AStep := ⟨.mov (.t 3), (some 18), none, []⟩ :: ⟨.call 40 [(.t 18), (.c (.str (strOfNums [32])))], (some 19), none, []⟩ :: L99_11
theorem v99_12 : VS L99_12.eq_1 := rfl
def C99_0 : ACode := .cond (.t 9) .skip (.exit 0)
theorem u99_0 : VC C99_0.eq_1 := rfl
def C99_1 : ACode := .seq (.reg L99_6) (.reg L99_9)
theorem u99_1 : VC C99_1.eq_1 := rfl
def C99_2 : ACode := .block 1 C99_1
theorem u99_2 : VC C99_2.eq_1 := rfl
def C99_3 : ACode := .seq C99_2 (.reg L99_10)
theorem u99_3 : VC C99_3.eq_1 := rfl
def C99_4 : ACode := .seq C99_0 C99_3
theorem u99_4 : VC C99_4.eq_1 := rfl
def C99_5 : ACode := .seq (.reg L99_4) C99_4
theorem u99_5 : VC C99_5.eq_1 := rfl
def C99_6 : ACode := .block 0 (.loop C99_5)
theorem u99_6 : VC C99_6.eq_1 := rfl
def C99_7 : ACode := .seq (.reg L99_3) C99_6
theorem u99_7 : VC C99_7.eq_1 := rfl
def C99_8 : ACode := .seq (.reg L99_12) .ret
theorem u99_8 : VC C99_8.eq_1 := rfl
def C99_9 : ACode := .seq C99_7 C99_8
theorem u99_9 : VC C99_9.eq_1 := rfl
def C99_10 : ACode := .seq (.reg L99_1) C99_9
theorem u99_10 : VC C99_10.eq_1 := rfl
def C99_11 : ACode := .seq (.reg L99_0) C99_10
theorem u99_11 : VC C99_11.eq_1 := rfl
def F99 : AFunc := ⟨20, [.tmp 2], C99_11⟩
theorem cF99 : compB Tryd.prog 99 = some F99 := by kernel_rfl
attribute [local go_sem ↓] u99_0 u99_1 u99_2 u99_3 u99_4 u99_5 u99_6 u99_7 u99_8 u99_9 u99_10 u99_11 v99_0 v99_1 v99_2 v99_3 v99_4 v99_5 v99_6 v99_7 v99_8 v99_9 v99_10 v99_11 v99_12
theorem c_numbersTextI {ty : Nat} (l : List Int) (v : AV) (h : H) (hl : Sl encI 1 ty h v l) (hn : l.length ≤ 8) (hk : ∀ x ∈ l, -100 < x ∧ x < 100) : callK (bm Tryd.prog 99 [v] h) fun r h' => Grow h h' ∧ r = .one (.str (numsT l)) := by
  refine bm_of cF99 ?_
  simp +contextual (maxSteps := 2000000) only [go_sem, Nat.reduceEqDiff, reduceCtorEq, Nat.reduceAdd, Nat.reduceLeDiff, F99, hl.len]
  refine wpC_loop (fun i T L h' => Grow h h' ∧ T 6 = .v v ∧ (∃ s, T 3 = .v s ∧ NwS h h' s ((l.take i).map numB)) ∧ T 7 = .v (.one (.int .i64 l.length)) ∧ T 8 = .v (.one (.int .i64 i))) l.length ?_ ?_ (Nat.zero_le _) ?_
  · rintro i T L h' hi ⟨gh, t6, ⟨s, t3, z⟩, t7, t8⟩
    have k := hl.grow gh
    have hx := hk _ (List.getElem_mem hi)
    simp +contextual (maxSteps := 2000000) only [go_sem, Nat.reduceEqDiff, reduceCtorEq, Nat.reduceAdd, Nat.reduceLeDiff, t6, t3, t7, t8, k.len, k.iaddr hi, k.oneO hi, lt_true hi, c_itoa l[i] hx.1 hx.2]
    refine wp_lit (enc := encS) (k := 1) (l := [numB l[i]]) rfl rfl ?_
    intro h2 w2 g2 n2 _
    simp +contextual (maxSteps := 2000000) only [go_sem, Nat.reduceEqDiff, reduceCtorEq, Nat.reduceAdd, Nat.reduceLeDiff, t6, t3, t7, t8]
    refine wp_append lenS (z.grow g2) (n2.sl lenS) (gh.trans g2) (by simp; omega) ?_
    intro h3 s3 g3 n3 _ _
    simp +contextual (maxSteps := 2000000) only [go_sem, Nat.reduceEqDiff, reduceCtorEq, Nat.reduceAdd, Nat.reduceLeDiff, t6, t3, t7, t8]
    rw [wrap_next hi (by omega)]
    exact ⟨g3, ⟨s3, rfl, by rw [map_next numB hi]; exact n3⟩, rfl⟩
  · rintro T L h' ⟨gh, t6, ⟨s, t3, z⟩, t7, t8⟩
    rw [List.take_length] at z
    have hz := numsT_size hn
    unfold numsT at hz
    simp +contextual (maxSteps := 2000000) only [go_sem, Nat.reduceEqDiff, reduceCtorEq, Nat.reduceAdd, Nat.reduceLeDiff, t6, t3, t7, t8, lt_false, c_join s (strOfNums [32]) _ h' (z.sl lenS) (by omega) (by simp; omega)]
    exact gcK_of ⟨gh, rfl⟩ (fun _ _ => ⟨Grow.refl h, rfl⟩)
  · simp +contextual (maxSteps := 2000000) only [go_sem, Nat.reduceEqDiff, reduceCtorEq, Nat.reduceAdd, Nat.reduceLeDiff]
    first | exact ⟨Grow.refl h, _, rfl, .nil⟩ | exact ⟨Grow.refl h, ⟨_, rfl, .nil⟩, rfl⟩
/-! impl.pairsText -/
def L100_0 : List AStep := [⟨.mov (.c (.str (strOfNums []))), (some 2), none, []⟩]
theorem v100_0 : VS L100_0.eq_1 := rfl
def L100_1 : List AStep := [⟨.mov (.c (.sl none 0 (some 0))), (some 3), none, []⟩]
theorem v100_1 : VS L100_1.eq_1 := rfl
def L100_2 : List AStep := [⟨.mov (.c (.int .i64 0)), (some 8), none, []⟩]
theorem v100_2 : VS L100_2.eq_1 := rfl
def L100_3 : List AStep := ⟨.mov (.t 0), (some 6), none, []⟩ :: ⟨.len (.t 6), (some 7), none, []⟩ :: L100_2
theorem v100_3 : VS L100_3.eq_1 := rfl
def L100_4 : List AStep := [⟨.bin .lss (.t 8) (.t 7), (some 9), none, []⟩]
theorem v100_4 : VS L100_4.eq_1 := rfl
def L100_5 : List AStep := [⟨.alloc 151 [(.str (strOfNums [])), (.int .i64 0)], (some 5), none, []⟩, ⟨.store 2 (.t 5) (.t 11), none, none, []⟩]
theorem v100_5 : VS L100_5.eq_1 := rfl
def L100_6 : List AStep := ⟨.iaddr 2 (.t 6) (.t 8), (some 10), none, []⟩ :: ⟨.load 2 true (.t 10), (some 11), none, []⟩ :: L100_5
theorem v100_6 : VS L100_6.eq_1 := rfl
def L100_7 : List AStep := [⟨.mov (.t 21), (some 3), none, []⟩]
theorem v100_7 : VS L100_7.eq_1 := rfl
def L100_8 : List AStep := ⟨.buildSlice 9 1 [(.str (strOfNums []))] [(0, 1, (.t 19))], (some 20), none, []⟩ :: ⟨.append 9 1 16 (.t 12) (.t 20), (some 21), none, []⟩ :: L100_7
theorem v100_8 : VS L100_8.eq_1 := rfl
def L100_9 : List AStep := ⟨.call 42 [(.t 17)], (some 18), none, [(.load 1 false (.t 13), (some 14), none)]⟩ :: ⟨.bin .add (.t 15) (.t 18), (some 19), none, []⟩ :: L100_8
theorem v100_9 : VS L100_9.eq_1 := rfl
def L100_10 : List AStep := ⟨.faddr 1 (.t 5), (some 16), none, []⟩ :: ⟨.load 1 false (.t 16), (some 17), none, []⟩ :: L100_9
theorem v100_10 : VS L100_10.eq_1 := rfl
def L100_11 : List AStep := ⟨.load 1 false (.t 13), (some 14), none, []⟩ :: ⟨.bin .add (.t 14) (.c (.str (strOfNums [61]))), (some 15), none, []⟩ :: L100_10
theorem v100_11 : VS L100_11.eq_1 := rfl
def L100_12 : List AStep := ⟨.mov (.t 3), (some 12), none, []⟩ :: ⟨.faddr 0 (.t 5), (some 13), none, []⟩ :: L100_11
theorem v100_12 : VS L100_12.eq_1 := rfl
def L100_13 : List AStep := [⟨.bin .add (.t 8) (.c (.int .i64 1)), (some 22), none, []⟩, ⟨.mov (.t 22), (some 8), none, []⟩]
theorem v100_13 : VS L100_13.eq_1 := rfl
def L100_14 : List AStep := [⟨.mov (.t 24), (some 2), none, []⟩]
theorem v100_14 : VS L100_14.eq_1 := rfl
def L100_15 : List AStep := ⟨.mov (.t 3), (some 23), none, []⟩ :: ⟨.call 40 [(.t 23), (.c (.str (strOfNums [32])))], (some 24), none, []⟩ :: L100_14
theorem v100_15 : VS L100_15.eq_1 := rfl
def C100_0 : ACode := .cond (.t 9) .skip (.exit 0)
theorem u100_0 : VC C100_0.eq_1 := rfl
def C100_1 : ACode := .seq (.reg L100_6) (.reg L100_12)
theorem u100_1 : VC C100_1.eq_1 := rfl
def C100_2 : ACode := .block 1 C100_1
theorem u100_2 : VC C100_2.eq_1 := rfl
def C100_3 : ACode := .seq C100_2 (.reg L100_13)
theorem u100_3 : VC C100_3.eq_1 := rfl
def C100_4 : ACode := .seq C100_0 C100_3
theorem u100_4 : VC C100_4.eq_1 := rfl
def C100_5 : ACode := .seq (.reg L100_4) C100_4
theorem u100_5 : VC C100_5.eq_1 := rfl
def C100_6 : ACode := .block 0 (.loop C100_5)
theorem u100_6 : VC C100_6.eq_1 := rfl
def C100_7 : ACode := .seq (.reg L100_3) C100_6
theorem u100_7 : VC C100_7.eq_1 := rfl
def C100_8 : ACode := .seq (.reg L100_15) .ret
theorem u100_8 : VC C100_8.eq_1 := rfl
def C100_9 : ACode := .seq C100_7 C100_8
theorem u100_9 : VC C100_9.eq_1 := rfl
def C100_10 : ACode := .seq (.reg L100_1) C100_9
theorem u100_10 : VC C100_10.eq_1 := rfl
def C100_11 : ACode := .seq (.reg L100_0) C100_10
theorem u100_11 : VC C100_11.eq_1 := rfl
def F100 : AFunc := ⟨25, [.tmp 2], C100_11⟩
theorem cF100 : compB Tryd.prog 100 = some F100 := by kernel_rfl
attribute [local go_sem ↓] u100_0 u100_1 u100_2 u100_3 u100_4 u100_5 u100_6 u100_7 u100_8 u100_9 u100_10 u100_11 v100_0 v100_1 v100_2 v100_3 v100_4 v100_5 v100_6 v100_7 v100_8 v100_9 v100_10 v100_11 v100_12 v100_13 v100_14 v100_15
theorem c_pairsTextI {ty : Nat} (l : List Pair) (v : AV) (h : H) (hl : Sl encP 2 ty h v l) (hn : l.length ≤ 8) (hk : ∀ x ∈ l, x.name.size ≤ 6 ∧ -100 < x.value ∧ x.value < 100) : callK (bm Tryd.prog 100 [v] h) fun r h' => Grow h h' ∧ r = .one (.str (prsT l)) := by
  refine bm_of cF100 ?_
  simp +contextual (maxSteps := 2000000) only [go_sem, Nat.reduceEqDiff, reduceCtorEq, Nat.reduceAdd, Nat.reduceLeDiff, F100, hl.len]
  refine wpC_loop (fun i T L h' => Grow h h' ∧ T 6 = .v v ∧ (∃ s, T 3 = .v s ∧ NwS h h' s ((l.take i).map pairT)) ∧ T 7 = .v (.one (.int .i64 l.length)) ∧ T 8 = .v (.one (.int .i64 i))) l.length ?_ ?_ (Nat.zero_le _) ?_
  · rintro i T L h' hi ⟨gh, t6, ⟨s, t3, z⟩, t7, t8⟩
    have k := hl.grow gh
    have hx := hk _ (List.getElem_mem hi)
    have e1 := str_add (s := l[i].name) (t := strOfNums [61]) (by rw [strOfNums_size]; simp; omega)
    have e2 := str_add (s := l[i].name ++ strOfNums [61]) (t := numB l[i].value) (by have := numB_size l[i].value; rw [ByteArray.size_append, strOfNums_size]; simp; omega)
    have e3 : l[i].name ++ strOfNums [61] ++ numB l[i].value = pairT l[i] := rfl
    rw [e3] at e2
    simp +contextual (maxSteps := 2000000) only [go_sem, Nat.reduceEqDiff, reduceCtorEq, Nat.reduceAdd, Nat.reduceLeDiff, t6, t3, t7, t8, k.len, k.iaddr hi, k.whole hi, encP, lt_true hi, c_itoa l[i].value hx.2.1 hx.2.2, e1, e2]
    refine wp_lit (enc := encS) (k := 1) (l := [pairT l[i]]) rfl rfl ?_
    intro h2 w2 g2 n2 _
    simp +contextual (maxSteps := 2000000) only [go_sem, Nat.reduceEqDiff, reduceCtorEq, Nat.reduceAdd, Nat.reduceLeDiff, t6, t3, t7, t8]
    refine wp_append lenS (z.grow g2) (n2.sl lenS) (gh.trans g2) (by simp; omega) ?_
    intro h3 s3 g3 n3 _ _
    simp +contextual (maxSteps := 2000000) only [go_sem, Nat.reduceEqDiff, reduceCtorEq, Nat.reduceAdd, Nat.reduceLeDiff, t6, t3, t7, t8]
    rw [wrap_next hi (by omega)]
    exact ⟨g3, ⟨s3, rfl, by rw [map_next pairT hi]; exact n3⟩, rfl⟩
  · rintro T L h' ⟨gh, t6, ⟨s, t3, z⟩, t7, t8⟩
    rw [List.take_length] at z
    have hz := prsT_size hn fun p hp => (hk p hp).1
    unfold prsT at hz
    simp +contextual (maxSteps := 2000000) only [go_sem, Nat.reduceEqDiff, reduceCtorEq, Nat.reduceAdd, Nat.reduceLeDiff, t6, t3, t7, t8, lt_false, c_join s (strOfNums [32]) _ h' (z.sl lenS) (by omega) (by simp; omega)]
    exact gcK_of ⟨gh, rfl⟩ (fun _ _ => ⟨Grow.refl h, rfl⟩)
  · simp +contextual (maxSteps := 2000000) only [go_sem, Nat.reduceEqDiff, reduceCtorEq, Nat.reduceAdd, Nat.reduceLeDiff]
    first | exact ⟨Grow.refl h, _, rfl, .nil⟩ | exact ⟨Grow.refl h, ⟨_, rfl, .nil⟩, rfl⟩
/-! spec.argText -/
def L96_0 : List AStep := [⟨.box 99 (.t 0), (some 1), none, []⟩, ⟨.mov (.c (.str (strOfNums []))), (some 2), none, []⟩]
theorem v96_0 : VS L96_0.eq_1 := rfl
def L96_1 : List AStep := [⟨.faddr 0 (.t 1), (some 5), none, []⟩, ⟨.load 1 false (.t 5), (some 6), none, []⟩]
theorem v96_1 : VS L96_1.eq_1 := rfl
def L96_2 : List AStep := [⟨.bin .eql (.t 6) (.c (.int .i64 0)), (some 8), none, []⟩, ⟨.mov (.t 8), (some 7), none, []⟩]
theorem v96_2 : VS L96_2.eq_1 := rfl
def L96_3 : List AStep := [⟨.call 68 [(.t 12)], (some 13), none, []⟩, ⟨.mov (.t 13), (some 2), none, []⟩]
theorem v96_3 : VS L96_3.eq_1 := rfl
def L96_4 : List AStep := ⟨.iaddr 1 (.t 10) (.c (.int .i64 0)), (some 11), none, []⟩ :: ⟨.load 1 false (.t 11), (some 12), none, []⟩ :: L96_3
theorem v96_4 : VS L96_4.eq_1 := rfl
def L96_5 : List AStep := ⟨.faddr 2 (.t 1), (some 9), none, []⟩ :: ⟨.load 1 false (.t 9), (some 10), none, []⟩ :: L96_4
theorem v96_5 : VS L96_5.eq_1 := rfl
def L96_6 : List AStep := [⟨.bin .eql (.t 6) (.c (.int .i64 1)), (some 15), none, []⟩, ⟨.mov (.t 15), (some 14), none, []⟩]
theorem v96_6 : VS L96_6.eq_1 := rfl
def L96_7 : List AStep := [⟨.mov (.t 21), (some 2), none, []⟩]
theorem v96_7 : VS L96_7.eq_1 := rfl
def L96_8 : List AStep := ⟨.bin .add (.c (.str (strOfNums [42, 91]))) (.t 19), (some 20), none, []⟩ :: ⟨.bin .add (.t 20) (.c (.str (strOfNums [93]))), (some 21), none, []⟩ :: L96_7
theorem v96_8 : VS L96_8.eq_1 := rfl
def L96_9 : List AStep := ⟨.call 120 [(.t 17)], (some 18), none, []⟩ :: ⟨.call 79 [(.t 18), (.c (.str (strOfNums [32])))], (some 19), none, []⟩ :: L96_8
theorem v96_9 : VS L96_9.eq_1 := rfl
def L96_10 : List AStep := ⟨.faddr 2 (.t 1), (some 16), none, []⟩ :: ⟨.load 1 false (.t 16), (some 17), none, []⟩ :: L96_9
theorem v96_10 : VS L96_10.eq_1 := rfl
def L96_11 : List AStep := [⟨.bin .eql (.t 6) (.c (.int .i64 2)), (some 23), none, []⟩, ⟨.mov (.t 23), (some 22), none, []⟩]
theorem v96_11 : VS L96_11.eq_1 := rfl
def L96_12 : List AStep := [⟨.bin .add (.t 26) (.t 31), (some 32), none, []⟩, ⟨.mov (.t 32), (some 2), none, []⟩]
theorem v96_12 : VS L96_12.eq_1 := rfl
def L96_13 : List AStep := ⟨.load 1 false (.t 29), (some 30), none, []⟩ :: ⟨.call 68 [(.t 30)], (some 31), none, [(.load 1 false (.t 24), (some 25), none)]⟩ :: L96_12
theorem v96_13 : VS L96_13.eq_1 := rfl
def L96_14 : List AStep := ⟨.load 1 false (.t 27), (some 28), none, []⟩ :: ⟨.iaddr 1 (.t 28) (.c (.int .i64 0)), (some 29), none, []⟩ :: L96_13
theorem v96_14 : VS L96_14.eq_1 := rfl
def L96_15 : List AStep := ⟨.bin .add (.t 25) (.c (.str (strOfNums [61]))), (some 26), none, []⟩ :: ⟨.faddr 2 (.t 1), (some 27), none, []⟩ :: L96_14
theorem v96_15 : VS L96_15.eq_1 := rfl
def L96_16 : List AStep := ⟨.faddr 1 (.t 1), (some 24), none, []⟩ :: ⟨.load 1 false (.t 24), (some 25), none, []⟩ :: L96_15
theorem v96_16 : VS L96_16.eq_1 := rfl
def L96_17 : List AStep := [⟨.buildSlice 9 0 [(.str (strOfNums []))] [], (some 33), none, []⟩, ⟨.mov (.t 33), (some 3), none, []⟩]
theorem v96_17 : VS L96_17.eq_1 := rfl
def L96_18 : List AStep := [⟨.mov (.c (.int .i64 0)), (some 4), none, []⟩]
theorem v96_18 : VS L96_18.eq_1 := rfl
def L96_19 : List AStep := [⟨.bin .lss (.t 34) (.t 37), (some 38), none, []⟩]
theorem v96_19 : VS L96_19.eq_1 := rfl
def L96_20 : List AStep := ⟨.load 1 false (.t 35), (some 36), none, []⟩ :: ⟨.len (.t 36), (some 37), none, []⟩ :: L96_19
theorem v96_20 : VS L96_20.eq_1 := rfl
def L96_21 : List AStep := ⟨.mov (.t 4), (some 34), none, []⟩ :: ⟨.faddr 3 (.t 1), (some 35), none, []⟩ :: L96_20
theorem v96_21 : VS L96_21.eq_1 := rfl
def L96_22 : List AStep := [⟨.mov (.t 58), (some 3), none, []⟩]
theorem v96_22 : VS L96_22.eq_1 := rfl
def L96_23 : List AStep := ⟨.buildSlice 9 1 [(.str (strOfNums []))] [(0, 1, (.t 56))], (some 57), none, []⟩ :: ⟨.append 9 1 16 (.t 41) (.t 57), (some 58), none, []⟩ :: L96_22
theorem v96_23 : VS L96_23.eq_1 := rfl
def L96_24 : List AStep := ⟨.call 68 [(.t 54)], (some 55), none, [(.load 1 false (.t 42), (some 43), none), (.load 1 false (.t 46), (some 47), none)]⟩ :: ⟨.bin .add (.t 48) (.t 55), (some 56), none, []⟩ :: L96_23
theorem v96_24 : VS L96_24.eq_1 := rfl
def L96_25 : List AStep := ⟨.faddr 1 (.t 52), (some 53), none, []⟩ :: ⟨.load 1 false (.t 53), (some 54), none, []⟩ :: L96_24
theorem v96_25 : VS L96_25.eq_1 := rfl
def L96_26 : List AStep := ⟨.mov (.t 4), (some 51), none, []⟩ :: ⟨.iaddr 2 (.t 50) (.t 51), (some 52), none, []⟩ :: L96_25
theorem v96_26 : VS L96_26.eq_1 := rfl
def L96_27 : List AStep := ⟨.faddr 3 (.t 1), (some 49), none, []⟩ :: ⟨.load 1 false (.t 49), (some 50), none, []⟩ :: L96_26
theorem v96_27 : VS L96_27.eq_1 := rfl
def L96_28 : List AStep := ⟨.load 1 false (.t 46), (some 47), none, []⟩ :: ⟨.bin .add (.t 47) (.c (.str (strOfNums [61]))), (some 48), none, []⟩ :: L96_27
theorem v96_28 : VS L96_28.eq_1 := rfl
def L96_29 : List AStep := ⟨.iaddr 2 (.t 43) (.t 44), (some 45), none, []⟩ :: ⟨.faddr 0 (.t 45), (some 46), none, []⟩ :: L96_28
theorem v96_29 : VS L96_29.eq_1 := rfl
def L96_30 : List AStep := ⟨.load 1 false (.t 42), (some 43), none, []⟩ :: ⟨.mov (.t 4), (some 44), none, []⟩ :: L96_29
theorem v96_30 : VS L96_30.eq_1 := rfl
def L96_31 : List AStep := ⟨.mov (.t 3), (some 41), none, []⟩ :: ⟨.faddr 3 (.t 1), (some 42), none, []⟩ :: L96_30
theorem v96_31 : VS L96_31.eq_1 := rfl
def L96_32 : List AStep := [⟨.mov (.t 40), (some 4), none, []⟩]
theorem v96_32 : VS L96_32.eq_1 := rfl
def L96_33 : List AStep := ⟨.mov (.t 4), (some 39), none, []⟩ :: ⟨.bin .add (.t 39) (.c (.int .i64 1)), (some 40), none, []⟩ :: L96_32
theorem v96_33 : VS L96_33.eq_1 := rfl
def L96_34 : List AStep := [⟨.mov (.t 62), (some 2), none, []⟩]
theorem v96_34 : VS L96_34.eq_1 := rfl
def L96_35 : List AStep := ⟨.bin .add (.c (.str (strOfNums [42, 42, 123]))) (.t 60), (some 61), none, []⟩ :: ⟨.bin .add (.t 61) (.c (.str (strOfNums [125]))), (some 62), none, []⟩ :: L96_34
theorem v96_35 : VS L96_35.eq_1 := rfl
def L96_36 : List AStep := ⟨.mov (.t 3), (some 59), none, []⟩ :: ⟨.call 79 [(.t 59), (.c (.str (strOfNums [32])))], (some 60), none, []⟩ :: L96_35
theorem v96_36 : VS L96_36.eq_1 := rfl
def C96_0 : ACode := .seq (.reg L96_5) .ret
theorem u96_0 : VC C96_0.eq_1 := rfl
def C96_1 : ACode := .seq (.reg L96_10) .ret
theorem u96_1 : VC C96_1.eq_1 := rfl
def C96_2 : ACode := .seq (.reg L96_16) .ret
theorem u96_2 : VC C96_2.eq_1 := rfl
def C96_3 : ACode := .cond (.t 22) C96_2 .skip
theorem u96_3 : VC C96_3.eq_1 := rfl
def C96_4 : ACode := .seq (.reg L96_11) C96_3
theorem u96_4 : VC C96_4.eq_1 := rfl
def C96_5 : ACode := .cond (.t 14) C96_1 C96_4
theorem u96_5 : VC C96_5.eq_1 := rfl
def C96_6 : ACode := .seq (.reg L96_6) C96_5
theorem u96_6 : VC C96_6.eq_1 := rfl
def C96_7 : ACode := .cond (.t 7) C96_0 C96_6
theorem u96_7 : VC C96_7.eq_1 := rfl
def C96_8 : ACode := .seq (.reg L96_2) C96_7
theorem u96_8 : VC C96_8.eq_1 := rfl
def C96_9 : ACode := .block 0 C96_8
theorem u96_9 : VC C96_9.eq_1 := rfl
def C96_10 : ACode := .seq (.reg L96_1) C96_9
theorem u96_10 : VC C96_10.eq_1 := rfl
def C96_11 : ACode := .cond (.t 38) .skip (.exit 1)
theorem u96_11 : VC C96_11.eq_1 := rfl
def C96_12 : ACode := .seq (.reg L96_21) C96_11
theorem u96_12 : VC C96_12.eq_1 := rfl
def C96_13 : ACode := .block 2 (.reg L96_31)
theorem u96_13 : VC C96_13.eq_1 := rfl
def C96_14 : ACode := .seq C96_13 (.reg L96_33)
theorem u96_14 : VC C96_14.eq_1 := rfl
def C96_15 : ACode := .seq C96_12 C96_14
theorem u96_15 : VC C96_15.eq_1 := rfl
def C96_16 : ACode := .block 1 (.loop C96_15)
theorem u96_16 : VC C96_16.eq_1 := rfl
def C96_17 : ACode := .seq (.reg L96_18) C96_16
theorem u96_17 : VC C96_17.eq_1 := rfl
def C96_18 : ACode := .seq (.reg L96_36) .ret
theorem u96_18 : VC C96_18.eq_1 := rfl
def C96_19 : ACode := .seq C96_17 C96_18
theorem u96_19 : VC C96_19.eq_1 := rfl
def C96_20 : ACode := .seq (.reg L96_17) C96_19
theorem u96_20 : VC C96_20.eq_1 := rfl
def C96_21 : ACode := .seq C96_10 C96_20
theorem u96_21 : VC C96_21.eq_1 := rfl
def C96_22 : ACode := .seq (.reg L96_0) C96_21
theorem u96_22 : VC C96_22.eq_1 := rfl
def F96 : AFunc := ⟨63, [.tmp 2], C96_22⟩
theorem cF96 : compB Tryd.prog 96 = some F96 := by kernel_rfl
attribute [local go_sem ↓] u96_0 u96_1 u96_2 u96_3 u96_4 u96_5 u96_6 u96_7 u96_8 u96_9 u96_10 u96_11 u96_12 u96_13 u96_14 u96_15 u96_16 u96_17 u96_18 u96_19 u96_20 u96_21 u96_22 v96_0 v96_1 v96_2 v96_3 v96_4 v96_5 v96_6 v96_7 v96_8 v96_9 v96_10 v96_11 v96_12 v96_13 v96_14 v96_15 v96_16 v96_17 v96_18 v96_19 v96_20 v96_21 v96_22 v96_23 v96_24 v96_25 v96_26 v96_27 v96_28 v96_29 v96_30 v96_31 v96_32 v96_33 v96_34 v96_35 v96_36
theorem c_argText (r : RArg) (a : Arg) (h : H) (y : AtC 3 151 h r a) (o : ArgOk a) : callK (bm Tryd.prog 96 [.agg (encC r)] h) fun q h' => Grow h h' ∧ q = .one (.str (argT a)) := by
  refine bm_of cF96 ?_
  have ek : r.kind = a.kind := y.kind
  have en : r.name = a.name := y.name
  unfold argT
  by_cases k1 : a.kind = 1
  · rw [if_pos k1]
    have hz := numsT_size o.list
    have e1 := str_add (s := strOfNums [42, 91]) (t := numsT a.list) (by rw [strOfNums_size]; simp; omega)
    have e2 := str_add (s := strOfNums [42, 91] ++ numsT a.list) (t := strOfNums [93]) (by rw [ByteArray.size_append, strOfNums_size, strOfNums_size]; simp; omega)
    simp +contextual (maxSteps := 2000000) only [go_sem, Nat.reduceEqDiff, reduceCtorEq, Nat.reduceAdd, Nat.reduceLeDiff, F96, encC, ek, en, decide_eq_false (show ¬ a.kind = 0 by omega), decide_eq_true k1]
    refine wp_call (c_numbersText a.list (.one r.lv) h y.list o.list o.nums) ?_
    rintro q h1 ⟨g1, n1⟩
    have ej := c_joinWith q (strOfNums [32]) (a.list.map numB) h1 (n1.sl lenS) (by rw [strOfNums_size]; decide) (by have := o.list; simp; omega) (fun s hs => by
      obtain ⟨n, _, rfl⟩ := List.mem_map.1 hs
      have := numB_size n; omega)
    rw [show joinB (strOfNums [32]) (a.list.map numB) = numsT a.list from rfl] at ej
    simp +contextual (maxSteps := 2000000) only [go_sem, Nat.reduceEqDiff, reduceCtorEq, Nat.reduceAdd, Nat.reduceLeDiff, ej, e1, e2]
    exact gcK_of ⟨g1, rfl⟩ (fun _ _ => ⟨Grow.refl h, rfl⟩)
  rw [if_neg k1]
  by_cases k02 : a.kind = 0 ∨ a.kind = 2
  · have h1 := o.one k02
    obtain ⟨n, hn⟩ := List.length_eq_one_iff.1 h1
    have hx := o.nums n (by rw [hn]; simp)
    have i0 : iaddrO 1 (.one r.lv) (.one (.int .i64 0)) = some (.one (.ptr (some (elem 1 (.one r.lv) 0)))) := y.list.iaddr (i := 0) (by omega) (kd := .i64)
    have f0 : loadO 1 false h (.one (.ptr (some (elem 1 (.one r.lv) 0)))) = some (.one (.int .i64 n)) := by
      have := y.list.one (i := 0) (by omega) rfl
      simpa [hn] using this
    rcases k02 with k0 | k2
    · rw [if_neg (by omega), if_neg (by omega), hn, numsT_one]
      simp +contextual (maxSteps := 2000000) only [go_sem, Nat.reduceEqDiff, reduceCtorEq, Nat.reduceAdd, Nat.reduceLeDiff, F96, encC, ek, en, decide_eq_true k0, i0, f0, c_number n hx.1 hx.2]
      first | exact gcK_of ⟨Grow.refl h, rfl⟩ (fun _ _ => ⟨Grow.refl h, rfl⟩) | exact ⟨Grow.refl h, rfl⟩ | exact Grow.refl h | skip
    · have hm := o.name k2
      have e1 := str_add (s := a.name) (t := strOfNums [61]) (by rw [strOfNums_size]; simp; omega)
      have e2 := str_add (s := a.name ++ strOfNums [61]) (t := numB n) (by have := numB_size n; rw [ByteArray.size_append, strOfNums_size]; simp; omega)
      rw [if_pos k2, hn, numsT_one]
      simp +contextual (maxSteps := 2000000) only [go_sem, Nat.reduceEqDiff, reduceCtorEq, Nat.reduceAdd, Nat.reduceLeDiff, F96, encC, ek, en, decide_eq_false (show ¬ a.kind = 0 by omega), decide_eq_false k1, decide_eq_true k2, i0, f0, c_number n hx.1 hx.2, e1, e2]
      first | exact gcK_of ⟨Grow.refl h, rfl⟩ (fun _ _ => ⟨Grow.refl h, rfl⟩) | exact ⟨Grow.refl h, rfl⟩ | exact Grow.refl h | skip
  have k3 : a.kind = 3 := by
    have := o.kind
    omega
  rw [if_neg (by omega), if_pos k3]
  have hz := prsT_size o.pairs fun p hp => (o.prs p hp).1
  have hn := o.pairs
  have e1 := str_add (s := strOfNums [42, 42, 123]) (t := prsT a.pairs) (by rw [strOfNums_size]; simp; omega)
  have e2 := str_add (s := strOfNums [42, 42, 123] ++ prsT a.pairs) (t := strOfNums [125]) (by rw [ByteArray.size_append, strOfNums_size, strOfNums_size]; simp; omega)
  simp +contextual (maxSteps := 2000000) only [go_sem, Nat.reduceEqDiff, reduceCtorEq, Nat.reduceAdd, Nat.reduceLeDiff, F96, encC, ek, en, decide_eq_false (show ¬ a.kind = 0 by omega), decide_eq_false k1, decide_eq_false (show ¬ a.kind = 2 by omega)]
  refine wp_lit (enc := encS) (k := 1) (l := []) rfl rfl ?_
  intro h1 w1 g1 n1 _
  simp +contextual (maxSteps := 2000000) only [go_sem, Nat.reduceEqDiff, reduceCtorEq, Nat.reduceAdd, Nat.reduceLeDiff]
  refine wpC_loop (fun i T L h' => Grow h h' ∧ T 1 = .lp 1 0 ∧ (L 1).2 = [.int .i64 a.kind, .str a.name, r.lv, r.pv] ∧ (∃ s, T 3 = .v s ∧ NwS h h' s ((a.pairs.take i).map pairT)) ∧ T 4 = .v (.one (.int .i64 i))) a.pairs.length ?_ ?_ (Nat.zero_le _) ?_
  · rintro i T L h' hi ⟨gh, t1, l1, ⟨s, t3, z⟩, t4⟩
    have k := y.pairs.grow gh
    have hx := o.prs _ (List.getElem_mem hi)
    have e3 := str_add (s := a.pairs[i].name) (t := strOfNums [61]) (by rw [strOfNums_size]; simp; omega)
    have e4 := str_add (s := a.pairs[i].name ++ strOfNums [61]) (t := numB a.pairs[i].value) (by have := numB_size a.pairs[i].value; rw [ByteArray.size_append, strOfNums_size]; simp; omega)
    have e5 : a.pairs[i].name ++ strOfNums [61] ++ numB a.pairs[i].value = pairT a.pairs[i] := rfl
    rw [e5] at e4
    simp +contextual (maxSteps := 2000000) only [go_sem, Nat.reduceEqDiff, reduceCtorEq, Nat.reduceAdd, Nat.reduceLeDiff, t1, l1, t3, t4, k.len, k.iaddr hi, k.field0 hi (encP_0 _), k.fieldO hi, lt_true hi, c_number a.pairs[i].value hx.2.1 hx.2.2, e3, e4]
    refine wp_lit (enc := encS) (k := 1) (l := [pairT a.pairs[i]]) rfl rfl ?_
    intro h2 w2 g2 n2 _
    simp +contextual (maxSteps := 2000000) only [go_sem, Nat.reduceEqDiff, reduceCtorEq, Nat.reduceAdd, Nat.reduceLeDiff, t1, l1, t3, t4]
    refine wp_append lenS (z.grow g2) (n2.sl lenS) (gh.trans g2) (by simp; omega) ?_
    intro h3 s3 g3 n3 _ _
    simp +contextual (maxSteps := 2000000) only [go_sem, Nat.reduceEqDiff, reduceCtorEq, Nat.reduceAdd, Nat.reduceLeDiff, t1, l1, t3, t4]
    rw [wrap_next hi (by omega)]
    exact ⟨g3, ⟨s3, rfl, by rw [map_next pairT hi]; exact n3⟩, rfl⟩
  · rintro T L h' ⟨gh, t1, l1, ⟨s, t3, z⟩, t4⟩
    have k := y.pairs.grow gh
    rw [List.take_length] at z
    have ej := c_joinWith s (strOfNums [32]) (a.pairs.map pairT) h' (z.sl lenS) (by rw [strOfNums_size]; decide) (by simp; omega) (fun x hx => by
      obtain ⟨p, hp, rfl⟩ := List.mem_map.1 hx
      have := pairT_size p
      have := (o.prs p hp).1
      omega)
    rw [show joinB (strOfNums [32]) (a.pairs.map pairT) = prsT a.pairs from rfl] at ej
    simp +contextual (maxSteps := 2000000) only [go_sem, Nat.reduceEqDiff, reduceCtorEq, Nat.reduceAdd, Nat.reduceLeDiff, t1, l1, t3, t4, k.len, lt_false, ej, e1, e2]
    exact gcK_of ⟨gh, rfl⟩ (fun _ _ => ⟨Grow.refl h, rfl⟩)
  · simp +contextual (maxSteps := 2000000) only [go_sem, Nat.reduceEqDiff, reduceCtorEq, Nat.reduceAdd, Nat.reduceLeDiff]
    first | exact ⟨g1, _, rfl, n1⟩ | exact ⟨g1, ⟨_, rfl, n1⟩, rfl⟩ | exact ⟨g1, rfl, ⟨_, rfl, n1⟩, rfl⟩ | exact ⟨g1, rfl, _, rfl, n1⟩
/-! (impl.Arg).text -/
def L64_0 : List AStep := [⟨.box 99 (.t 0), (some 1), none, []⟩, ⟨.mov (.c (.str (strOfNums []))), (some 2), none, []⟩]
theorem v64_0 : VS L64_0.eq_1 := rfl
def L64_1 : List AStep := [⟨.faddr 0 (.t 1), (some 3), none, []⟩, ⟨.load 1 false (.t 3), (some 4), none, []⟩]
theorem v64_1 : VS L64_1.eq_1 := rfl
def L64_2 : List AStep := [⟨.bin .eql (.t 4) (.c (.int .i64 1)), (some 6), none, []⟩, ⟨.mov (.t 6), (some 5), none, []⟩]
theorem v64_2 : VS L64_2.eq_1 := rfl
def L64_3 : List AStep := [⟨.bin .add (.t 10) (.c (.str (strOfNums [93]))), (some 11), none, []⟩, ⟨.mov (.t 11), (some 2), none, []⟩]
theorem v64_3 : VS L64_3.eq_1 := rfl
def L64_4 : List AStep := ⟨.call 99 [(.t 8)], (some 9), none, []⟩ :: ⟨.bin .add (.c (.str (strOfNums [42, 91]))) (.t 9), (some 10), none, []⟩ :: L64_3
theorem v64_4 : VS L64_4.eq_1 := rfl
def L64_5 : List AStep := ⟨.faddr 2 (.t 1), (some 7), none, []⟩ :: ⟨.load 1 false (.t 7), (some 8), none, []⟩ :: L64_4
theorem v64_5 : VS L64_5.eq_1 := rfl
def L64_6 : List AStep := [⟨.bin .eql (.t 4) (.c (.int .i64 2)), (some 13), none, []⟩, ⟨.mov (.t 13), (some 12), none, []⟩]
theorem v64_6 : VS L64_6.eq_1 := rfl
def L64_7 : List AStep := [⟨.bin .add (.t 16) (.t 19), (some 20), none, []⟩, ⟨.mov (.t 20), (some 2), none, []⟩]
theorem v64_7 : VS L64_7.eq_1 := rfl
def L64_8 : List AStep := ⟨.load 1 false (.t 17), (some 18), none, []⟩ :: ⟨.call 99 [(.t 18)], (some 19), none, [(.load 1 false (.t 14), (some 15), none)]⟩ :: L64_7
theorem v64_8 : VS L64_8.eq_1 := rfl
def L64_9 : List AStep := ⟨.bin .add (.t 15) (.c (.str (strOfNums [61]))), (some 16), none, []⟩ :: ⟨.faddr 2 (.t 1), (some 17), none, []⟩ :: L64_8
theorem v64_9 : VS L64_9.eq_1 := rfl
def L64_10 : List AStep := ⟨.faddr 1 (.t 1), (some 14), none, []⟩ :: ⟨.load 1 false (.t 14), (some 15), none, []⟩ :: L64_9
theorem v64_10 : VS L64_10.eq_1 := rfl
def L64_11 : List AStep := [⟨.bin .eql (.t 4) (.c (.int .i64 3)), (some 22), none, []⟩, ⟨.mov (.t 22), (some 21), none, []⟩]
theorem v64_11 : VS L64_11.eq_1 := rfl
def L64_12 : List AStep := [⟨.bin .add (.t 26) (.c (.str (strOfNums [125]))), (some 27), none, []⟩, ⟨.mov (.t 27), (some 2), none, []⟩]
theorem v64_12 : VS L64_12.eq_1 := rfl
def L64_13 : List AStep := ⟨.call 100 [(.t 24)], (some 25), none, []⟩ :: ⟨.bin .add (.c (.str (strOfNums [42, 42, 123]))) (.t 25), (some 26), none, []⟩ :: L64_12
theorem v64_13 : VS L64_13.eq_1 := rfl
def L64_14 : List AStep := ⟨.faddr 3 (.t 1), (some 23), none, []⟩ :: ⟨.load 1 false (.t 23), (some 24), none, []⟩ :: L64_13
theorem v64_14 : VS L64_14.eq_1 := rfl
def L64_15 : List AStep := [⟨.call 99 [(.t 29)], (some 30), none, []⟩, ⟨.mov (.t 30), (some 2), none, []⟩]
theorem v64_15 : VS L64_15.eq_1 := rfl
def L64_16 : List AStep := ⟨.faddr 2 (.t 1), (some 28), none, []⟩ :: ⟨.load 1 false (.t 28), (some 29), none, []⟩ :: L64_15
theorem v64_16 : VS L64_16.eq_1 := rfl
def C64_0 : ACode := .seq (.reg L64_5) .ret
theorem u64_0 : VC C64_0.eq_1 := rfl
def C64_1 : ACode := .seq (.reg L64_10) .ret
theorem u64_1 : VC C64_1.eq_1 := rfl
def C64_2 : ACode := .seq (.reg L64_14) .ret
theorem u64_2 : VC C64_2.eq_1 := rfl
def C64_3 : ACode := .cond (.t 21) C64_2 .skip
theorem u64_3 : VC C64_3.eq_1 := rfl
def C64_4 : ACode := .seq (.reg L64_11) C64_3
theorem u64_4 : VC C64_4.eq_1 := rfl
def C64_5 : ACode := .cond (.t 12) C64_1 C64_4
theorem u64_5 : VC C64_5.eq_1 := rfl
def C64_6 : ACode := .seq (.reg L64_6) C64_5
theorem u64_6 : VC C64_6.eq_1 := rfl
def C64_7 : ACode := .cond (.t 5) C64_0 C64_6
theorem u64_7 : VC C64_7.eq_1 := rfl
def C64_8 : ACode := .seq (.reg L64_2) C64_7
theorem u64_8 : VC C64_8.eq_1 := rfl
def C64_9 : ACode := .block 0 C64_8
theorem u64_9 : VC C64_9.eq_1 := rfl
def C64_10 : ACode := .seq (.reg L64_1) C64_9
theorem u64_10 : VC C64_10.eq_1 := rfl
def C64_11 : ACode := .seq (.reg L64_16) .ret
theorem u64_11 : VC C64_11.eq_1 := rfl
def C64_12 : ACode := .seq C64_10 C64_11
theorem u64_12 : VC C64_12.eq_1 := rfl
def C64_13 : ACode := .seq (.reg L64_0) C64_12
theorem u64_13 : VC C64_13.eq_1 := rfl
def F64 : AFunc := ⟨31, [.tmp 2], C64_13⟩
theorem cF64 : compB Tryd.prog 64 = some F64 := by kernel_rfl
attribute [local go_sem ↓] u64_0 u64_1 u64_2 u64_3 u64_4 u64_5 u64_6 u64_7 u64_8 u64_9 u64_10 u64_11 u64_12 u64_13 v64_0 v64_1 v64_2 v64_3 v64_4 v64_5 v64_6 v64_7 v64_8 v64_9 v64_10 v64_11 v64_12 v64_13 v64_14 v64_15 v64_16
theorem c_argTextI (r : RArg) (a : Arg) (h : H) (y : AtC 3 151 h r a) (o : ArgOk a) : callK (bm Tryd.prog 64 [.agg (encC r)] h) fun q h' => Grow h h' ∧ q = .one (.str (argT a)) := by
  refine bm_of cF64 ?_
  have ek : r.kind = a.kind := y.kind
  have en : r.name = a.name := y.name
  have hz := numsT_size o.list
  have cn := c_numbersTextI a.list (.one r.lv) h y.list o.list o.nums
  unfold argT
  by_cases k1 : a.kind = 1
  · rw [if_pos k1]
    have e1 := str_add (s := strOfNums [42, 91]) (t := numsT a.list) (by rw [strOfNums_size]; simp; omega)
    have e2 := str_add (s := strOfNums [42, 91] ++ numsT a.list) (t := strOfNums [93]) (by rw [ByteArray.size_append, strOfNums_size, strOfNums_size]; simp; omega)
    simp +contextual (maxSteps := 2000000) only [go_sem, Nat.reduceEqDiff, reduceCtorEq, Nat.reduceAdd, Nat.reduceLeDiff, F64, encC, ek, en, decide_eq_true k1]
    refine wp_call cn ?_
    rintro q h1 ⟨g1, rfl⟩
    simp +contextual (maxSteps := 2000000) only [go_sem, Nat.reduceEqDiff, reduceCtorEq, Nat.reduceAdd, Nat.reduceLeDiff, e1, e2]
    exact gcK_of ⟨g1, rfl⟩ (fun _ _ => ⟨Grow.refl h, rfl⟩)
  rw [if_neg k1]
  by_cases k2 : a.kind = 2
  · rw [if_pos k2]
    have hm := o.name k2
    have e1 := str_add (s := a.name) (t := strOfNums [61]) (by rw [strOfNums_size]; simp; omega)
    have e2 := str_add (s := a.name ++ strOfNums [61]) (t := numsT a.list) (by rw [ByteArray.size_append, strOfNums_size]; simp; omega)
    simp +contextual (maxSteps := 2000000) only [go_sem, Nat.reduceEqDiff, reduceCtorEq, Nat.reduceAdd, Nat.reduceLeDiff, F64, encC, ek, en, decide_eq_false k1, decide_eq_true k2, e1]
    refine wp_call cn ?_
    rintro q h1 ⟨g1, rfl⟩
    simp +contextual (maxSteps := 2000000) only [go_sem, Nat.reduceEqDiff, reduceCtorEq, Nat.reduceAdd, Nat.reduceLeDiff, e2]
    exact gcK_of ⟨g1, rfl⟩ (fun _ _ => ⟨Grow.refl h, rfl⟩)
  rw [if_neg k2]
  by_cases k3 : a.kind = 3
  · rw [if_pos k3]
    have hp := prsT_size o.pairs fun p hp => (o.prs p hp).1
    have e1 := str_add (s := strOfNums [42, 42, 123]) (t := prsT a.pairs) (by rw [strOfNums_size]; simp; omega)
    have e2 := str_add (s := strOfNums [42, 42, 123] ++ prsT a.pairs) (t := strOfNums [125]) (by rw [ByteArray.size_append, strOfNums_size, strOfNums_size]; simp; omega)
    simp +contextual (maxSteps := 2000000) only [go_sem, Nat.reduceEqDiff, reduceCtorEq, Nat.reduceAdd, Nat.reduceLeDiff, F64, encC, ek, en, decide_eq_false k1, decide_eq_false k2, decide_eq_true k3]
    refine wp_call (c_pairsTextI a.pairs (.one r.pv) h y.pairs o.pairs o.prs) ?_
    rintro q h1 ⟨g1, rfl⟩
    simp +contextual (maxSteps := 2000000) only [go_sem, Nat.reduceEqDiff, reduceCtorEq, Nat.reduceAdd, Nat.reduceLeDiff, e1, e2]
    exact gcK_of ⟨g1, rfl⟩ (fun _ _ => ⟨Grow.refl h, rfl⟩)
  rw [if_neg k3]
  simp +contextual (maxSteps := 2000000) only [go_sem, Nat.reduceEqDiff, reduceCtorEq, Nat.reduceAdd, Nat.reduceLeDiff, F64, encC, ek, en, decide_eq_false k1, decide_eq_false k2, decide_eq_false k3]
  refine wp_call cn ?_
  rintro q h1 ⟨g1, rfl⟩
  simp +contextual (maxSteps := 2000000) only [go_sem, Nat.reduceEqDiff, reduceCtorEq, Nat.reduceAdd, Nat.reduceLeDiff]
  exact gcK_of ⟨g1, rfl⟩ (fun _ _ => ⟨Grow.refl h, rfl⟩)
end Go.Proofs.YtoeceafibmafpaaDoor.Am
