/- Contracts: signatures of wrappers, of the program. -/
import Derived.Test.YtekkimfdcbgcoabWR
import Derived.Test.YtekkimfdcbgcoabDS
namespace Go.Proofs.Ytekkimfdcbgcoab.Am
open Go
set_option maxRecDepth 100000
set_option maxHeartbeats 4000000
set_option linter.unusedSimpArgs false
set_option linter.unusedVariables false
attribute [local go_sem ↓] bv_t bv_c ev_t ev_c put_same put_ne put_none kill_at pro_at lb_same lb_ne start_zero start_succ wpC_seq wpC_reg wpC_cond wpC_block wpC_skip wpC_exit wpC_ret thenQ_normal thenQ_exit thenQ_ret inBlk_normal inBlk_exit inBlk_ret wpS_nil wpS_step wpS_again wpS_guard wpO_mov wpO_load wpO_faddr wpO_nilCheck wpO_pick wpO_build wpO_bin wpO_eqb wpO_eqst wpO_eqnil wpO_not wpO_conv wpO_bytesStr wpO_iaddr wpO_idxStr wpO_field wpO_extract wpO_len wpO_lenStr wpO_cap wpO_min wpO_slice wpO_sliceStr wpO_alloc wpO_box wpO_store wpO_call wpO_callv wpO_mkfn wpO_buildSlice wpO_mkslice wpO_append wpO_appz proA_nil proA_cons tmpX_nil tmpX_tmp tmpX_cell doneB_normal doneB_ret agK_cons agK_nil agK_guard agG_tt agG_ff agG_tf agG_ft agG_undef pureB_load results_one results_two results_nil resBs_cons resBs_nil resB_tmp resB_cell
attribute [local go_sem] kill_v kill_lp_ne kill_lp_same pro_v pro_lp_same pro_lp_ne av_v av_lp optB_some optX_some valX_eq ldX_lp ldX_v faX_lp faX_v ncX_lp ncX_ptr ncX_fn boxK_one boxK_agg stL_some stK_lp_one stK_lp_agg stK_v_one stK_v_agg proM_v proM_lp callG_mk callVG_mk callvK_fn fnG_mk ptrsA_nil ptrsA_cons callH_some whenA_true whenA_false guardH_tt guardH_ff guardH_tf guardH_ft guardH_undef agV_one agV_agg lenO_sl lenStrO_str notO_bool pickO_bool convO_int eqbO_bool eqnilO_sl extractO_tup capO_sl minO_int loadL_one loadL_all storeL_eq fillA_nil fillA_one fillA_agg nat_ge neg_ge nat_lt neg_lt buildO bin_add bin_sub bin_mul bin_eql bin_neq bin_lss bin_leq bin_gtr bin_geq str_eql str_neq str_lss str_leq str_gtr str_geq retK_some endK_mk gcK_same gcK_int gcK_bool tupO_one tupO_agg rdy_self ib ii Option.map_none Option.map_some Option.some.injEq exists_eq_left' exists_eq_left ne_eq not_false_eq_true if_true if_false List.map_cons List.map_nil List.getElem?_cons_zero List.getElem?_cons_succ List.length_cons List.length_nil List.take_succ_cons List.take_zero List.take_nil List.drop_succ_cons List.drop_zero List.drop_nil List.cons_append List.nil_append List.append_nil List.set_cons_zero List.set_cons_succ Nat.zero_add forall_const true_and and_true and_self Bool.false_eq_true false_implies true_implies implies_true Bool.not_true Bool.not_false Bool.not_eq_true' Bool.not_eq_false' beq_self_eq_true Bool.bne_true Bool.bne_false
attribute [local go_sem] lenI lenS lenP lenQ lenB lenL lenT encI_0 encS_0 encP_0 encP_1 encQ_0 encQ_1 encQ_2 encQ_3 encB_0 encB_1 encL_0 encL_1 encT_0 encT_1
attribute [local go_sem low] whenA_bool guardH_bool
/-- The signature under way lies in a box. -/
structure WB (h h' : H) (bx : Nat) (P : H → Prop) (av : Nat → Prop) (cur : List Param) : Prop where
  g : Grow h h'
  lo : h.n ≤ bx
  ex : ∃ w, Box h' bx [w] 25 ∧ NwQ h h' (.one w) cur ∧ ∀ i, baseOf (.one w) = some i → i ≠ bx ∧ av i
  p : P h'
theorem WB.next {h h' : H} {bx : Nat} {P : H → Prop} {av : Nat → Prop} {cur : List Param} (x : WB h h' bx P av cur) (cs : List CV) (ty : Nat) : WB h (h'.alloc cs ty) bx (fun a => Box a h'.n cs ty) (fun i => i ≠ h'.n) cur := by
  obtain ⟨w, b, n, e⟩ := x.ex
  have G := Grow.alloc h' cs ty
  refine ⟨x.g.trans G, x.lo, ⟨w, b.grow G, n.grow G, fun i hi => ⟨(e i hi).1, ?_⟩⟩, Box.new⟩
  have := (n.lt hi).1
  omega
theorem WB.start {h : H} : WB h (h.alloc [.sl none 0 (some 0)] 25) h.n (fun _ => True) (fun _ => True) [] :=
  ⟨Grow.alloc _ _ _, Nat.le_refl _, ⟨_, Box.new, .nil, fun i hi => by simp [baseOf] at hi⟩, trivial⟩
/-! impl.WrappedSignature$1 -/
def L91_0 : List AStep := [⟨.box 25 (.t 0), (some 3), none, []⟩]
theorem v91_0 : VS L91_0.eq_1 := rfl
def L91_1 : List AStep := [⟨.len (.t 8), (some 9), none, []⟩, ⟨.mov (.c (.int .i64 0)), (some 10), none, []⟩]
theorem v91_1 : VS L91_1.eq_1 := rfl
def L91_2 : List AStep := ⟨.faddr 0 (.t 3), (some 7), none, []⟩ :: ⟨.load 1 false (.t 7), (some 8), none, []⟩ :: L91_1
theorem v91_2 : VS L91_2.eq_1 := rfl
def L91_3 : List AStep := [⟨.bin .lss (.t 10) (.t 9), (some 11), none, []⟩]
theorem v91_3 : VS L91_3.eq_1 := rfl
def L91_4 : List AStep := [⟨.alloc 39 [(.str (strOfNums [])), (.int .i64 0), (.bool false), (.int .i64 0)], (some 6), none, []⟩, ⟨.store 4 (.t 6) (.t 13), none, none, []⟩]
theorem v91_4 : VS L91_4.eq_1 := rfl
def L91_5 : List AStep := ⟨.iaddr 4 (.t 8) (.t 10), (some 12), none, []⟩ :: ⟨.load 4 true (.t 12), (some 13), none, []⟩ :: L91_4
theorem v91_5 : VS L91_5.eq_1 := rfl
def L91_6 : List AStep := [⟨.callv (.t 14) [(.t 15)], (some 16), none, []⟩]
theorem v91_6 : VS L91_6.eq_1 := rfl
def L91_7 : List AStep := ⟨.mov (.t 1), (some 14), none, []⟩ :: ⟨.load 4 true (.t 6), (some 15), none, []⟩ :: L91_6
theorem v91_7 : VS L91_7.eq_1 := rfl
def L91_8 : List AStep := [⟨.store 1 (.t 22) (.t 21), none, none, []⟩]
theorem v91_8 : VS L91_8.eq_1 := rfl
def L91_9 : List AStep := ⟨.append 39 4 40 (.t 18) (.t 20), (some 21), none, []⟩ :: ⟨.faddr 0 (.t 2), (some 22), none, []⟩ :: L91_8
theorem v91_9 : VS L91_9.eq_1 := rfl
def L91_10 : List AStep := ⟨.load 4 true (.t 6), (some 19), none, []⟩ :: ⟨.buildSlice 39 1 [(.str (strOfNums [])), (.int .i64 0), (.bool false), (.int .i64 0)] [(0, 4, (.t 19))], (some 20), none, []⟩ :: L91_9
theorem v91_10 : VS L91_10.eq_1 := rfl
def L91_11 : List AStep := ⟨.faddr 0 (.t 2), (some 17), none, []⟩ :: ⟨.load 1 false (.t 17), (some 18), none, []⟩ :: L91_10
theorem v91_11 : VS L91_11.eq_1 := rfl
def L91_12 : List AStep := [⟨.bin .add (.t 10) (.c (.int .i64 1)), (some 23), none, []⟩, ⟨.mov (.t 23), (some 10), none, []⟩]
theorem v91_12 : VS L91_12.eq_1 := rfl
def C91_0 : ACode := .cond (.t 11) .skip (.exit 0)
theorem u91_0 : VC C91_0.eq_1 := rfl
def C91_1 : ACode := .cond (.t 16) (.reg L91_11) .skip
theorem u91_1 : VC C91_1.eq_1 := rfl
def C91_2 : ACode := .seq (.reg L91_7) C91_1
theorem u91_2 : VC C91_2.eq_1 := rfl
def C91_3 : ACode := .seq (.reg L91_5) C91_2
theorem u91_3 : VC C91_3.eq_1 := rfl
def C91_4 : ACode := .block 1 C91_3
theorem u91_4 : VC C91_4.eq_1 := rfl
def C91_5 : ACode := .seq C91_4 (.reg L91_12)
theorem u91_5 : VC C91_5.eq_1 := rfl
def C91_6 : ACode := .seq C91_0 C91_5
theorem u91_6 : VC C91_6.eq_1 := rfl
def C91_7 : ACode := .seq (.reg L91_3) C91_6
theorem u91_7 : VC C91_7.eq_1 := rfl
def C91_8 : ACode := .block 0 (.loop C91_7)
theorem u91_8 : VC C91_8.eq_1 := rfl
def C91_9 : ACode := .seq (.reg L91_2) C91_8
theorem u91_9 : VC C91_9.eq_1 := rfl
def C91_10 : ACode := .seq (.reg L91_0) C91_9
theorem u91_10 : VC C91_10.eq_1 := rfl
def F91 : AFunc := ⟨24, [], C91_10⟩
theorem cF91 : compB Try.prog 91 = some F91 := by kernel_rfl
attribute [local go_sem ↓] u91_0 u91_1 u91_2 u91_3 u91_4 u91_5 u91_6 u91_7 u91_8 u91_9 u91_10 v91_0 v91_1 v91_2 v91_3 v91_4 v91_5 v91_6 v91_7 v91_8 v91_9 v91_10 v91_11 v91_12
theorem c_add (l : List Param) (q : CV) (f : Nat) (caps : List (Nat × Nat)) (may : Param → Bool) (P : H → Prop) (av : Nat → Prop) (bx : Nat) (h h1 : H) (cur : List Param)
    (hf : ∀ h', P h' → ∀ x, bm Try.prog f (.agg (encQ x) :: caps.map fun a => .one (.ptr (some a))) h' = some (ib (may x), h'))
    (hS : ∀ a b s, P a → Stay s a b → (∀ i, baseOf s = some i → av i) → P b) (hN : ∀ a i, P a → a.n ≤ i → av i) (hav : av bx)
    (hl : SlG h q l) (hn : miniG l) (hc : cur.length ≤ 2 ^ 30) (x0 : WB h h1 bx P av cur) :
    callK (bm Try.prog 91 [.agg [q], .one (.fn f caps), .one (.ptr (some (bx, 0)))] h1) fun _ h' => WB h h' bx P av (cur ++ l.filter may) := by
  refine bm_of cF91 ?_
  have hlen := hn.len
  have k1 := hl.out.grow x0.g
  simp +contextual (maxSteps := 2000000) only [go_sem, Nat.reduceEqDiff, reduceCtorEq, Nat.reduceAdd, Nat.reduceLeDiff, F91, k1.len]
  refine wpC_loop (fun i T L h' => WB h h' bx P av (cur ++ (l.take i).filter may) ∧ T 1 = .v (.one (.fn f caps)) ∧ T 2 = .v (.one (.ptr (some (bx, 0)))) ∧ T 8 = .v (.one q) ∧ T 9 = .v (.one (.int .i64 l.length)) ∧ T 10 = .v (.one (.int .i64 i))) l.length ?_ ?_ (Nat.zero_le _) ?_
  · rintro i T L h' hi ⟨x, t1, t2, t8, t9, t10⟩
    have k := hl.out.grow x.g
    have es := hf h' x.p l[i]
    simp only [encQ] at es
    have hx : ((l.take i).filter may).length ≤ i := Nat.le_trans (List.length_filter_le _ _) (by simp; omega)
    have en : (cur ++ (l.take (i + 1)).filter may) = (cur ++ (l.take i).filter may) ++ if may l[i] = true then [l[i]] else [] := by
      rw [List.take_succ_eq_append_getElem hi, List.filter_append, ← List.append_assoc]
      cases b : may l[i] <;> simp [List.filter, b]
    cases b : may l[i] with
    | false =>
      rw [b] at en
      simp +contextual (maxSteps := 2000000) only [go_sem, Nat.reduceEqDiff, reduceCtorEq, Nat.reduceAdd, Nat.reduceLeDiff, t1, t2, t8, t9, t10, lt_true hi, k.iaddr hi, k.whole hi, encQ, es, b]
      exact ⟨by rw [en]; simp only [Bool.false_eq_true, if_false, List.append_nil]; exact x, by rw [wrap_next hi (by omega)]⟩
    | true =>
      rw [b] at en
      obtain ⟨w, bb, z, e⟩ := x.ex
      have bl := bb.lt
      have eld : loadO 1 false h' (.one (.ptr (some (bx, 0)))) = some (.one w) := bb.one rfl
      simp +contextual (maxSteps := 2000000) only [go_sem, Nat.reduceEqDiff, reduceCtorEq, Nat.reduceAdd, Nat.reduceLeDiff, t1, t2, t8, t9, t10, lt_true hi, k.iaddr hi, k.whole hi, encQ, es, b, eld]
      refine wp_lit (enc := encQ) (k := 4) (l := [l[i]]) rfl rfl ?_
      intro h3 w3 g3 n3 _
      simp +contextual (maxSteps := 2000000) only [go_sem, Nat.reduceEqDiff, reduceCtorEq, Nat.reduceAdd, Nat.reduceLeDiff, t1, t2, t8, t9, t10]
      refine wp_append lenQ (z.grow g3) (n3.sl lenQ) (x.g.trans g3) (by simp; omega) ?_
      intro h4 s4 g4 n4 st4 hb4
      obtain ⟨c4, rfl⟩ := n4.one
      have b4 := (bb.grow g3).stay st4 fun e2 => (e _ e2).1 rfl
      simp +contextual (maxSteps := 2000000) only [go_sem, Nat.reduceEqDiff, reduceCtorEq, Nat.reduceAdd, Nat.reduceLeDiff, t1, t2, t8, t9, t10]
      refine wp_boxset (m := 1) (vs := [c4]) b4 rfl (by simp) ?_
      intro h5 st5 en5 b5
      have b5 : Box h5 bx [c4] 25 := by simpa using b5
      have hb5 : ∀ i, baseOf (.one c4) = some i → i ≠ bx ∧ av i := fun i hi => by
        rcases hb4 i hi with c | c
        · exact e i c
        · exact ⟨by have := g3.n; omega, hN h3 i (hS _ _ (.tup []) x.p (g3.stay _) fun i hi => by simp [baseOf] at hi) c⟩
      have lo := x.lo
      have p3 : P h3 := hS _ _ (.tup []) x.p (g3.stay _) fun i hi => by simp [baseOf] at hi
      have p4 : P h4 := hS _ _ _ p3 st4 fun i hi => (e i hi).2
      have p5 : P h5 := hS _ _ _ p4 st5 fun i hi => by simp [bR, baseOf] at hi; rw [← hi]; exact hav
      have g5 : Grow h h5 := ⟨Nat.le_trans g4.n st5.n, fun i hi => (st5.f i (Nat.lt_of_lt_of_le hi g4.n) fun e => by simp [bR, baseOf] at e; omega).trans (g4.f i hi)⟩
      have n5 := n4.stay st5 fun i hi e => by have := (hb5 i hi).1; simp [bR, baseOf] at e; omega
      have x5 : WB h h5 bx P av (cur ++ (l.take (i + 1)).filter may) := ⟨g5, x.lo, ⟨c4, b5, by rw [en]; exact n5, hb5⟩, p5⟩
      simp +contextual (maxSteps := 2000000) only [go_sem, Nat.reduceEqDiff, reduceCtorEq, Nat.reduceAdd, Nat.reduceLeDiff, t1, t2, t8, t9, t10]
      exact ⟨x5, by rw [wrap_next hi (by omega)]⟩
  · rintro T L h' ⟨x, t1, t2, t8, t9, t10⟩
    rw [List.take_length] at x
    simp +contextual (maxSteps := 2000000) only [go_sem, Nat.reduceEqDiff, reduceCtorEq, Nat.reduceAdd, Nat.reduceLeDiff, t1, t2, t8, t9, t10, lt_false]
    refine gcK_of x fun _ gg => ?_
    obtain ⟨w1, b1, n1, _⟩ := x0.ex
    obtain ⟨w2, b2, n2, _⟩ := x.ex
    have e := gg.f bx b1.lt
    rw [b1.eq, show (rdy h').f bx = _ from b2.eq] at e
    have e : w2 = w1 := by simpa using e
    subst e
    have e1 := n1.length
    rw [n2.length, List.length_append] at e1
    have e2 : (l.filter may).length = 0 := by simp only [ii, Option.some.injEq, AV.one.injEq, CV.int.injEq, true_and] at e1; omega
    rw [List.length_eq_zero_iff.1 e2, List.append_nil]
    exact x0
  · simp +contextual (maxSteps := 2000000) only [go_sem, Nat.reduceEqDiff, reduceCtorEq, Nat.reduceAdd, Nat.reduceLeDiff]
    have x1 : WB h h1 bx P av (cur ++ (l.take 0).filter may) := by simpa using x0
    exact ⟨x1, rfl⟩
theorem kindOk (p : Nat) (cs : List CV) (ty : Nat) : ∀ a b s, Box a p cs ty → Stay s a b → (∀ i, baseOf s = some i → i ≠ p) → Box b p cs ty := fun _ _ _ x st h => x.stay st fun e => h p e rfl
/-! impl.WrappedSignature$2 -/
def L92_0 : List AStep := [⟨.box 3 (.t 0), (some 1), none, []⟩, ⟨.mov (.c .nilf), (some 2), none, []⟩]
theorem v92_0 : VS L92_0.eq_1 := rfl
def L92_1 : List AStep := [⟨.mkfn 93 [(.t 1)], (some 3), none, []⟩, ⟨.mov (.t 3), (some 2), none, []⟩]
theorem v92_1 : VS L92_1.eq_1 := rfl
def C92_0 : ACode := .seq (.reg L92_1) .ret
theorem u92_0 : VC C92_0.eq_1 := rfl
def C92_1 : ACode := .seq (.reg L92_0) C92_0
theorem u92_1 : VC C92_1.eq_1 := rfl
def F92 : AFunc := ⟨4, [.tmp 2], C92_1⟩
theorem cF92 : compB Try.prog 92 = some F92 := by kernel_rfl
attribute [local go_sem ↓] u92_0 u92_1 v92_0 v92_1
theorem c_kind (k : Int) (h : H) : callK (bm Try.prog 92 [.one (.int .i64 k)] h) fun r h' => r = .one (.fn 93 [(h.n, 0)]) ∧ h' = h.alloc [.int .i64 k] 3 := by
  refine bm_of cF92 ?_
  simp +contextual (maxSteps := 2000000) only [go_sem, Nat.reduceEqDiff, reduceCtorEq, Nat.reduceAdd, Nat.reduceLeDiff, F92]
  exact gcK_of ⟨rfl, rfl⟩ (fun hs _ => by simp [AV.scalar, CV.scalar] at hs)
/-! impl.WrappedSignature$2$1 -/
def L93_0 : List AStep := [⟨.box 39 (.t 0), (some 2), none, []⟩, ⟨.mov (.c (.bool false)), (some 3), none, []⟩]
theorem v93_0 : VS L93_0.eq_1 := rfl
def L93_1 : List AStep := [⟨.mov (.t 7), (some 3), none, []⟩]
theorem v93_1 : VS L93_1.eq_1 := rfl
def L93_2 : List AStep := ⟨.load 1 false (.t 1), (some 6), none, []⟩ :: ⟨.bin .eql (.t 5) (.t 6), (some 7), none, []⟩ :: L93_1
theorem v93_2 : VS L93_2.eq_1 := rfl
def L93_3 : List AStep := ⟨.faddr 1 (.t 2), (some 4), none, []⟩ :: ⟨.load 1 false (.t 4), (some 5), none, []⟩ :: L93_2
theorem v93_3 : VS L93_3.eq_1 := rfl
def C93_0 : ACode := .seq (.reg L93_3) .ret
theorem u93_0 : VC C93_0.eq_1 := rfl
def C93_1 : ACode := .seq (.reg L93_0) C93_0
theorem u93_1 : VC C93_1.eq_1 := rfl
def F93 : AFunc := ⟨8, [.tmp 3], C93_1⟩
theorem cF93 : compB Try.prog 93 = some F93 := by kernel_rfl
attribute [local go_sem ↓] u93_0 u93_1 v93_0 v93_1 v93_2 v93_3
theorem c_kind1 (x : Param) (a : Nat × Nat) (k : Int) (h : H) (ha : loadO 1 false h (.one (.ptr (some a))) = some (.one (.int .i64 k))) : bm Try.prog 93 [.agg (encQ x), .one (.ptr (some a))] h = some (ib (decide (x.kind = k)), h) := by
  refine bm_eq cF93 ?_
  simp +contextual (maxSteps := 2000000) only [go_sem, Nat.reduceEqDiff, reduceCtorEq, Nat.reduceAdd, Nat.reduceLeDiff, F93, ha]
theorem ofK_kind {l : List Param} {k : Int} : l.filter (fun x => decide (x.kind = k)) = ofK l k k := List.filter_congr fun x _ => by rw [Bool.or_self]
/-! impl.WrappedSignature -/
def L39_0 : List AStep := [⟨.alloc 25 [(.sl none 0 (some 0))], (some 4), none, []⟩, ⟨.mov (.c (.bool false)), (some 5), none, []⟩]
theorem v39_0 : VS L39_0.eq_1 := rfl
def L39_1 : List AStep := ⟨.box 25 (.t 0), (some 2), none, []⟩ :: ⟨.box 25 (.t 1), (some 3), none, []⟩ :: L39_0
theorem v39_1 : VS L39_1.eq_1 := rfl
def L39_2 : List AStep := [⟨.not (.t 14), (some 15), (some (12, false)), []⟩, ⟨.pick (.t 12) (.c (.bool true)) (.t 15), (some 16), none, []⟩]
theorem v39_2 : VS L39_2.eq_1 := rfl
def L39_3 : List AStep := ⟨.load 1 true (.t 3), (some 13), (some (12, false)), []⟩ :: ⟨.call 31 [(.t 13)], (some 14), (some (12, false)), []⟩ :: L39_2
theorem v39_3 : VS L39_3.eq_1 := rfl
def L39_4 : List AStep := ⟨.not (.t 10), (some 11), none, []⟩ :: ⟨.mov (.t 11), (some 12), none, []⟩ :: L39_3
theorem v39_4 : VS L39_4.eq_1 := rfl
def L39_5 : List AStep := ⟨.load 1 true (.t 2), (some 9), none, []⟩ :: ⟨.call 48 [(.t 9)], (some 10), none, []⟩ :: L39_4
theorem v39_5 : VS L39_5.eq_1 := rfl
def L39_6 : List AStep := [⟨.mov (.c (.bool false)), (some 5), none, []⟩]
theorem v39_6 : VS L39_6.eq_1 := rfl
def L39_7 : List AStep := ⟨.build [(.sl none 0 (some 0))] [], (some 17), none, []⟩ :: ⟨.store 1 (.t 4) (.t 17), none, none, []⟩ :: L39_6
theorem v39_7 : VS L39_7.eq_1 := rfl
def L39_8 : List AStep := [⟨.alloc 25 [(.sl none 0 (some 0))], (some 6), none, []⟩]
theorem v39_8 : VS L39_8.eq_1 := rfl
def L39_9 : List AStep := [⟨.mkfn 91 [(.t 6)], (some 18), none, []⟩, ⟨.mov (.t 18), (some 7), none, []⟩]
theorem v39_9 : VS L39_9.eq_1 := rfl
def L39_10 : List AStep := [⟨.mov (.c (.fn 92 [])), (some 8), none, []⟩]
theorem v39_10 : VS L39_10.eq_1 := rfl
def L39_11 : List AStep := [⟨.callv (.t 19) [(.t 20), (.c (.fn 51 []))], (some 21), none, []⟩]
theorem v39_11 : VS L39_11.eq_1 := rfl
def L39_12 : List AStep := ⟨.mov (.t 7), (some 19), none, []⟩ :: ⟨.load 1 true (.t 2), (some 20), none, []⟩ :: L39_11
theorem v39_12 : VS L39_12.eq_1 := rfl
def L39_13 : List AStep := [⟨.callv (.t 22) [(.t 23), (.c (.fn 51 []))], (some 24), none, []⟩]
theorem v39_13 : VS L39_13.eq_1 := rfl
def L39_14 : List AStep := ⟨.mov (.t 7), (some 22), none, []⟩ :: ⟨.load 1 true (.t 3), (some 23), none, []⟩ :: L39_13
theorem v39_14 : VS L39_14.eq_1 := rfl
def L39_15 : List AStep := [⟨.callv (.t 25) [(.t 26), (.t 28)], (some 29), none, []⟩]
theorem v39_15 : VS L39_15.eq_1 := rfl
def L39_16 : List AStep := ⟨.mov (.t 8), (some 27), none, []⟩ :: ⟨.callv (.t 27) [(.c (.int .i64 2))], (some 28), none, [(.load 1 true (.t 3), (some 26), none)]⟩ :: L39_15
theorem v39_16 : VS L39_16.eq_1 := rfl
def L39_17 : List AStep := ⟨.mov (.t 7), (some 25), none, []⟩ :: ⟨.load 1 true (.t 3), (some 26), none, []⟩ :: L39_16
theorem v39_17 : VS L39_17.eq_1 := rfl
def L39_18 : List AStep := [⟨.callv (.t 30) [(.t 31), (.t 33)], (some 34), none, []⟩]
theorem v39_18 : VS L39_18.eq_1 := rfl
def L39_19 : List AStep := ⟨.mov (.t 8), (some 32), none, []⟩ :: ⟨.callv (.t 32) [(.c (.int .i64 3))], (some 33), none, [(.load 1 true (.t 2), (some 31), none)]⟩ :: L39_18
theorem v39_19 : VS L39_19.eq_1 := rfl
def L39_20 : List AStep := ⟨.mov (.t 7), (some 30), none, []⟩ :: ⟨.load 1 true (.t 2), (some 31), none, []⟩ :: L39_19
theorem v39_20 : VS L39_20.eq_1 := rfl
def L39_21 : List AStep := [⟨.callv (.t 35) [(.t 36), (.t 38)], (some 39), none, []⟩]
theorem v39_21 : VS L39_21.eq_1 := rfl
def L39_22 : List AStep := ⟨.mov (.t 8), (some 37), none, []⟩ :: ⟨.callv (.t 37) [(.c (.int .i64 3))], (some 38), none, [(.load 1 true (.t 3), (some 36), none)]⟩ :: L39_21
theorem v39_22 : VS L39_22.eq_1 := rfl
def L39_23 : List AStep := ⟨.mov (.t 7), (some 35), none, []⟩ :: ⟨.load 1 true (.t 3), (some 36), none, []⟩ :: L39_22
theorem v39_23 : VS L39_23.eq_1 := rfl
def L39_24 : List AStep := [⟨.callv (.t 40) [(.t 41), (.t 43)], (some 44), none, []⟩]
theorem v39_24 : VS L39_24.eq_1 := rfl
def L39_25 : List AStep := ⟨.mov (.t 8), (some 42), none, []⟩ :: ⟨.callv (.t 42) [(.c (.int .i64 4))], (some 43), none, [(.load 1 true (.t 3), (some 41), none)]⟩ :: L39_24
theorem v39_25 : VS L39_25.eq_1 := rfl
def L39_26 : List AStep := ⟨.mov (.t 7), (some 40), none, []⟩ :: ⟨.load 1 true (.t 3), (some 41), none, []⟩ :: L39_25
theorem v39_26 : VS L39_26.eq_1 := rfl
def L39_27 : List AStep := [⟨.not (.t 46), (some 47), none, []⟩]
theorem v39_27 : VS L39_27.eq_1 := rfl
def L39_28 : List AStep := ⟨.load 1 true (.t 6), (some 45), none, []⟩ :: ⟨.call 31 [(.t 45)], (some 46), none, []⟩ :: L39_27
theorem v39_28 : VS L39_28.eq_1 := rfl
def L39_29 : List AStep := [⟨.mov (.c (.bool false)), (some 5), none, []⟩]
theorem v39_29 : VS L39_29.eq_1 := rfl
def L39_30 : List AStep := ⟨.build [(.sl none 0 (some 0))] [], (some 48), none, []⟩ :: ⟨.store 1 (.t 4) (.t 48), none, none, []⟩ :: L39_29
theorem v39_30 : VS L39_30.eq_1 := rfl
def L39_31 : List AStep := [⟨.store 1 (.t 4) (.t 50), none, none, []⟩, ⟨.mov (.c (.bool true)), (some 5), none, []⟩]
theorem v39_31 : VS L39_31.eq_1 := rfl
def L39_32 : List AStep := ⟨.load 1 true (.t 6), (some 49), none, []⟩ :: ⟨.call 60 [(.t 49)], (some 50), none, []⟩ :: L39_31
theorem v39_32 : VS L39_32.eq_1 := rfl
def C39_0 : ACode := .seq (.reg L39_7) .ret
theorem u39_0 : VC C39_0.eq_1 := rfl
def C39_1 : ACode := .cond (.t 16) C39_0 .skip
theorem u39_1 : VC C39_1.eq_1 := rfl
def C39_2 : ACode := .seq (.reg L39_5) C39_1
theorem u39_2 : VC C39_2.eq_1 := rfl
def C39_3 : ACode := .seq (.reg L39_30) .ret
theorem u39_3 : VC C39_3.eq_1 := rfl
def C39_4 : ACode := .cond (.t 47) C39_3 .skip
theorem u39_4 : VC C39_4.eq_1 := rfl
def C39_5 : ACode := .seq (.reg L39_28) C39_4
theorem u39_5 : VC C39_5.eq_1 := rfl
def C39_6 : ACode := .seq (.reg L39_32) .ret
theorem u39_6 : VC C39_6.eq_1 := rfl
def C39_7 : ACode := .seq C39_5 C39_6
theorem u39_7 : VC C39_7.eq_1 := rfl
def C39_8 : ACode := .seq (.reg L39_26) C39_7
theorem u39_8 : VC C39_8.eq_1 := rfl
def C39_9 : ACode := .seq (.reg L39_23) C39_8
theorem u39_9 : VC C39_9.eq_1 := rfl
def C39_10 : ACode := .seq (.reg L39_20) C39_9
theorem u39_10 : VC C39_10.eq_1 := rfl
def C39_11 : ACode := .seq (.reg L39_17) C39_10
theorem u39_11 : VC C39_11.eq_1 := rfl
def C39_12 : ACode := .seq (.reg L39_14) C39_11
theorem u39_12 : VC C39_12.eq_1 := rfl
def C39_13 : ACode := .seq (.reg L39_12) C39_12
theorem u39_13 : VC C39_13.eq_1 := rfl
def C39_14 : ACode := .seq (.reg L39_10) C39_13
theorem u39_14 : VC C39_14.eq_1 := rfl
def C39_15 : ACode := .seq (.reg L39_9) C39_14
theorem u39_15 : VC C39_15.eq_1 := rfl
def C39_16 : ACode := .seq (.reg L39_8) C39_15
theorem u39_16 : VC C39_16.eq_1 := rfl
def C39_17 : ACode := .seq C39_2 C39_16
theorem u39_17 : VC C39_17.eq_1 := rfl
def C39_18 : ACode := .seq (.reg L39_1) C39_17
theorem u39_18 : VC C39_18.eq_1 := rfl
def F39 : AFunc := ⟨51, [.cell 4 1 true, .tmp 5], C39_18⟩
theorem cF39 : compB Try.prog 39 = some F39 := by kernel_rfl
attribute [local go_sem ↓] u39_0 u39_1 u39_2 u39_3 u39_4 u39_5 u39_6 u39_7 u39_8 u39_9 u39_10 u39_11 u39_12 u39_13 u39_14 u39_15 u39_16 u39_17 u39_18 v39_0 v39_1 v39_2 v39_3 v39_4 v39_5 v39_6 v39_7 v39_8 v39_9 v39_10 v39_11 v39_12 v39_13 v39_14 v39_15 v39_16 v39_17 v39_18 v39_19 v39_20 v39_21 v39_22 v39_23 v39_24 v39_25 v39_26 v39_27 v39_28 v39_29 v39_30 v39_31 v39_32
theorem k_iWrappedSignature (l m : List Param) (q q2 : CV) (h : H) (hl : SlG h q l) (hm : SlG h q2 m) (hn : miniG l) (hk : miniG m) :
    callK (bm Try.prog 39 [.agg [q], .agg [q2]] h) fun r h' => Grow h h' ∧ ∃ w, r = .tup [.agg [w], .one (.bool (wrapOk l m))] ∧ NwQ h h' (.one w) (wrapSig l m) := by
  refine bm_of cF39 ?_
  have e1 := c_IsWrapper l q h hl hn
  have e2 := c_ValidSignature m q2 h hm.out hk.sm
  have ln := fun a b => (hn.ofK (a := a) (b := b)).len
  have lk := fun a b => (hk.ofK (a := a) (b := b)).len
  unfold wrapSig wrapOk
  cases b1 : isWrap l with
  | false =>
    simp +contextual (maxSteps := 2000000) only [go_sem, Nat.reduceEqDiff, reduceCtorEq, Nat.reduceAdd, Nat.reduceLeDiff, F39, e1, b1, Bool.false_and]
    exact ⟨Grow.refl h, _, rfl, .nil⟩
  | true =>
  cases b2 : okSig m with
  | false =>
    simp +contextual (maxSteps := 2000000) only [go_sem, Nat.reduceEqDiff, reduceCtorEq, Nat.reduceAdd, Nat.reduceLeDiff, F39, e1, b1, e2, b2, Bool.false_and, Bool.true_and]
    exact ⟨Grow.refl h, _, rfl, .nil⟩
  | true =>
  simp +contextual (maxSteps := 2000000) only [go_sem, Nat.reduceEqDiff, reduceCtorEq, Nat.reduceAdd, Nat.reduceLeDiff, F39, e1, b1, e2, b2, Bool.true_and]
  refine wp_call (c_add l q 51 [] byPlace (fun _ => True) (fun _ => True) h.n h _ [] (fun h' _ x => c_placed x h') (fun _ _ _ _ _ _ => trivial) (fun _ _ _ _ => trivial) trivial hl hn (by simp) .start) ?_
  rintro r h1 x1
  simp +contextual (maxSteps := 2000000) only [go_sem, Nat.reduceEqDiff, reduceCtorEq, Nat.reduceAdd, Nat.reduceLeDiff]
  refine wp_call (c_add m q2 51 [] byPlace (fun _ => True) (fun _ => True) h.n h h1 _ (fun h' _ x => c_placed x h') (fun _ _ _ _ _ _ => trivial) (fun _ _ _ _ => trivial) trivial hm hk (by have := ln 0 1; have : (l.filter byPlace).length ≤ 1048576 := this; simp; omega) x1) ?_
  rintro r h2 x2
  have c0 : h.n < h2.n := by obtain ⟨_, b, _⟩ := x2.ex; exact b.lt
  simp +contextual (maxSteps := 2000000) only [go_sem, Nat.reduceEqDiff, reduceCtorEq, Nat.reduceAdd, Nat.reduceLeDiff]
  refine wp_call (c_kind 2 h2) ?_
  rintro r h3 ⟨rfl, rfl⟩
  have x3 := x2.next [.int .i64 2] 3
  simp +contextual (maxSteps := 2000000) only [go_sem, Nat.reduceEqDiff, reduceCtorEq, Nat.reduceAdd, Nat.reduceLeDiff]
  refine wp_call (c_add m q2 93 [(h2.n, 0)] (fun x => decide (x.kind = 2)) _ _ h.n h _ _ (fun h' p x => c_kind1 x (h2.n, 0) 2 h' (p.one rfl)) (kindOk _ _ _) (fun a i p hi e => by have := p.lt; omega) (by omega) hm hk (by have := ln 0 1; have : (l.filter byPlace).length ≤ 1048576 := this; have := lk 0 1; have : (m.filter byPlace).length ≤ 1048576 := this; simp; omega) x3) ?_
  rintro r h4 x4
  have c4 : h.n < h4.n := by obtain ⟨_, b, _⟩ := x4.ex; exact b.lt
  simp +contextual (maxSteps := 2000000) only [go_sem, Nat.reduceEqDiff, reduceCtorEq, Nat.reduceAdd, Nat.reduceLeDiff]
  refine wp_call (c_kind 3 h4) ?_
  rintro r h5 ⟨rfl, rfl⟩
  have x5 := x4.next [.int .i64 3] 3
  rw [ofK_kind] at x5
  simp +contextual (maxSteps := 2000000) only [go_sem, Nat.reduceEqDiff, reduceCtorEq, Nat.reduceAdd, Nat.reduceLeDiff]
  refine wp_call (c_add l q 93 [(h4.n, 0)] (fun x => decide (x.kind = 3)) _ _ h.n h _ _ (fun h' p x => c_kind1 x (h4.n, 0) 3 h' (p.one rfl)) (kindOk _ _ _) (fun a i p hi e => by have := p.lt; omega) (by omega) hl hn (by have := ln 0 1; have : (l.filter byPlace).length ≤ 1048576 := this; have := lk 0 1; have : (m.filter byPlace).length ≤ 1048576 := this; have := lk 2 2; simp; omega) x5) ?_
  rintro r h6 x6
  have c6 : h.n < h6.n := by obtain ⟨_, b, _⟩ := x6.ex; exact b.lt
  simp +contextual (maxSteps := 2000000) only [go_sem, Nat.reduceEqDiff, reduceCtorEq, Nat.reduceAdd, Nat.reduceLeDiff]
  refine wp_call (c_kind 3 h6) ?_
  rintro r h7 ⟨rfl, rfl⟩
  have x7 := x6.next [.int .i64 3] 3
  rw [ofK_kind] at x7
  simp +contextual (maxSteps := 2000000) only [go_sem, Nat.reduceEqDiff, reduceCtorEq, Nat.reduceAdd, Nat.reduceLeDiff]
  refine wp_call (c_add m q2 93 [(h6.n, 0)] (fun x => decide (x.kind = 3)) _ _ h.n h _ _ (fun h' p x => c_kind1 x (h6.n, 0) 3 h' (p.one rfl)) (kindOk _ _ _) (fun a i p hi e => by have := p.lt; omega) (by omega) hm hk (by have := ln 0 1; have : (l.filter byPlace).length ≤ 1048576 := this; have := lk 0 1; have : (m.filter byPlace).length ≤ 1048576 := this; have := lk 2 2; have := ln 3 3; simp; omega) x7) ?_
  rintro r h8 x8
  have c8 : h.n < h8.n := by obtain ⟨_, b, _⟩ := x8.ex; exact b.lt
  simp +contextual (maxSteps := 2000000) only [go_sem, Nat.reduceEqDiff, reduceCtorEq, Nat.reduceAdd, Nat.reduceLeDiff]
  refine wp_call (c_kind 4 h8) ?_
  rintro r h9 ⟨rfl, rfl⟩
  have x9 := x8.next [.int .i64 4] 3
  rw [ofK_kind] at x9
  simp +contextual (maxSteps := 2000000) only [go_sem, Nat.reduceEqDiff, reduceCtorEq, Nat.reduceAdd, Nat.reduceLeDiff]
  refine wp_call (c_add m q2 93 [(h8.n, 0)] (fun x => decide (x.kind = 4)) _ _ h.n h _ _ (fun h' p x => c_kind1 x (h8.n, 0) 4 h' (p.one rfl)) (kindOk _ _ _) (fun a i p hi e => by have := p.lt; omega) (by omega) hm hk (by have := ln 0 1; have : (l.filter byPlace).length ≤ 1048576 := this; have := lk 0 1; have : (m.filter byPlace).length ≤ 1048576 := this; have := lk 2 2; have := ln 3 3; have := lk 3 3; simp; omega) x9) ?_
  rintro r h10 x10
  rw [ofK_kind] at x10
  obtain ⟨w, bw, z, _⟩ := x10.ex
  have z : NwQ h h10 (.one w) (wrapAll l m) := z
  have G := x10.g
  have ew : loadO 1 true h10 (.one (.ptr (some (h.n, 0)))) = some (.agg [w]) := bw.all rfl
  have ev := c_ValidSignature (wrapAll l m) w h10 (z.sl lenQ) (wrapAll_sm hn hk)
  cases b3 : okSig (wrapAll l m) with
  | false =>
    simp +contextual (maxSteps := 2000000) only [go_sem, Nat.reduceEqDiff, reduceCtorEq, Nat.reduceAdd, Nat.reduceLeDiff, ew, ev, b3]
    exact gcK_of ⟨G, _, rfl, .nil⟩ (fun _ _ => ⟨Grow.refl h, _, rfl, .nil⟩)
  | true =>
    simp +contextual (maxSteps := 2000000) only [go_sem, Nat.reduceEqDiff, reduceCtorEq, Nat.reduceAdd, Nat.reduceLeDiff, ew, ev, b3]
    refine wp_call (c_copyOfS _ w h10 (z.sl lenQ) (wrapAll_sm hn hk).1) ?_
    rintro r h11 ⟨g11, c11, rfl, z11⟩
    have z11 := z11.from G.n
    simp +contextual (maxSteps := 2000000) only [go_sem, Nat.reduceEqDiff, reduceCtorEq, Nat.reduceAdd, Nat.reduceLeDiff]
    exact gcK_of ⟨G.trans g11, _, rfl, z11⟩ (fun hs _ => ⟨Grow.refl h, _, rfl, z11.scalar (by simpa [AV.scalar, AV.scalars, CV.scalar] using hs) h⟩)
end Go.Proofs.Ytekkimfdcbgcoab.Am
