/- Lists whose elements hold slices, as arguments: how much of them there is, and a copy of one's own. -/
import Derived.Test.YtoeceafibmafpaaDoorL1
import Derived.Test.YtoeceafibmafpaaDoorL2
import Derived.Test.YtoeceafibmafpaaDoorL4
import Derived.Test.YtoeceafibmafpaaDoorDom
import Derived.Test.YtoeceafibmafpaaDoorK
import Derived.Test.YtoeceafibmafpaaDoorDN
namespace Go.Proofs.YtoeceafibmafpaaDoor.Am
open Go
set_option maxRecDepth 100000
set_option maxHeartbeats 4000000
set_option linter.unusedSimpArgs false
set_option linter.unusedVariables false
attribute [local go_sem ↓] bv_t bv_c ev_t ev_c put_same put_ne put_none kill_at pro_at lb_same lb_ne start_zero start_succ wpC_seq wpC_reg wpC_cond wpC_block wpC_skip wpC_exit wpC_ret thenQ_normal thenQ_exit thenQ_ret inBlk_normal inBlk_exit inBlk_ret wpS_nil wpS_step wpS_again wpS_guard wpO_mov wpO_load wpO_faddr wpO_nilCheck wpO_pick wpO_build wpO_bin wpO_eqb wpO_eqst wpO_eqnil wpO_not wpO_conv wpO_bytesStr wpO_iaddr wpO_idxStr wpO_field wpO_extract wpO_len wpO_lenStr wpO_cap wpO_min wpO_slice wpO_sliceStr wpO_alloc wpO_box wpO_store wpO_call wpO_callv wpO_mkfn wpO_buildSlice wpO_mkslice wpO_append wpO_appz proA_nil proA_cons tmpX_nil tmpX_tmp tmpX_cell doneB_normal doneB_ret agK_cons agK_nil agK_guard agG_tt agG_ff agG_tf agG_ft agG_undef pureB_load results_one results_two results_nil resBs_cons resBs_nil resB_tmp resB_cell
attribute [local go_sem] kill_v kill_lp_ne kill_lp_same pro_v pro_lp_same pro_lp_ne av_v av_lp optB_some optX_some valX_eq ldX_lp ldX_v faX_lp faX_v ncX_lp ncX_ptr ncX_fn boxK_one boxK_agg stL_some stK_lp_one stK_lp_agg stK_v_one stK_v_agg proM_v proM_lp callG_mk callVG_mk callvK_fn fnG_mk ptrsA_nil ptrsA_cons callH_some whenA_true whenA_false guardH_tt guardH_ff guardH_tf guardH_ft guardH_undef agV_one agV_agg lenO_sl lenStrO_str notO_bool pickO_bool convO_int eqbO_bool eqnilO_sl extractO_tup capO_sl minO_int loadL_one loadL_all storeL_eq fillA_nil fillA_one fillA_agg nat_ge neg_ge nat_lt neg_lt buildO bin_add bin_sub bin_mul bin_eql bin_neq bin_lss bin_leq bin_gtr bin_geq str_eql str_neq str_lss str_leq str_gtr str_geq retK_some endK_mk gcK_same gcK_int gcK_bool tupO_one tupO_agg rdy_self ib ii Option.map_none Option.map_some Option.some.injEq exists_eq_left' exists_eq_left ne_eq not_false_eq_true if_true if_false List.map_cons List.map_nil List.getElem?_cons_zero List.getElem?_cons_succ List.length_cons List.length_nil List.take_succ_cons List.take_zero List.take_nil List.drop_succ_cons List.drop_zero List.drop_nil List.cons_append List.nil_append List.append_nil List.set_cons_zero List.set_cons_succ Nat.zero_add forall_const true_and and_true and_self Bool.false_eq_true false_implies true_implies implies_true Bool.not_true Bool.not_false Bool.not_eq_true' Bool.not_eq_false' beq_self_eq_true Bool.bne_true Bool.bne_false
attribute [local go_sem] lenI lenS lenP lenQ lenB lenL lenT encI_0 encS_0 encP_0 encP_1 encQ_0 encQ_1 encQ_2 encQ_3 encB_0 encB_1 encL_0 encL_1 encT_0 encT_1
attribute [local go_sem low] whenA_bool guardH_bool
theorem choose_list {α β : Type} {P : α → β → Prop} : ∀ {rs : List α}, (∀ r ∈ rs, ∃ a, P r a) → ∃ l : List β, l.length = rs.length ∧ ∀ i (hi : i < rs.length) (hj : i < l.length), P rs[i] l[i]
  | [], _ => ⟨[], rfl, fun i hi => absurd hi (Nat.not_lt_zero _)⟩
  | r :: rs, h => by
    obtain ⟨a, ha⟩ := h r List.mem_cons_self
    obtain ⟨l, h1, h2⟩ := choose_list fun x hx => h x (List.mem_cons_of_mem _ hx)
    refine ⟨a :: l, by simp [h1], fun i hi hj => ?_⟩
    cases i with
    | zero => exact ha
    | succ i => exact h2 i (by simpa using hi) (by simpa using hj)
theorem wsum_c {α : Type} {f g : α → Nat} {c : Nat} {l : List α} (h : ∀ x ∈ l, f x ≤ c * (1 + g x)) : wsum f l l.length ≤ c * wtL g l := by
  unfold wtL wsum
  rw [List.take_length]
  induction l with
  | nil => simp
  | cons a r ih =>
    have h1 := h a List.mem_cons_self
    have h2 := ih fun x hx => h x (List.mem_cons_of_mem _ hx)
    simp only [List.map_cons, List.sum_cons, List.length_cons] at h2 ⊢
    have e : c * (r.length + 1 + (g a + (List.map g r).sum)) = c * (1 + g a) + c * (r.length + (List.map g r).sum) := by rw [← Nat.mul_add]; congr 1; omega
    omega
theorem wtL_mem {α : Type} {g : α → Nat} {l : List α} {x : α} (hx : x ∈ l) : 1 + g x ≤ wtL g l := by
  have := wsum_mem (f := g) hx
  have : 0 < l.length := List.length_pos_of_mem hx
  unfold wtL
  omega
theorem setR {α : Type} {rs : List α} {i : Nat} {r : α} (j : Nat) (hj : j < (rs.set i r).length) : (j = i ∧ (rs.set i r)[j] = r) ∨ (j ≠ i ∧ ∃ hk : j < rs.length, (rs.set i r)[j] = rs[j]) := by
  have hk : j < rs.length := by simpa using hj
  by_cases e : j = i
  · subst e; exact .inl ⟨rfl, by simp⟩
  · exact .inr ⟨e, hk, by rw [List.getElem_set_ne (Ne.symm e)]⟩
def wtEC (a : Arg) : Nat := a.name.size + a.list.length + wtL wtP a.pairs
def wtC (l : List Arg) : Nat := wtL wtEC l
theorem getC_set {l : List Arg} {i j : Nat} {a : Arg} (hj : j < l.length) : updC (getC l) i a j = getC (l.set i a) j := by
  unfold updC getC
  by_cases e : j = i
  · subst e; rw [if_pos rfl, List.getElem?_set_self hj]; rfl
  · rw [if_neg e, List.getElem?_set_ne (Ne.symm e)]
theorem OwC.put {h0 h h1 h2 : H} {v : CV} {rs : List RArg} {n : Nat} {f : Nat → Arg} (x : OwC h0 h v rs n f) {i : Nat} (hi : i < rs.length) {r : RArg} {a : Arg} (g : Grow h h1) (y : NtC h h1 r a) (slvpv : SepC r.lv r.pv)
    (o : Nw encC 4 99 h0 h2 (.one v) (rs.set i r)) (st : Stay (.one v) h1 h2) (hg : h0.n ≤ h.n) : OwC h0 h2 v (rs.set i r) n (updC f i a) := by
  have vb : ∀ i, baseOf (.one v) = some i → i < h.n := fun i hi => (x.out.lt hi).1
  have blv : ∀ i (hi : i < rs.length) j, baseOf (.one rs[i].lv) = some j → j < h.n := fun i hi j hj => ((x.el i hi).list.lt hj).1
  have nlv : ∀ j, baseOf (.one r.lv) = some j → h.n ≤ j := fun j hj => (y.list.lt hj).2
  have bpv : ∀ i (hi : i < rs.length) j, baseOf (.one rs[i].pv) = some j → j < h.n := fun i hi j hj => ((x.el i hi).pairs.lt hj).1
  have npv : ∀ j, baseOf (.one r.pv) = some j → h.n ≤ j := fun j hj => (y.pairs.lt hj).2
  refine ⟨o, by simp [x.len], fun j hj => ?_, fun j hj => ?_, fun j hj => ?_, fun j hj => ?_, fun j k hj hk hjk => ?_, fun j k hj hk hjk => ?_, fun j k hj hk hjk => ?_, fun j k hj hk hjk => ?_⟩
  · rcases setR j hj with ⟨e, e2⟩ | ⟨e, hk, e2⟩
    · rw [e2, show updC f i a j = a from if_pos e]
      have z := y.from hg
      exact ⟨z.kind, z.name, z.list.stay st (Sep.new vb nlv).symm, z.pairs.stay st (Sep.new vb npv).symm⟩
    · rw [e2, show updC f i a j = f j from if_neg e]
      have z := (x.el j hk).grow g
      exact ⟨z.kind, z.name, z.list.stay st (x.vlv j hk).symm, z.pairs.stay st (x.vpv j hk).symm⟩
  · rcases setR j hj with ⟨e, e2⟩ | ⟨e, hk, e2⟩
    · rw [e2]; exact Sep.new vb nlv
    · rw [e2]; exact x.vlv j hk
  · rcases setR j hj with ⟨e, e2⟩ | ⟨e, hk, e2⟩
    · rw [e2]; exact Sep.new vb npv
    · rw [e2]; exact x.vpv j hk
  · rcases setR j hj with ⟨e, e2⟩ | ⟨e, hk, e2⟩
    · rw [e2]; exact slvpv
    · rw [e2]; exact x.slvpv j hk
  · rcases setR j hj with ⟨e, e2⟩ | ⟨e, hj2, e2⟩ <;> rcases setR k hk with ⟨d, d2⟩ | ⟨d, hk2, d2⟩
    · omega
    · rw [e2, d2]; exact (Sep.new (blv k hk2) nlv).symm
    · rw [e2, d2]; exact Sep.new (blv j hj2) nlv
    · rw [e2, d2]; exact x.olvlv j k hj2 hk2 hjk
  · rcases setR j hj with ⟨e, e2⟩ | ⟨e, hj2, e2⟩ <;> rcases setR k hk with ⟨d, d2⟩ | ⟨d, hk2, d2⟩
    · omega
    · rw [e2, d2]; exact (Sep.new (bpv k hk2) nlv).symm
    · rw [e2, d2]; exact Sep.new (blv j hj2) npv
    · rw [e2, d2]; exact x.olvpv j k hj2 hk2 hjk
  · rcases setR j hj with ⟨e, e2⟩ | ⟨e, hj2, e2⟩ <;> rcases setR k hk with ⟨d, d2⟩ | ⟨d, hk2, d2⟩
    · omega
    · rw [e2, d2]; exact (Sep.new (blv k hk2) npv).symm
    · rw [e2, d2]; exact Sep.new (bpv j hj2) nlv
    · rw [e2, d2]; exact x.opvlv j k hj2 hk2 hjk
  · rcases setR j hj with ⟨e, e2⟩ | ⟨e, hj2, e2⟩ <;> rcases setR k hk with ⟨d, d2⟩ | ⟨d, hk2, d2⟩
    · omega
    · rw [e2, d2]; exact (Sep.new (bpv k hk2) npv).symm
    · rw [e2, d2]; exact Sep.new (bpv j hj2) npv
    · rw [e2, d2]; exact x.opvpv j k hj2 hk2 hjk
def zrC : RArg := ⟨0, strOfNums [], .sl none 0 (some 0), .sl none 0 (some 0)⟩
def zeC : Arg := ⟨0, strOfNums [], [], []⟩
theorem NwC.zeros {h0 h : H} {v : CV} {n : Nat} (x : Nw encC 4 99 h0 h (.one v) (List.replicate n zrC)) : NwC h0 h v (List.replicate n zrC) (List.replicate n zeC) := by
  refine ⟨⟨x, by simp, fun i hi => ?_, fun i hi => ?_, fun i hi => ?_, fun i hi => ?_, fun i j hi hj hij => ?_, fun i j hi hj hij => ?_, fun i j hi hj hij => ?_, fun i j hi hj hij => ?_⟩⟩
  · have hi2 : i < (List.replicate n zeC).length := by simpa using hi
    rw [getC_eq hi2, List.getElem_replicate, List.getElem_replicate]
    exact ⟨rfl, rfl, .nil, .nil⟩
  all_goals simp only [List.getElem_replicate]
  · exact Sep.nil.symm
  · exact Sep.nil.symm
  · exact Sep.nil
  · exact Sep.nil
  · exact Sep.nil
  · exact Sep.nil
  · exact Sep.nil
theorem NwC.put {h0 h h1 h2 : H} {v : CV} {rs : List RArg} {l : List Arg} (x : NwC h0 h v rs l) {i : Nat} (hi : i < rs.length) {r : RArg} {a : Arg} (g : Grow h h1) (y : NtC h h1 r a) (slvpv : SepC r.lv r.pv)
    (o : Nw encC 4 99 h0 h2 (.one v) (rs.set i r)) (st : Stay (.one v) h1 h2) (hg : h0.n ≤ h.n) : NwC h0 h2 v (rs.set i r) (l.set i a) := by
  have := (x.out.put hi g y slvpv o st hg).congr (g := getC (l.set i a)) fun j hj => getC_set hj
  rw [show l.length = (l.set i a).length by simp] at this
  exact ⟨this⟩
theorem wtC_sm {l : List Arg} (h : wtC l ≤ 1048576) : miniC l := by
  unfold wtC at h
  have h1 : ∀ a ∈ l, wtEC a ≤ 1048576 := fun a ha => by have := wtL_mem (g := wtEC) ha; omega
  exact ⟨by unfold wtL at h; omega, fun a ha => by have := h1 a ha; unfold wtEC at this; omega, fun a ha => by have := h1 a ha; unfold wtEC  at this; omega, fun a ha => by have := h1 a ha; unfold wtEC wtL at this; omega, fun a ha x hx => by have := h1 a ha; unfold wtEC at this; have := wtL_mem (g := wtP) hx; unfold wtP at this; unfold wtP at *; omega, by
    have := wsum_c (f := cellsEC) (g := wtEC) (c := 2) (l := l) (fun a ha => by unfold cellsEC wtEC wtL; omega)
    unfold cellsC
    omega⟩
def wtEV (a : Sg) : Nat := wtL wtQ a.params
def wtV (l : List Sg) : Nat := wtL wtEV l
theorem getV_set {l : List Sg} {i j : Nat} {a : Sg} (hj : j < l.length) : updV (getV l) i a j = getV (l.set i a) j := by
  unfold updV getV
  by_cases e : j = i
  · subst e; rw [if_pos rfl, List.getElem?_set_self hj]; rfl
  · rw [if_neg e, List.getElem?_set_ne (Ne.symm e)]
theorem OwV.put {h0 h h1 h2 : H} {v : CV} {rs : List RSg} {n : Nat} {f : Nat → Sg} (x : OwV h0 h v rs n f) {i : Nat} (hi : i < rs.length) {r : RSg} {a : Sg} (g : Grow h h1) (y : NtV h h1 r a) 
    (o : Nw encV 1 38 h0 h2 (.one v) (rs.set i r)) (st : Stay (.one v) h1 h2) (hg : h0.n ≤ h.n) : OwV h0 h2 v (rs.set i r) n (updV f i a) := by
  have vb : ∀ i, baseOf (.one v) = some i → i < h.n := fun i hi => (x.out.lt hi).1
  have bqv : ∀ i (hi : i < rs.length) j, baseOf (.one rs[i].qv) = some j → j < h.n := fun i hi j hj => ((x.el i hi).params.lt hj).1
  have nqv : ∀ j, baseOf (.one r.qv) = some j → h.n ≤ j := fun j hj => (y.params.lt hj).2
  refine ⟨o, by simp [x.len], fun j hj => ?_, fun j hj => ?_, fun j k hj hk hjk => ?_⟩
  · rcases setR j hj with ⟨e, e2⟩ | ⟨e, hk, e2⟩
    · rw [e2, show updV f i a j = a from if_pos e]
      have z := y.from hg
      exact ⟨z.params.stay st (Sep.new vb nqv).symm⟩
    · rw [e2, show updV f i a j = f j from if_neg e]
      have z := (x.el j hk).grow g
      exact ⟨z.params.stay st (x.vqv j hk).symm⟩
  · rcases setR j hj with ⟨e, e2⟩ | ⟨e, hk, e2⟩
    · rw [e2]; exact Sep.new vb nqv
    · rw [e2]; exact x.vqv j hk
  · rcases setR j hj with ⟨e, e2⟩ | ⟨e, hj2, e2⟩ <;> rcases setR k hk with ⟨d, d2⟩ | ⟨d, hk2, d2⟩
    · omega
    · rw [e2, d2]; exact (Sep.new (bqv k hk2) nqv).symm
    · rw [e2, d2]; exact Sep.new (bqv j hj2) nqv
    · rw [e2, d2]; exact x.oqvqv j k hj2 hk2 hjk
def zrV : RSg := ⟨.sl none 0 (some 0)⟩
def zeV : Sg := ⟨[]⟩
theorem NwV.zeros {h0 h : H} {v : CV} {n : Nat} (x : Nw encV 1 38 h0 h (.one v) (List.replicate n zrV)) : NwV h0 h v (List.replicate n zrV) (List.replicate n zeV) := by
  refine ⟨⟨x, by simp, fun i hi => ?_, fun i hi => ?_, fun i j hi hj hij => ?_⟩⟩
  · have hi2 : i < (List.replicate n zeV).length := by simpa using hi
    rw [getV_eq hi2, List.getElem_replicate, List.getElem_replicate]
    exact ⟨.nil⟩
  all_goals simp only [List.getElem_replicate]
  · exact Sep.nil.symm
  · exact Sep.nil
theorem NwV.put {h0 h h1 h2 : H} {v : CV} {rs : List RSg} {l : List Sg} (x : NwV h0 h v rs l) {i : Nat} (hi : i < rs.length) {r : RSg} {a : Sg} (g : Grow h h1) (y : NtV h h1 r a) 
    (o : Nw encV 1 38 h0 h2 (.one v) (rs.set i r)) (st : Stay (.one v) h1 h2) (hg : h0.n ≤ h.n) : NwV h0 h2 v (rs.set i r) (l.set i a) := by
  have := (x.out.put hi g y  o st hg).congr (g := getV (l.set i a)) fun j hj => getV_set hj
  rw [show l.length = (l.set i a).length by simp] at this
  exact ⟨this⟩
theorem wtV_sm {l : List Sg} (h : wtV l ≤ 1048576) : miniV l := by
  unfold wtV at h
  have h1 : ∀ a ∈ l, wtEV a ≤ 1048576 := fun a ha => by have := wtL_mem (g := wtEV) ha; omega
  exact ⟨by unfold wtL at h; omega, fun a ha => by have := h1 a ha; unfold wtEV wtL at this; omega, fun a ha x hx => by have := h1 a ha; unfold wtEV at this; have := wtL_mem (g := wtQ) hx; unfold wtQ at this; unfold wtQ at *; omega, by
    have := wsum_c (f := cellsEV) (g := wtEV) (c := 4) (l := l) (fun a ha => by unfold cellsEV wtEV wtL; omega)
    unfold cellsV
    omega⟩
def wtEW (a : Func) : Nat := a.name.size + wtL wtQ a.params
def wtW (l : List Func) : Nat := wtL wtEW l
theorem getW_set {l : List Func} {i j : Nat} {a : Func} (hj : j < l.length) : updW (getW l) i a j = getW (l.set i a) j := by
  unfold updW getW
  by_cases e : j = i
  · subst e; rw [if_pos rfl, List.getElem?_set_self hj]; rfl
  · rw [if_neg e, List.getElem?_set_ne (Ne.symm e)]
theorem OwW.put {h0 h h1 h2 : H} {v : CV} {rs : List RFunc} {n : Nat} {f : Nat → Func} (x : OwW h0 h v rs n f) {i : Nat} (hi : i < rs.length) {r : RFunc} {a : Func} (g : Grow h h1) (y : NtW h h1 r a) 
    (o : Nw encW 2 48 h0 h2 (.one v) (rs.set i r)) (st : Stay (.one v) h1 h2) (hg : h0.n ≤ h.n) : OwW h0 h2 v (rs.set i r) n (updW f i a) := by
  have vb : ∀ i, baseOf (.one v) = some i → i < h.n := fun i hi => (x.out.lt hi).1
  have bqv : ∀ i (hi : i < rs.length) j, baseOf (.one rs[i].qv) = some j → j < h.n := fun i hi j hj => ((x.el i hi).params.lt hj).1
  have nqv : ∀ j, baseOf (.one r.qv) = some j → h.n ≤ j := fun j hj => (y.params.lt hj).2
  refine ⟨o, by simp [x.len], fun j hj => ?_, fun j hj => ?_, fun j k hj hk hjk => ?_⟩
  · rcases setR j hj with ⟨e, e2⟩ | ⟨e, hk, e2⟩
    · rw [e2, show updW f i a j = a from if_pos e]
      have z := y.from hg
      exact ⟨z.name, z.params.stay st (Sep.new vb nqv).symm⟩
    · rw [e2, show updW f i a j = f j from if_neg e]
      have z := (x.el j hk).grow g
      exact ⟨z.name, z.params.stay st (x.vqv j hk).symm⟩
  · rcases setR j hj with ⟨e, e2⟩ | ⟨e, hk, e2⟩
    · rw [e2]; exact Sep.new vb nqv
    · rw [e2]; exact x.vqv j hk
  · rcases setR j hj with ⟨e, e2⟩ | ⟨e, hj2, e2⟩ <;> rcases setR k hk with ⟨d, d2⟩ | ⟨d, hk2, d2⟩
    · omega
    · rw [e2, d2]; exact (Sep.new (bqv k hk2) nqv).symm
    · rw [e2, d2]; exact Sep.new (bqv j hj2) nqv
    · rw [e2, d2]; exact x.oqvqv j k hj2 hk2 hjk
def zrW : RFunc := ⟨strOfNums [], .sl none 0 (some 0)⟩
def zeW : Func := ⟨strOfNums [], []⟩
theorem NwW.zeros {h0 h : H} {v : CV} {n : Nat} (x : Nw encW 2 48 h0 h (.one v) (List.replicate n zrW)) : NwW h0 h v (List.replicate n zrW) (List.replicate n zeW) := by
  refine ⟨⟨x, by simp, fun i hi => ?_, fun i hi => ?_, fun i j hi hj hij => ?_⟩⟩
  · have hi2 : i < (List.replicate n zeW).length := by simpa using hi
    rw [getW_eq hi2, List.getElem_replicate, List.getElem_replicate]
    exact ⟨rfl, .nil⟩
  all_goals simp only [List.getElem_replicate]
  · exact Sep.nil.symm
  · exact Sep.nil
theorem NwW.put {h0 h h1 h2 : H} {v : CV} {rs : List RFunc} {l : List Func} (x : NwW h0 h v rs l) {i : Nat} (hi : i < rs.length) {r : RFunc} {a : Func} (g : Grow h h1) (y : NtW h h1 r a) 
    (o : Nw encW 2 48 h0 h2 (.one v) (rs.set i r)) (st : Stay (.one v) h1 h2) (hg : h0.n ≤ h.n) : NwW h0 h2 v (rs.set i r) (l.set i a) := by
  have := (x.out.put hi g y  o st hg).congr (g := getW (l.set i a)) fun j hj => getW_set hj
  rw [show l.length = (l.set i a).length by simp] at this
  exact ⟨this⟩
theorem wtW_sm {l : List Func} (h : wtW l ≤ 1048576) : miniW l := by
  unfold wtW at h
  have h1 : ∀ a ∈ l, wtEW a ≤ 1048576 := fun a ha => by have := wtL_mem (g := wtEW) ha; omega
  exact ⟨by unfold wtL at h; omega, fun a ha => by have := h1 a ha; unfold wtEW at this; omega, fun a ha => by have := h1 a ha; unfold wtEW wtL at this; omega, fun a ha x hx => by have := h1 a ha; unfold wtEW at this; have := wtL_mem (g := wtQ) hx; unfold wtQ at this; unfold wtQ at *; omega, by
    have := wsum_c (f := cellsEW) (g := wtEW) (c := 4) (l := l) (fun a ha => by unfold cellsEW wtEW wtL; omega)
    unfold cellsW
    omega⟩
attribute [local go_sem] loadL_agg
end Go.Proofs.YtoeceafibmafpaaDoor.Am
