/- Lists whose elements hold slices of their own: what memory holds of them. -/
import Derived.Test.YtoeceafibmafpaaDoorDat
namespace Go.Proofs.YtoeceafibmafpaaDoor.Am
open Go
set_option linter.unusedSimpArgs false
set_option linter.unusedVariables false
structure Sg where
  params : List Param
  deriving DecidableEq
structure Func where
  name : ByteArray
  params : List Param
  deriving DecidableEq
theorem wsum_bound {α : Type} {f : α → Nat} {B : Nat} {l : List α} (h : ∀ x ∈ l, f x ≤ B) : wsum f l l.length ≤ l.length * B := by
  unfold wsum
  rw [List.take_length]
  induction l with
  | nil => simp
  | cons a r ih =>
    have h1 := h a List.mem_cons_self
    have h2 := ih fun x hx => h x (List.mem_cons_of_mem _ hx)
    simp only [List.map_cons, List.sum_cons, List.length_cons, Nat.succ_mul]
    omega
abbrev SepC (a b : CV) : Prop := Sep (.one a) (.one b)
theorem Sep.new {a b : AV} {n : Nat} (ha : ∀ i, baseOf a = some i → i < n) (hb : ∀ i, baseOf b = some i → n ≤ i) : Sep a b := fun i hi hj => by
  have := ha i hi
  have := hb i hj
  omega
structure RArg where
  kind : Int
  name : ByteArray
  lv : CV
  pv : CV
def encC (r : RArg) : List CV := [.int .i64 r.kind, .str r.name, r.lv, r.pv]
theorem lenC (r : RArg) : (encC r).length = 4 := Eq.trans (b := 4) rfl rfl
theorem encC_0 (r : RArg) : (encC r)[0]? = some (.int .i64 r.kind) := rfl
theorem encC_1 (r : RArg) : (encC r)[1]? = some (.str r.name) := rfl
theorem encC_2 (r : RArg) : (encC r)[2]? = some (r.lv) := rfl
theorem encC_3 (r : RArg) : (encC r)[3]? = some (r.pv) := rfl
def zeroC : Arg := ⟨0, ByteArray.empty, [], []⟩
def getC (l : List Arg) (i : Nat) : Arg := l[i]?.getD zeroC
theorem getC_eq {l : List Arg} {i : Nat} (hi : i < l.length) : getC l i = l[i] := by unfold getC; rw [List.getElem?_eq_getElem hi]; rfl
structure AtC (t0 t1 : Nat) (h : H) (r : RArg) (a : Arg) : Prop where
  kind : r.kind = a.kind
  name : r.name = a.name
  list : Sl encI 1 t0 h (.one r.lv) a.list
  pairs : Sl encP 2 t1 h (.one r.pv) a.pairs
theorem AtC.grow {t0 t1 : Nat} {h h1 : H} {r : RArg} {a : Arg} (x : AtC t0 t1 h r a) (g : Grow h h1) : AtC t0 t1 h1 r a := ⟨x.kind, x.name, x.list.grow g, x.pairs.grow g⟩
structure RdC (ty t0 t1 : Nat) (h : H) (v : CV) (rs : List RArg) (n : Nat) (f : Nat → Arg) : Prop where
  out : Sl encC 4 ty h (.one v) rs
  len : rs.length = n
  el : ∀ i (hi : i < rs.length), AtC t0 t1 h rs[i] (f i)
theorem RdC.grow {ty t0 t1 n : Nat} {h h1 : H} {v : CV} {rs : List RArg} {f : Nat → Arg} (x : RdC ty t0 t1 h v rs n f) (g : Grow h h1) : RdC ty t0 t1 h1 v rs n f := ⟨x.out.grow g, x.len, fun i hi => (x.el i hi).grow g⟩
structure SlC (h : H) (v : CV) (l : List Arg) : Prop where
  ex : ∃ rs, RdC 99 3 151 h v rs l.length (getC l)
theorem SlC.grow {h h1 : H} {v : CV} {l : List Arg} (x : SlC h v l) (g : Grow h h1) : SlC h1 v l := ⟨x.ex.imp fun _ y => y.grow g⟩
structure NtC (h0 h : H) (r : RArg) (a : Arg) : Prop where
  kind : r.kind = a.kind
  name : r.name = a.name
  list : NwI h0 h (.one r.lv) a.list
  pairs : NwP h0 h (.one r.pv) a.pairs
theorem NtC.grow {h0 h h1 : H} {r : RArg} {a : Arg} (x : NtC h0 h r a) (g : Grow h h1) : NtC h0 h1 r a := ⟨x.kind, x.name, x.list.grow g, x.pairs.grow g⟩
theorem NtC.from {h0 h h1 : H} {r : RArg} {a : Arg} (x : NtC h1 h r a) (g : h0.n ≤ h1.n) : NtC h0 h r a := ⟨x.kind, x.name, x.list.from g, x.pairs.from g⟩
theorem NtC.mid {h0 h h1 : H} {r : RArg} {a : Arg} {p q : Nat} (x : NtC h0 h r a) (m : Mid p q h h1) (hb : q ≤ h0.n) : NtC h0 h1 r a := ⟨x.kind, x.name, x.list.past m hb, x.pairs.past m hb⟩
theorem NtC.rd {h0 h : H} {r : RArg} {a : Arg} (x : NtC h0 h r a) : AtC 3 151 h r a := ⟨x.kind, x.name, x.list.sl lenI, x.pairs.sl lenP⟩
structure OwC (h0 h : H) (v : CV) (rs : List RArg) (n : Nat) (f : Nat → Arg) : Prop where
  out : Nw encC 4 99 h0 h (.one v) rs
  len : rs.length = n
  el : ∀ i (hi : i < rs.length), NtC h0 h rs[i] (f i)
  vlv : ∀ i (hi : i < rs.length), SepC v rs[i].lv
  vpv : ∀ i (hi : i < rs.length), SepC v rs[i].pv
  slvpv : ∀ i (hi : i < rs.length), SepC rs[i].lv rs[i].pv
  olvlv : ∀ i j (hi : i < rs.length) (hj : j < rs.length), i ≠ j → SepC rs[i].lv rs[j].lv
  olvpv : ∀ i j (hi : i < rs.length) (hj : j < rs.length), i ≠ j → SepC rs[i].lv rs[j].pv
  opvlv : ∀ i j (hi : i < rs.length) (hj : j < rs.length), i ≠ j → SepC rs[i].pv rs[j].lv
  opvpv : ∀ i j (hi : i < rs.length) (hj : j < rs.length), i ≠ j → SepC rs[i].pv rs[j].pv
theorem OwC.grow {h0 h h1 : H} {v : CV} {rs : List RArg} {n : Nat} {f : Nat → Arg} (x : OwC h0 h v rs n f) (g : Grow h h1) : OwC h0 h1 v rs n f := ⟨x.out.grow g, x.len, fun i hi => (x.el i hi).grow g, x.vlv, x.vpv, x.slvpv, x.olvlv, x.olvpv, x.opvlv, x.opvpv⟩
theorem OwC.from {h0 h h1 : H} {v : CV} {rs : List RArg} {n : Nat} {f : Nat → Arg} (x : OwC h1 h v rs n f) (g : h0.n ≤ h1.n) : OwC h0 h v rs n f := ⟨x.out.from g, x.len, fun i hi => (x.el i hi).from g, x.vlv, x.vpv, x.slvpv, x.olvlv, x.olvpv, x.opvlv, x.opvpv⟩
theorem OwC.mid {h0 h h1 : H} {v : CV} {rs : List RArg} {n : Nat} {f : Nat → Arg} {p q : Nat} (x : OwC h0 h v rs n f) (m : Mid p q h h1) (hb : q ≤ h0.n) : OwC h0 h1 v rs n f := ⟨x.out.past m hb, x.len, fun i hi => (x.el i hi).mid m hb, x.vlv, x.vpv, x.slvpv, x.olvlv, x.olvpv, x.opvlv, x.opvpv⟩
theorem OwC.congr {h0 h : H} {v : CV} {rs : List RArg} {n : Nat} {f : Nat → Arg} {g : Nat → Arg} (x : OwC h0 h v rs n f) (e : ∀ i, i < n → f i = g i) : OwC h0 h v rs n g := ⟨x.out, x.len, fun i hi => by rw [← e i (by rw [← x.len]; exact hi)]; exact x.el i hi, x.vlv, x.vpv, x.slvpv, x.olvlv, x.olvpv, x.opvlv, x.opvpv⟩
theorem OwC.rd {h0 h : H} {v : CV} {rs : List RArg} {n : Nat} {f : Nat → Arg} (x : OwC h0 h v rs n f) : RdC 99 3 151 h v rs n f := ⟨x.out.sl lenC, x.len, fun i hi => (x.el i hi).rd⟩
structure NwC (h0 h : H) (v : CV) (rs : List RArg) (l : List Arg) : Prop where
  out : OwC h0 h v rs l.length (getC l)
theorem NwC.grow {h0 h h1 : H} {v : CV} {rs : List RArg} {l : List Arg} (x : NwC h0 h v rs l) (g : Grow h h1) : NwC h0 h1 v rs l := ⟨x.out.grow g⟩
theorem NwC.from {h0 h h1 : H} {v : CV} {rs : List RArg} {l : List Arg} (x : NwC h1 h v rs l) (g : h0.n ≤ h1.n) : NwC h0 h v rs l := ⟨x.out.from g⟩
theorem NwC.mid {h0 h h1 : H} {v : CV} {rs : List RArg} {l : List Arg} {p q : Nat} (x : NwC h0 h v rs l) (m : Mid p q h h1) (hb : q ≤ h0.n) : NwC h0 h1 v rs l := ⟨x.out.mid m hb⟩
theorem NwC.sl {h0 h : H} {v : CV} {rs : List RArg} {l : List Arg} (x : NwC h0 h v rs l) : SlC h v l := ⟨rs, x.out.rd⟩
theorem OwC.nil {h0 h : H} {f : Nat → Arg} {v : CV} (x : Nw encC 4 99 h0 h (.one v) []) : OwC h0 h v [] 0 f := ⟨x, rfl, fun i hi => absurd hi (Nat.not_lt_zero _), fun i hi => absurd hi (Nat.not_lt_zero _), fun i hi => absurd hi (Nat.not_lt_zero _), fun i hi => absurd hi (Nat.not_lt_zero _), fun i j hi => absurd hi (Nat.not_lt_zero _), fun i j hi => absurd hi (Nat.not_lt_zero _), fun i j hi => absurd hi (Nat.not_lt_zero _), fun i j hi => absurd hi (Nat.not_lt_zero _)⟩
theorem NwC.nil {h0 h : H} : NwC h0 h (.sl none 0 (some 0)) [] [] := ⟨.nil .nil⟩
theorem NwC.scalar {h0 h : H} {v : CV} {rs : List RArg} {l : List Arg} (x : NwC h0 h v rs l) (hs : v.scalar = true) (h2 : H) : NwC h0 h2 v rs l := by
  have y := x.out
  have e := y.out.scalar (by simpa [AV.scalar] using hs) h2
  have e2 : rs = [] := by
    rcases y.out.inv with ⟨_, e⟩ | ⟨b, o, e, _⟩ | ⟨b, cs, e, _⟩ | ⟨b, c, e, _⟩
    · exact e
    all_goals
      have e := AV.one.inj e
      subst e
      simp [CV.scalar] at hs
  subst e2
  have e3 : l = [] := List.length_eq_zero_iff.1 y.len.symm
  subst e3
  exact ⟨.nil e⟩
theorem NwC.clip {h0 h : H} {v : CV} {rs : List RArg} {l : List Arg} {v2 : CV} (y : NwC h0 h v rs l) (o : Nw encC 4 99 h0 h (.one v2) rs) (bv : ∀ i, baseOf (.one v2) = some i → baseOf (.one v) = some i) : NwC h0 h v2 rs l := by
  have x := y.out
  exact ⟨⟨o, x.len, x.el, fun i hi j hj => x.vlv i hi j (bv j hj), fun i hi j hj => x.vpv i hi j (bv j hj), x.slvpv, x.olvlv, x.olvpv, x.opvlv, x.opvpv⟩⟩
def updC (f : Nat → Arg) (i : Nat) (a : Arg) : Nat → Arg := fun j => if j = i then a else f j
theorem OwC.set {h0 h h1 : H} {v : CV} {rs : List RArg} {n : Nat} {f : Nat → Arg} (x : OwC h0 h v rs n f) {i : Nat} (hi : i < rs.length) {r : RArg} {a : Arg} (o : Nw encC 4 99 h0 h1 (.one v) (rs.set i r)) (st : Stay (.one v) h h1)
    (ekind : r.kind = a.kind) (ename : r.name = a.name) (rlv : r.lv = rs[i].lv) (dlv : a.list = (f i).list) (rpv : r.pv = rs[i].pv) (dpv : a.pairs = (f i).pairs) : OwC h0 h1 v (rs.set i r) n (updC f i a) := by
  have qlv : ∀ j (hj : j < (rs.set i r).length), (rs.set i r)[j].lv = (rs[j]'(by simpa using hj)).lv := fun j hj => by
    rw [List.getElem_set]
    split
    · rename_i e; subst e; exact rlv
    · rfl
  have qpv : ∀ j (hj : j < (rs.set i r).length), (rs.set i r)[j].pv = (rs[j]'(by simpa using hj)).pv := fun j hj => by
    rw [List.getElem_set]
    split
    · rename_i e; subst e; exact rpv
    · rfl
  refine ⟨o, by simp [x.len], fun j hj => ?_, fun j hj => ?_, fun j hj => ?_, fun j hj => ?_, fun j k hj hk hjk => ?_, fun j k hj hk hjk => ?_, fun j k hj hk hjk => ?_, fun j k hj hk hjk => ?_⟩
  · have hj2 : j < rs.length := by simpa using hj
    have z := x.el j hj2
    by_cases e : j = i
    · subst e
      have eu : updC f j a j = a := if_pos rfl
      rw [eu, List.getElem_set_self]
      exact ⟨ekind, ename, by rw [rlv, dlv]; exact z.list.stay st (x.vlv j hj2).symm, by rw [rpv, dpv]; exact z.pairs.stay st (x.vpv j hj2).symm⟩
    · have eu : updC f i a j = f j := if_neg e
      rw [eu, List.getElem_set_ne (Ne.symm e)]
      exact ⟨z.kind, z.name, z.list.stay st (x.vlv j hj2).symm, z.pairs.stay st (x.vpv j hj2).symm⟩
  · rw [qlv]; exact x.vlv j _
  · rw [qpv]; exact x.vpv j _
  · rw [qlv, qpv]; exact x.slvpv j _
  · rw [qlv, qlv]; exact x.olvlv j k _ _ hjk
  · rw [qlv, qpv]; exact x.olvpv j k _ _ hjk
  · rw [qpv, qlv]; exact x.opvlv j k _ _ hjk
  · rw [qpv, qpv]; exact x.opvpv j k _ _ hjk
/-- One slice of one element turned. -/
theorem OwC.list {h0 h h1 : H} {v : CV} {rs : List RArg} {n : Nat} {f : Nat → Arg} (x : OwC h0 h v rs n f) {i : Nat} (hi : i < rs.length) {l : List Int} (o : NwI h0 h1 (.one rs[i].lv) l) (st : Stay (.one rs[i].lv) h h1) : OwC h0 h1 v rs n (updC f i { f i with list := l }) := by
  refine ⟨x.out.stay st (x.vlv i hi), x.len, fun j hj => ?_, x.vlv, x.vpv, x.slvpv, x.olvlv, x.olvpv, x.opvlv, x.opvpv⟩
  have z := x.el j hj
  by_cases e : j = i
  · subst e
    have eu : updC f j { f j with list := l } j = { f j with list := l } := if_pos rfl
    rw [eu]
    exact ⟨z.kind, z.name, o, z.pairs.stay st (x.slvpv j hj).symm⟩
  · have eu : updC f i { f i with list := l } j = f j := if_neg e
    rw [eu]
    exact ⟨z.kind, z.name, z.list.stay st (x.olvlv j i hj hi e), z.pairs.stay st (x.opvlv j i hj hi e)⟩
/-- One slice of one element turned. -/
theorem OwC.pairs {h0 h h1 : H} {v : CV} {rs : List RArg} {n : Nat} {f : Nat → Arg} (x : OwC h0 h v rs n f) {i : Nat} (hi : i < rs.length) {l : List Pair} (o : NwP h0 h1 (.one rs[i].pv) l) (st : Stay (.one rs[i].pv) h h1) : OwC h0 h1 v rs n (updC f i { f i with pairs := l }) := by
  refine ⟨x.out.stay st (x.vpv i hi), x.len, fun j hj => ?_, x.vlv, x.vpv, x.slvpv, x.olvlv, x.olvpv, x.opvlv, x.opvpv⟩
  have z := x.el j hj
  by_cases e : j = i
  · subst e
    have eu : updC f j { f j with pairs := l } j = { f j with pairs := l } := if_pos rfl
    rw [eu]
    exact ⟨z.kind, z.name, z.list.stay st (x.slvpv j hj), o⟩
  · have eu : updC f i { f i with pairs := l } j = f j := if_neg e
    rw [eu]
    exact ⟨z.kind, z.name, z.list.stay st (x.olvpv j i hj hi e), z.pairs.stay st (x.opvpv j i hj hi e)⟩
/-- One more behind: its slices are of a later time. -/
theorem OwC.push {h0 h h1 h2 : H} {v s : CV} {rs : List RArg} {n : Nat} {f : Nat → Arg} {r : RArg} {a : Arg} (x : OwC h0 h v rs n f) (g : Grow h h1) (y : NtC h h1 r a) (blv : ∀ i, baseOf (.one r.lv) = some i → h.n ≤ i ∧ i < h1.n) (bpv : ∀ i, baseOf (.one r.pv) = some i → h.n ≤ i ∧ i < h1.n) (slvpv : SepC r.lv r.pv)
    (o : Nw encC 4 99 h0 h2 (.one s) (rs ++ [r])) (st : Stay (.one v) h1 h2) (hb : ∀ i, baseOf (.one s) = some i → baseOf (.one v) = some i ∨ h1.n ≤ i) (hg : h0.n ≤ h.n) : OwC h0 h2 s (rs ++ [r]) (n + 1) (fun i => if i < n then f i else a) := by
  have ol : ∀ (i : Nat) (hi : i < (rs ++ [r]).length), (i < n ∧ ∃ hj : i < rs.length, (rs ++ [r])[i] = rs[i]) ∨ (i = n ∧ (rs ++ [r])[i] = r) := fun i hi => by
    have hl := x.len
    by_cases hj : i < rs.length
    · exact .inl ⟨by omega, hj, List.getElem_append_left hj⟩
    · have : i = n := by simp at hi; omega
      exact .inr ⟨this, by rw [List.getElem_append_right (by omega)]; simp [show i - rs.length = 0 by omega]⟩
  have vb : ∀ i, baseOf (.one v) = some i → i < h.n := fun i hi => (x.out.lt hi).1
  have nlv : SepC v r.lv := Sep.new vb (fun i hi => (blv i hi).1)
  have wlv : SepC s r.lv := fun i hi hj => by
    rcases hb i hi with e | e
    · exact nlv i e hj
    · have := (blv i hj).2; omega
  have lblv : ∀ i (hi : i < rs.length) j, baseOf (.one rs[i].lv) = some j → j < h.n := fun i hi j hj => ((x.el i hi).list.lt hj).1
  have ulv : ∀ i (hi : i < rs.length), SepC s rs[i].lv := fun i hi j hj hk => by
    rcases hb j hj with e | e
    · exact x.vlv i hi j e hk
    · have := lblv i hi j hk; have := g.n; omega
  have npv : SepC v r.pv := Sep.new vb (fun i hi => (bpv i hi).1)
  have wpv : SepC s r.pv := fun i hi hj => by
    rcases hb i hi with e | e
    · exact npv i e hj
    · have := (bpv i hj).2; omega
  have lbpv : ∀ i (hi : i < rs.length) j, baseOf (.one rs[i].pv) = some j → j < h.n := fun i hi j hj => ((x.el i hi).pairs.lt hj).1
  have upv : ∀ i (hi : i < rs.length), SepC s rs[i].pv := fun i hi j hj hk => by
    rcases hb j hj with e | e
    · exact x.vpv i hi j e hk
    · have := lbpv i hi j hk; have := g.n; omega
  refine ⟨o, by simp [x.len], fun i hi => ?_, fun i hi => ?_, fun i hi => ?_, fun i hi => ?_, fun i j hi hj hij => ?_, fun i j hi hj hij => ?_, fun i j hi hj hij => ?_, fun i j hi hj hij => ?_⟩
  · rcases ol i hi with ⟨e, hj, e2⟩ | ⟨e, e2⟩
    · rw [e2, if_pos e]
      have z := (x.el i hj).grow g
      exact ⟨z.kind, z.name, z.list.stay st (x.vlv i hj).symm, z.pairs.stay st (x.vpv i hj).symm⟩
    · rw [e2, if_neg (by omega)]
      have z := y.from hg
      exact ⟨z.kind, z.name, z.list.stay st nlv.symm, z.pairs.stay st npv.symm⟩
  · rcases ol i hi with ⟨e, hj, e2⟩ | ⟨e, e2⟩
    · rw [e2]; exact ulv i hj
    · rw [e2]; exact wlv
  · rcases ol i hi with ⟨e, hj, e2⟩ | ⟨e, e2⟩
    · rw [e2]; exact upv i hj
    · rw [e2]; exact wpv
  · rcases ol i hi with ⟨e, hj, e2⟩ | ⟨e, e2⟩
    · rw [e2]; exact x.slvpv i hj
    · rw [e2]; exact slvpv
  · rcases ol i hi with ⟨e, hk, e2⟩ | ⟨e, e2⟩ <;> rcases ol j hj with ⟨d, hl, d2⟩ | ⟨d, d2⟩
    · rw [e2, d2]; exact x.olvlv i j hk hl hij
    · rw [e2, d2]; exact Sep.new (lblv i hk) (fun k hk => (blv k hk).1)
    · rw [e2, d2]; exact (Sep.new (lblv j hl) (fun k hk => (blv k hk).1)).symm
    · omega
  · rcases ol i hi with ⟨e, hk, e2⟩ | ⟨e, e2⟩ <;> rcases ol j hj with ⟨d, hl, d2⟩ | ⟨d, d2⟩
    · rw [e2, d2]; exact x.olvpv i j hk hl hij
    · rw [e2, d2]; exact Sep.new (lblv i hk) (fun k hk => (bpv k hk).1)
    · rw [e2, d2]; exact (Sep.new (lbpv j hl) (fun k hk => (blv k hk).1)).symm
    · omega
  · rcases ol i hi with ⟨e, hk, e2⟩ | ⟨e, e2⟩ <;> rcases ol j hj with ⟨d, hl, d2⟩ | ⟨d, d2⟩
    · rw [e2, d2]; exact x.opvlv i j hk hl hij
    · rw [e2, d2]; exact Sep.new (lbpv i hk) (fun k hk => (blv k hk).1)
    · rw [e2, d2]; exact (Sep.new (lblv j hl) (fun k hk => (bpv k hk).1)).symm
    · omega
  · rcases ol i hi with ⟨e, hk, e2⟩ | ⟨e, e2⟩ <;> rcases ol j hj with ⟨d, hl, d2⟩ | ⟨d, d2⟩
    · rw [e2, d2]; exact x.opvpv i j hk hl hij
    · rw [e2, d2]; exact Sep.new (lbpv i hk) (fun k hk => (bpv k hk).1)
    · rw [e2, d2]; exact (Sep.new (lbpv j hl) (fun k hk => (bpv k hk).1)).symm
    · omega
theorem getC_push {l : List Arg} {a : Arg} {j : Nat} (hj : j < l.length + 1) : (if j < l.length then getC l j else a) = getC (l ++ [a]) j := by
  unfold getC
  by_cases e : j < l.length
  · rw [if_pos e, List.getElem?_append_left e]
  · have : j = l.length := by omega
    subst this
    rw [if_neg e, List.getElem?_append_right (Nat.le_refl _)]
    simp
theorem NwC.push {h0 h h1 h2 : H} {v s : CV} {rs : List RArg} {l : List Arg} {r : RArg} {a : Arg} (x : NwC h0 h v rs l) (g : Grow h h1) (y : NtC h h1 r a) (blv : ∀ i, baseOf (.one r.lv) = some i → h.n ≤ i ∧ i < h1.n) (bpv : ∀ i, baseOf (.one r.pv) = some i → h.n ≤ i ∧ i < h1.n) (slvpv : SepC r.lv r.pv)
    (o : Nw encC 4 99 h0 h2 (.one s) (rs ++ [r])) (st : Stay (.one v) h1 h2) (hb : ∀ i, baseOf (.one s) = some i → baseOf (.one v) = some i ∨ h1.n ≤ i) (hg : h0.n ≤ h.n) : NwC h0 h2 s (rs ++ [r]) (l ++ [a]) := by
  have z := x.out.push g y blv bpv slvpv o st hb hg
  refine ⟨?_⟩
  rw [show (l ++ [a]).length = l.length + 1 by simp]
  exact z.congr (fun j hj => getC_push hj)
def mkEC (k : Int) (a : Arg) : Arg := ⟨k, (mtxt (k + 1)), markL mkI 1 (k + 2) a.list.length, markL mkP 2 ((k + 2) + ((1 * a.list.length : Nat) : Int)) a.pairs.length⟩
def cellsEC (a : Arg) : Nat := 2 + 1 * a.list.length + 2 * a.pairs.length
def cellsC (l : List Arg) : Nat := wsum cellsEC l l.length
def mkC (k : Int) (l : List Arg) : List Arg := (List.range l.length).map fun j => mkEC (k + (wsum cellsEC l j : Nat)) (getC l j)
theorem mkC_len {k : Int} {l : List Arg} : (mkC k l).length = l.length := by simp [mkC]
theorem mkC_get {k : Int} {l : List Arg} {j : Nat} (hj : j < l.length) : getC (mkC k l) j = mkEC (k + (wsum cellsEC l j : Nat)) (getC l j) := by
  rw [getC_eq (by rw [mkC_len]; exact hj)]
  simp [mkC]
def mixC (k : Int) (l : List Arg) (i : Nat) : Nat → Arg := fun j => if j < i then getC (mkC k l) j else getC l j
theorem mixC_at {k : Int} {l : List Arg} {i : Nat} (hi : i < l.length) : mixC k l i i = l[i] := (if_neg (Nat.lt_irrefl _)).trans (getC_eq hi)
theorem mixC_zero {k : Int} {l : List Arg} {j : Nat} : mixC k l 0 j = getC l j := if_neg (Nat.not_lt_zero _)
theorem mixC_all {k : Int} {l : List Arg} {j : Nat} (hj : j < l.length) : mixC k l l.length j = getC (mkC k l) j := if_pos hj
theorem updC_at {f : Nat → Arg} {i : Nat} {a : Arg} : updC f i a i = a := if_pos rfl
theorem updC_upd {f : Nat → Arg} {i : Nat} {a b : Arg} : updC (updC f i a) i b = updC f i b := by
  funext j
  unfold updC
  by_cases e : j = i
  · rw [if_pos e, if_pos e]
  · rw [if_neg e, if_neg e, if_neg e]
theorem mixC_next {k : Int} {l : List Arg} {i : Nat} (hi : i < l.length) : updC (mixC k l i) i (mkEC (k + (wsum cellsEC l i : Nat)) l[i]) = mixC k l (i + 1) := by
  funext j
  unfold updC
  by_cases e : j = i
  · subst e
    rw [if_pos rfl]
    unfold mixC
    rw [if_pos (Nat.lt_succ_self _), mkC_get hi, getC_eq hi]
  · rw [if_neg e]
    unfold mixC
    by_cases e2 : j < i
    · rw [if_pos e2, if_pos (by omega)]
    · rw [if_neg e2, if_neg (by omega)]
structure miniC (l : List Arg) : Prop where
  len : l.length ≤ 1048576
  name : ∀ a ∈ l, a.name.size ≤ 1048576
  list : ∀ a ∈ l, a.list.length ≤ 1048576
  pairs : ∀ a ∈ l, a.pairs.length ≤ 1048576
  npairs : ∀ a ∈ l, ∀ x ∈ a.pairs, x.name.size ≤ 1048576
  cells : cellsC l ≤ 4194304
theorem cellsC_le {l : List Arg} (h : miniC l) : cellsC l ≤ 4194304 := h.cells


structure RSg where
  qv : CV
def encV (r : RSg) : List CV := [r.qv]
theorem lenV (r : RSg) : (encV r).length = 1 := Eq.trans (b := 1) rfl rfl
theorem encV_0 (r : RSg) : (encV r)[0]? = some (r.qv) := rfl
def zeroV : Sg := ⟨[]⟩
def getV (l : List Sg) (i : Nat) : Sg := l[i]?.getD zeroV
theorem getV_eq {l : List Sg} {i : Nat} (hi : i < l.length) : getV l i = l[i] := by unfold getV; rw [List.getElem?_eq_getElem hi]; rfl
structure AtV (t0 : Nat) (h : H) (r : RSg) (a : Sg) : Prop where
  params : Sl encQ 4 t0 h (.one r.qv) a.params
theorem AtV.grow {t0 : Nat} {h h1 : H} {r : RSg} {a : Sg} (x : AtV t0 h r a) (g : Grow h h1) : AtV t0 h1 r a := ⟨x.params.grow g⟩
structure RdV (ty t0 : Nat) (h : H) (v : CV) (rs : List RSg) (n : Nat) (f : Nat → Sg) : Prop where
  out : Sl encV 1 ty h (.one v) rs
  len : rs.length = n
  el : ∀ i (hi : i < rs.length), AtV t0 h rs[i] (f i)
theorem RdV.grow {ty t0 n : Nat} {h h1 : H} {v : CV} {rs : List RSg} {f : Nat → Sg} (x : RdV ty t0 h v rs n f) (g : Grow h h1) : RdV ty t0 h1 v rs n f := ⟨x.out.grow g, x.len, fun i hi => (x.el i hi).grow g⟩
structure SlV (h : H) (v : CV) (l : List Sg) : Prop where
  ex : ∃ rs, RdV 38 83 h v rs l.length (getV l)
theorem SlV.grow {h h1 : H} {v : CV} {l : List Sg} (x : SlV h v l) (g : Grow h h1) : SlV h1 v l := ⟨x.ex.imp fun _ y => y.grow g⟩
structure NtV (h0 h : H) (r : RSg) (a : Sg) : Prop where
  params : NwQ h0 h (.one r.qv) a.params
theorem NtV.grow {h0 h h1 : H} {r : RSg} {a : Sg} (x : NtV h0 h r a) (g : Grow h h1) : NtV h0 h1 r a := ⟨x.params.grow g⟩
theorem NtV.from {h0 h h1 : H} {r : RSg} {a : Sg} (x : NtV h1 h r a) (g : h0.n ≤ h1.n) : NtV h0 h r a := ⟨x.params.from g⟩
theorem NtV.mid {h0 h h1 : H} {r : RSg} {a : Sg} {p q : Nat} (x : NtV h0 h r a) (m : Mid p q h h1) (hb : q ≤ h0.n) : NtV h0 h1 r a := ⟨x.params.past m hb⟩
theorem NtV.rd {h0 h : H} {r : RSg} {a : Sg} (x : NtV h0 h r a) : AtV 83 h r a := ⟨x.params.sl lenQ⟩
structure OwV (h0 h : H) (v : CV) (rs : List RSg) (n : Nat) (f : Nat → Sg) : Prop where
  out : Nw encV 1 38 h0 h (.one v) rs
  len : rs.length = n
  el : ∀ i (hi : i < rs.length), NtV h0 h rs[i] (f i)
  vqv : ∀ i (hi : i < rs.length), SepC v rs[i].qv
  oqvqv : ∀ i j (hi : i < rs.length) (hj : j < rs.length), i ≠ j → SepC rs[i].qv rs[j].qv
theorem OwV.grow {h0 h h1 : H} {v : CV} {rs : List RSg} {n : Nat} {f : Nat → Sg} (x : OwV h0 h v rs n f) (g : Grow h h1) : OwV h0 h1 v rs n f := ⟨x.out.grow g, x.len, fun i hi => (x.el i hi).grow g, x.vqv, x.oqvqv⟩
theorem OwV.from {h0 h h1 : H} {v : CV} {rs : List RSg} {n : Nat} {f : Nat → Sg} (x : OwV h1 h v rs n f) (g : h0.n ≤ h1.n) : OwV h0 h v rs n f := ⟨x.out.from g, x.len, fun i hi => (x.el i hi).from g, x.vqv, x.oqvqv⟩
theorem OwV.mid {h0 h h1 : H} {v : CV} {rs : List RSg} {n : Nat} {f : Nat → Sg} {p q : Nat} (x : OwV h0 h v rs n f) (m : Mid p q h h1) (hb : q ≤ h0.n) : OwV h0 h1 v rs n f := ⟨x.out.past m hb, x.len, fun i hi => (x.el i hi).mid m hb, x.vqv, x.oqvqv⟩
theorem OwV.congr {h0 h : H} {v : CV} {rs : List RSg} {n : Nat} {f : Nat → Sg} {g : Nat → Sg} (x : OwV h0 h v rs n f) (e : ∀ i, i < n → f i = g i) : OwV h0 h v rs n g := ⟨x.out, x.len, fun i hi => by rw [← e i (by rw [← x.len]; exact hi)]; exact x.el i hi, x.vqv, x.oqvqv⟩
theorem OwV.rd {h0 h : H} {v : CV} {rs : List RSg} {n : Nat} {f : Nat → Sg} (x : OwV h0 h v rs n f) : RdV 38 83 h v rs n f := ⟨x.out.sl lenV, x.len, fun i hi => (x.el i hi).rd⟩
structure NwV (h0 h : H) (v : CV) (rs : List RSg) (l : List Sg) : Prop where
  out : OwV h0 h v rs l.length (getV l)
theorem NwV.grow {h0 h h1 : H} {v : CV} {rs : List RSg} {l : List Sg} (x : NwV h0 h v rs l) (g : Grow h h1) : NwV h0 h1 v rs l := ⟨x.out.grow g⟩
theorem NwV.from {h0 h h1 : H} {v : CV} {rs : List RSg} {l : List Sg} (x : NwV h1 h v rs l) (g : h0.n ≤ h1.n) : NwV h0 h v rs l := ⟨x.out.from g⟩
theorem NwV.mid {h0 h h1 : H} {v : CV} {rs : List RSg} {l : List Sg} {p q : Nat} (x : NwV h0 h v rs l) (m : Mid p q h h1) (hb : q ≤ h0.n) : NwV h0 h1 v rs l := ⟨x.out.mid m hb⟩
theorem NwV.sl {h0 h : H} {v : CV} {rs : List RSg} {l : List Sg} (x : NwV h0 h v rs l) : SlV h v l := ⟨rs, x.out.rd⟩
theorem OwV.nil {h0 h : H} {f : Nat → Sg} {v : CV} (x : Nw encV 1 38 h0 h (.one v) []) : OwV h0 h v [] 0 f := ⟨x, rfl, fun i hi => absurd hi (Nat.not_lt_zero _), fun i hi => absurd hi (Nat.not_lt_zero _), fun i j hi => absurd hi (Nat.not_lt_zero _)⟩
theorem NwV.nil {h0 h : H} : NwV h0 h (.sl none 0 (some 0)) [] [] := ⟨.nil .nil⟩
theorem NwV.scalar {h0 h : H} {v : CV} {rs : List RSg} {l : List Sg} (x : NwV h0 h v rs l) (hs : v.scalar = true) (h2 : H) : NwV h0 h2 v rs l := by
  have y := x.out
  have e := y.out.scalar (by simpa [AV.scalar] using hs) h2
  have e2 : rs = [] := by
    rcases y.out.inv with ⟨_, e⟩ | ⟨b, o, e, _⟩ | ⟨b, cs, e, _⟩ | ⟨b, c, e, _⟩
    · exact e
    all_goals
      have e := AV.one.inj e
      subst e
      simp [CV.scalar] at hs
  subst e2
  have e3 : l = [] := List.length_eq_zero_iff.1 y.len.symm
  subst e3
  exact ⟨.nil e⟩
theorem NwV.clip {h0 h : H} {v : CV} {rs : List RSg} {l : List Sg} {v2 : CV} (y : NwV h0 h v rs l) (o : Nw encV 1 38 h0 h (.one v2) rs) (bv : ∀ i, baseOf (.one v2) = some i → baseOf (.one v) = some i) : NwV h0 h v2 rs l := by
  have x := y.out
  exact ⟨⟨o, x.len, x.el, fun i hi j hj => x.vqv i hi j (bv j hj), x.oqvqv⟩⟩
def updV (f : Nat → Sg) (i : Nat) (a : Sg) : Nat → Sg := fun j => if j = i then a else f j
theorem OwV.set {h0 h h1 : H} {v : CV} {rs : List RSg} {n : Nat} {f : Nat → Sg} (x : OwV h0 h v rs n f) {i : Nat} (hi : i < rs.length) {r : RSg} {a : Sg} (o : Nw encV 1 38 h0 h1 (.one v) (rs.set i r)) (st : Stay (.one v) h h1)
    (rqv : r.qv = rs[i].qv) (dqv : a.params = (f i).params) : OwV h0 h1 v (rs.set i r) n (updV f i a) := by
  have qqv : ∀ j (hj : j < (rs.set i r).length), (rs.set i r)[j].qv = (rs[j]'(by simpa using hj)).qv := fun j hj => by
    rw [List.getElem_set]
    split
    · rename_i e; subst e; exact rqv
    · rfl
  refine ⟨o, by simp [x.len], fun j hj => ?_, fun j hj => ?_, fun j k hj hk hjk => ?_⟩
  · have hj2 : j < rs.length := by simpa using hj
    have z := x.el j hj2
    by_cases e : j = i
    · subst e
      have eu : updV f j a j = a := if_pos rfl
      rw [eu, List.getElem_set_self]
      exact ⟨by rw [rqv, dqv]; exact z.params.stay st (x.vqv j hj2).symm⟩
    · have eu : updV f i a j = f j := if_neg e
      rw [eu, List.getElem_set_ne (Ne.symm e)]
      exact ⟨z.params.stay st (x.vqv j hj2).symm⟩
  · rw [qqv]; exact x.vqv j _
  · rw [qqv, qqv]; exact x.oqvqv j k _ _ hjk
/-- One slice of one element turned. -/
theorem OwV.params {h0 h h1 : H} {v : CV} {rs : List RSg} {n : Nat} {f : Nat → Sg} (x : OwV h0 h v rs n f) {i : Nat} (hi : i < rs.length) {l : List Param} (o : NwQ h0 h1 (.one rs[i].qv) l) (st : Stay (.one rs[i].qv) h h1) : OwV h0 h1 v rs n (updV f i { f i with params := l }) := by
  refine ⟨x.out.stay st (x.vqv i hi), x.len, fun j hj => ?_, x.vqv, x.oqvqv⟩
  have z := x.el j hj
  by_cases e : j = i
  · subst e
    have eu : updV f j { f j with params := l } j = { f j with params := l } := if_pos rfl
    rw [eu]
    exact ⟨o⟩
  · have eu : updV f i { f i with params := l } j = f j := if_neg e
    rw [eu]
    exact ⟨z.params.stay st (x.oqvqv j i hj hi e)⟩
/-- One more behind: its slices are of a later time. -/
theorem OwV.push {h0 h h1 h2 : H} {v s : CV} {rs : List RSg} {n : Nat} {f : Nat → Sg} {r : RSg} {a : Sg} (x : OwV h0 h v rs n f) (g : Grow h h1) (y : NtV h h1 r a) (bqv : ∀ i, baseOf (.one r.qv) = some i → h.n ≤ i ∧ i < h1.n) 
    (o : Nw encV 1 38 h0 h2 (.one s) (rs ++ [r])) (st : Stay (.one v) h1 h2) (hb : ∀ i, baseOf (.one s) = some i → baseOf (.one v) = some i ∨ h1.n ≤ i) (hg : h0.n ≤ h.n) : OwV h0 h2 s (rs ++ [r]) (n + 1) (fun i => if i < n then f i else a) := by
  have ol : ∀ (i : Nat) (hi : i < (rs ++ [r]).length), (i < n ∧ ∃ hj : i < rs.length, (rs ++ [r])[i] = rs[i]) ∨ (i = n ∧ (rs ++ [r])[i] = r) := fun i hi => by
    have hl := x.len
    by_cases hj : i < rs.length
    · exact .inl ⟨by omega, hj, List.getElem_append_left hj⟩
    · have : i = n := by simp at hi; omega
      exact .inr ⟨this, by rw [List.getElem_append_right (by omega)]; simp [show i - rs.length = 0 by omega]⟩
  have vb : ∀ i, baseOf (.one v) = some i → i < h.n := fun i hi => (x.out.lt hi).1
  have nqv : SepC v r.qv := Sep.new vb (fun i hi => (bqv i hi).1)
  have wqv : SepC s r.qv := fun i hi hj => by
    rcases hb i hi with e | e
    · exact nqv i e hj
    · have := (bqv i hj).2; omega
  have lbqv : ∀ i (hi : i < rs.length) j, baseOf (.one rs[i].qv) = some j → j < h.n := fun i hi j hj => ((x.el i hi).params.lt hj).1
  have uqv : ∀ i (hi : i < rs.length), SepC s rs[i].qv := fun i hi j hj hk => by
    rcases hb j hj with e | e
    · exact x.vqv i hi j e hk
    · have := lbqv i hi j hk; have := g.n; omega
  refine ⟨o, by simp [x.len], fun i hi => ?_, fun i hi => ?_, fun i j hi hj hij => ?_⟩
  · rcases ol i hi with ⟨e, hj, e2⟩ | ⟨e, e2⟩
    · rw [e2, if_pos e]
      have z := (x.el i hj).grow g
      exact ⟨z.params.stay st (x.vqv i hj).symm⟩
    · rw [e2, if_neg (by omega)]
      have z := y.from hg
      exact ⟨z.params.stay st nqv.symm⟩
  · rcases ol i hi with ⟨e, hj, e2⟩ | ⟨e, e2⟩
    · rw [e2]; exact uqv i hj
    · rw [e2]; exact wqv
  · rcases ol i hi with ⟨e, hk, e2⟩ | ⟨e, e2⟩ <;> rcases ol j hj with ⟨d, hl, d2⟩ | ⟨d, d2⟩
    · rw [e2, d2]; exact x.oqvqv i j hk hl hij
    · rw [e2, d2]; exact Sep.new (lbqv i hk) (fun k hk => (bqv k hk).1)
    · rw [e2, d2]; exact (Sep.new (lbqv j hl) (fun k hk => (bqv k hk).1)).symm
    · omega
theorem getV_push {l : List Sg} {a : Sg} {j : Nat} (hj : j < l.length + 1) : (if j < l.length then getV l j else a) = getV (l ++ [a]) j := by
  unfold getV
  by_cases e : j < l.length
  · rw [if_pos e, List.getElem?_append_left e]
  · have : j = l.length := by omega
    subst this
    rw [if_neg e, List.getElem?_append_right (Nat.le_refl _)]
    simp
theorem NwV.push {h0 h h1 h2 : H} {v s : CV} {rs : List RSg} {l : List Sg} {r : RSg} {a : Sg} (x : NwV h0 h v rs l) (g : Grow h h1) (y : NtV h h1 r a) (bqv : ∀ i, baseOf (.one r.qv) = some i → h.n ≤ i ∧ i < h1.n) 
    (o : Nw encV 1 38 h0 h2 (.one s) (rs ++ [r])) (st : Stay (.one v) h1 h2) (hb : ∀ i, baseOf (.one s) = some i → baseOf (.one v) = some i ∨ h1.n ≤ i) (hg : h0.n ≤ h.n) : NwV h0 h2 s (rs ++ [r]) (l ++ [a]) := by
  have z := x.out.push g y bqv o st hb hg
  refine ⟨?_⟩
  rw [show (l ++ [a]).length = l.length + 1 by simp]
  exact z.congr (fun j hj => getV_push hj)
def mkEV (k : Int) (a : Sg) : Sg := ⟨markL mkQ 4 k a.params.length⟩
def cellsEV (a : Sg) : Nat := 4 * a.params.length
def cellsV (l : List Sg) : Nat := wsum cellsEV l l.length
def mkV (k : Int) (l : List Sg) : List Sg := (List.range l.length).map fun j => mkEV (k + (wsum cellsEV l j : Nat)) (getV l j)
theorem mkV_len {k : Int} {l : List Sg} : (mkV k l).length = l.length := by simp [mkV]
theorem mkV_get {k : Int} {l : List Sg} {j : Nat} (hj : j < l.length) : getV (mkV k l) j = mkEV (k + (wsum cellsEV l j : Nat)) (getV l j) := by
  rw [getV_eq (by rw [mkV_len]; exact hj)]
  simp [mkV]
def mixV (k : Int) (l : List Sg) (i : Nat) : Nat → Sg := fun j => if j < i then getV (mkV k l) j else getV l j
theorem mixV_at {k : Int} {l : List Sg} {i : Nat} (hi : i < l.length) : mixV k l i i = l[i] := (if_neg (Nat.lt_irrefl _)).trans (getV_eq hi)
theorem mixV_zero {k : Int} {l : List Sg} {j : Nat} : mixV k l 0 j = getV l j := if_neg (Nat.not_lt_zero _)
theorem mixV_all {k : Int} {l : List Sg} {j : Nat} (hj : j < l.length) : mixV k l l.length j = getV (mkV k l) j := if_pos hj
theorem updV_at {f : Nat → Sg} {i : Nat} {a : Sg} : updV f i a i = a := if_pos rfl
theorem updV_upd {f : Nat → Sg} {i : Nat} {a b : Sg} : updV (updV f i a) i b = updV f i b := by
  funext j
  unfold updV
  by_cases e : j = i
  · rw [if_pos e, if_pos e]
  · rw [if_neg e, if_neg e, if_neg e]
theorem mixV_next {k : Int} {l : List Sg} {i : Nat} (hi : i < l.length) : updV (mixV k l i) i (mkEV (k + (wsum cellsEV l i : Nat)) l[i]) = mixV k l (i + 1) := by
  funext j
  unfold updV
  by_cases e : j = i
  · subst e
    rw [if_pos rfl]
    unfold mixV
    rw [if_pos (Nat.lt_succ_self _), mkV_get hi, getV_eq hi]
  · rw [if_neg e]
    unfold mixV
    by_cases e2 : j < i
    · rw [if_pos e2, if_pos (by omega)]
    · rw [if_neg e2, if_neg (by omega)]
structure miniV (l : List Sg) : Prop where
  len : l.length ≤ 1048576
  params : ∀ a ∈ l, a.params.length ≤ 1048576
  nparams : ∀ a ∈ l, ∀ x ∈ a.params, x.name.size ≤ 1048576
  cells : cellsV l ≤ 4194304
theorem cellsV_le {l : List Sg} (h : miniV l) : cellsV l ≤ 4194304 := h.cells

structure RFunc where
  name : ByteArray
  qv : CV
def encW (r : RFunc) : List CV := [.str r.name, r.qv]
theorem lenW (r : RFunc) : (encW r).length = 2 := Eq.trans (b := 2) rfl rfl
theorem encW_0 (r : RFunc) : (encW r)[0]? = some (.str r.name) := rfl
theorem encW_1 (r : RFunc) : (encW r)[1]? = some (r.qv) := rfl
def zeroW : Func := ⟨ByteArray.empty, []⟩
def getW (l : List Func) (i : Nat) : Func := l[i]?.getD zeroW
theorem getW_eq {l : List Func} {i : Nat} (hi : i < l.length) : getW l i = l[i] := by unfold getW; rw [List.getElem?_eq_getElem hi]; rfl
structure AtW (t0 : Nat) (h : H) (r : RFunc) (a : Func) : Prop where
  name : r.name = a.name
  params : Sl encQ 4 t0 h (.one r.qv) a.params
theorem AtW.grow {t0 : Nat} {h h1 : H} {r : RFunc} {a : Func} (x : AtW t0 h r a) (g : Grow h h1) : AtW t0 h1 r a := ⟨x.name, x.params.grow g⟩
structure RdW (ty t0 : Nat) (h : H) (v : CV) (rs : List RFunc) (n : Nat) (f : Nat → Func) : Prop where
  out : Sl encW 2 ty h (.one v) rs
  len : rs.length = n
  el : ∀ i (hi : i < rs.length), AtW t0 h rs[i] (f i)
theorem RdW.grow {ty t0 n : Nat} {h h1 : H} {v : CV} {rs : List RFunc} {f : Nat → Func} (x : RdW ty t0 h v rs n f) (g : Grow h h1) : RdW ty t0 h1 v rs n f := ⟨x.out.grow g, x.len, fun i hi => (x.el i hi).grow g⟩
structure SlW (h : H) (v : CV) (l : List Func) : Prop where
  ex : ∃ rs, RdW 48 83 h v rs l.length (getW l)
theorem SlW.grow {h h1 : H} {v : CV} {l : List Func} (x : SlW h v l) (g : Grow h h1) : SlW h1 v l := ⟨x.ex.imp fun _ y => y.grow g⟩
structure NtW (h0 h : H) (r : RFunc) (a : Func) : Prop where
  name : r.name = a.name
  params : NwQ h0 h (.one r.qv) a.params
theorem NtW.grow {h0 h h1 : H} {r : RFunc} {a : Func} (x : NtW h0 h r a) (g : Grow h h1) : NtW h0 h1 r a := ⟨x.name, x.params.grow g⟩
theorem NtW.from {h0 h h1 : H} {r : RFunc} {a : Func} (x : NtW h1 h r a) (g : h0.n ≤ h1.n) : NtW h0 h r a := ⟨x.name, x.params.from g⟩
theorem NtW.mid {h0 h h1 : H} {r : RFunc} {a : Func} {p q : Nat} (x : NtW h0 h r a) (m : Mid p q h h1) (hb : q ≤ h0.n) : NtW h0 h1 r a := ⟨x.name, x.params.past m hb⟩
theorem NtW.rd {h0 h : H} {r : RFunc} {a : Func} (x : NtW h0 h r a) : AtW 83 h r a := ⟨x.name, x.params.sl lenQ⟩
structure OwW (h0 h : H) (v : CV) (rs : List RFunc) (n : Nat) (f : Nat → Func) : Prop where
  out : Nw encW 2 48 h0 h (.one v) rs
  len : rs.length = n
  el : ∀ i (hi : i < rs.length), NtW h0 h rs[i] (f i)
  vqv : ∀ i (hi : i < rs.length), SepC v rs[i].qv
  oqvqv : ∀ i j (hi : i < rs.length) (hj : j < rs.length), i ≠ j → SepC rs[i].qv rs[j].qv
theorem OwW.grow {h0 h h1 : H} {v : CV} {rs : List RFunc} {n : Nat} {f : Nat → Func} (x : OwW h0 h v rs n f) (g : Grow h h1) : OwW h0 h1 v rs n f := ⟨x.out.grow g, x.len, fun i hi => (x.el i hi).grow g, x.vqv, x.oqvqv⟩
theorem OwW.from {h0 h h1 : H} {v : CV} {rs : List RFunc} {n : Nat} {f : Nat → Func} (x : OwW h1 h v rs n f) (g : h0.n ≤ h1.n) : OwW h0 h v rs n f := ⟨x.out.from g, x.len, fun i hi => (x.el i hi).from g, x.vqv, x.oqvqv⟩
theorem OwW.mid {h0 h h1 : H} {v : CV} {rs : List RFunc} {n : Nat} {f : Nat → Func} {p q : Nat} (x : OwW h0 h v rs n f) (m : Mid p q h h1) (hb : q ≤ h0.n) : OwW h0 h1 v rs n f := ⟨x.out.past m hb, x.len, fun i hi => (x.el i hi).mid m hb, x.vqv, x.oqvqv⟩
theorem OwW.congr {h0 h : H} {v : CV} {rs : List RFunc} {n : Nat} {f : Nat → Func} {g : Nat → Func} (x : OwW h0 h v rs n f) (e : ∀ i, i < n → f i = g i) : OwW h0 h v rs n g := ⟨x.out, x.len, fun i hi => by rw [← e i (by rw [← x.len]; exact hi)]; exact x.el i hi, x.vqv, x.oqvqv⟩
theorem OwW.rd {h0 h : H} {v : CV} {rs : List RFunc} {n : Nat} {f : Nat → Func} (x : OwW h0 h v rs n f) : RdW 48 83 h v rs n f := ⟨x.out.sl lenW, x.len, fun i hi => (x.el i hi).rd⟩
structure NwW (h0 h : H) (v : CV) (rs : List RFunc) (l : List Func) : Prop where
  out : OwW h0 h v rs l.length (getW l)
theorem NwW.grow {h0 h h1 : H} {v : CV} {rs : List RFunc} {l : List Func} (x : NwW h0 h v rs l) (g : Grow h h1) : NwW h0 h1 v rs l := ⟨x.out.grow g⟩
theorem NwW.from {h0 h h1 : H} {v : CV} {rs : List RFunc} {l : List Func} (x : NwW h1 h v rs l) (g : h0.n ≤ h1.n) : NwW h0 h v rs l := ⟨x.out.from g⟩
theorem NwW.mid {h0 h h1 : H} {v : CV} {rs : List RFunc} {l : List Func} {p q : Nat} (x : NwW h0 h v rs l) (m : Mid p q h h1) (hb : q ≤ h0.n) : NwW h0 h1 v rs l := ⟨x.out.mid m hb⟩
theorem NwW.sl {h0 h : H} {v : CV} {rs : List RFunc} {l : List Func} (x : NwW h0 h v rs l) : SlW h v l := ⟨rs, x.out.rd⟩
theorem OwW.nil {h0 h : H} {f : Nat → Func} {v : CV} (x : Nw encW 2 48 h0 h (.one v) []) : OwW h0 h v [] 0 f := ⟨x, rfl, fun i hi => absurd hi (Nat.not_lt_zero _), fun i hi => absurd hi (Nat.not_lt_zero _), fun i j hi => absurd hi (Nat.not_lt_zero _)⟩
theorem NwW.nil {h0 h : H} : NwW h0 h (.sl none 0 (some 0)) [] [] := ⟨.nil .nil⟩
theorem NwW.scalar {h0 h : H} {v : CV} {rs : List RFunc} {l : List Func} (x : NwW h0 h v rs l) (hs : v.scalar = true) (h2 : H) : NwW h0 h2 v rs l := by
  have y := x.out
  have e := y.out.scalar (by simpa [AV.scalar] using hs) h2
  have e2 : rs = [] := by
    rcases y.out.inv with ⟨_, e⟩ | ⟨b, o, e, _⟩ | ⟨b, cs, e, _⟩ | ⟨b, c, e, _⟩
    · exact e
    all_goals
      have e := AV.one.inj e
      subst e
      simp [CV.scalar] at hs
  subst e2
  have e3 : l = [] := List.length_eq_zero_iff.1 y.len.symm
  subst e3
  exact ⟨.nil e⟩
theorem NwW.clip {h0 h : H} {v : CV} {rs : List RFunc} {l : List Func} {v2 : CV} (y : NwW h0 h v rs l) (o : Nw encW 2 48 h0 h (.one v2) rs) (bv : ∀ i, baseOf (.one v2) = some i → baseOf (.one v) = some i) : NwW h0 h v2 rs l := by
  have x := y.out
  exact ⟨⟨o, x.len, x.el, fun i hi j hj => x.vqv i hi j (bv j hj), x.oqvqv⟩⟩
def updW (f : Nat → Func) (i : Nat) (a : Func) : Nat → Func := fun j => if j = i then a else f j
theorem OwW.set {h0 h h1 : H} {v : CV} {rs : List RFunc} {n : Nat} {f : Nat → Func} (x : OwW h0 h v rs n f) {i : Nat} (hi : i < rs.length) {r : RFunc} {a : Func} (o : Nw encW 2 48 h0 h1 (.one v) (rs.set i r)) (st : Stay (.one v) h h1)
    (ename : r.name = a.name) (rqv : r.qv = rs[i].qv) (dqv : a.params = (f i).params) : OwW h0 h1 v (rs.set i r) n (updW f i a) := by
  have qqv : ∀ j (hj : j < (rs.set i r).length), (rs.set i r)[j].qv = (rs[j]'(by simpa using hj)).qv := fun j hj => by
    rw [List.getElem_set]
    split
    · rename_i e; subst e; exact rqv
    · rfl
  refine ⟨o, by simp [x.len], fun j hj => ?_, fun j hj => ?_, fun j k hj hk hjk => ?_⟩
  · have hj2 : j < rs.length := by simpa using hj
    have z := x.el j hj2
    by_cases e : j = i
    · subst e
      have eu : updW f j a j = a := if_pos rfl
      rw [eu, List.getElem_set_self]
      exact ⟨ename, by rw [rqv, dqv]; exact z.params.stay st (x.vqv j hj2).symm⟩
    · have eu : updW f i a j = f j := if_neg e
      rw [eu, List.getElem_set_ne (Ne.symm e)]
      exact ⟨z.name, z.params.stay st (x.vqv j hj2).symm⟩
  · rw [qqv]; exact x.vqv j _
  · rw [qqv, qqv]; exact x.oqvqv j k _ _ hjk
/-- One slice of one element turned. -/
theorem OwW.params {h0 h h1 : H} {v : CV} {rs : List RFunc} {n : Nat} {f : Nat → Func} (x : OwW h0 h v rs n f) {i : Nat} (hi : i < rs.length) {l : List Param} (o : NwQ h0 h1 (.one rs[i].qv) l) (st : Stay (.one rs[i].qv) h h1) : OwW h0 h1 v rs n (updW f i { f i with params := l }) := by
  refine ⟨x.out.stay st (x.vqv i hi), x.len, fun j hj => ?_, x.vqv, x.oqvqv⟩
  have z := x.el j hj
  by_cases e : j = i
  · subst e
    have eu : updW f j { f j with params := l } j = { f j with params := l } := if_pos rfl
    rw [eu]
    exact ⟨z.name, o⟩
  · have eu : updW f i { f i with params := l } j = f j := if_neg e
    rw [eu]
    exact ⟨z.name, z.params.stay st (x.oqvqv j i hj hi e)⟩
/-- One more behind: its slices are of a later time. -/
theorem OwW.push {h0 h h1 h2 : H} {v s : CV} {rs : List RFunc} {n : Nat} {f : Nat → Func} {r : RFunc} {a : Func} (x : OwW h0 h v rs n f) (g : Grow h h1) (y : NtW h h1 r a) (bqv : ∀ i, baseOf (.one r.qv) = some i → h.n ≤ i ∧ i < h1.n) 
    (o : Nw encW 2 48 h0 h2 (.one s) (rs ++ [r])) (st : Stay (.one v) h1 h2) (hb : ∀ i, baseOf (.one s) = some i → baseOf (.one v) = some i ∨ h1.n ≤ i) (hg : h0.n ≤ h.n) : OwW h0 h2 s (rs ++ [r]) (n + 1) (fun i => if i < n then f i else a) := by
  have ol : ∀ (i : Nat) (hi : i < (rs ++ [r]).length), (i < n ∧ ∃ hj : i < rs.length, (rs ++ [r])[i] = rs[i]) ∨ (i = n ∧ (rs ++ [r])[i] = r) := fun i hi => by
    have hl := x.len
    by_cases hj : i < rs.length
    · exact .inl ⟨by omega, hj, List.getElem_append_left hj⟩
    · have : i = n := by simp at hi; omega
      exact .inr ⟨this, by rw [List.getElem_append_right (by omega)]; simp [show i - rs.length = 0 by omega]⟩
  have vb : ∀ i, baseOf (.one v) = some i → i < h.n := fun i hi => (x.out.lt hi).1
  have nqv : SepC v r.qv := Sep.new vb (fun i hi => (bqv i hi).1)
  have wqv : SepC s r.qv := fun i hi hj => by
    rcases hb i hi with e | e
    · exact nqv i e hj
    · have := (bqv i hj).2; omega
  have lbqv : ∀ i (hi : i < rs.length) j, baseOf (.one rs[i].qv) = some j → j < h.n := fun i hi j hj => ((x.el i hi).params.lt hj).1
  have uqv : ∀ i (hi : i < rs.length), SepC s rs[i].qv := fun i hi j hj hk => by
    rcases hb j hj with e | e
    · exact x.vqv i hi j e hk
    · have := lbqv i hi j hk; have := g.n; omega
  refine ⟨o, by simp [x.len], fun i hi => ?_, fun i hi => ?_, fun i j hi hj hij => ?_⟩
  · rcases ol i hi with ⟨e, hj, e2⟩ | ⟨e, e2⟩
    · rw [e2, if_pos e]
      have z := (x.el i hj).grow g
      exact ⟨z.name, z.params.stay st (x.vqv i hj).symm⟩
    · rw [e2, if_neg (by omega)]
      have z := y.from hg
      exact ⟨z.name, z.params.stay st nqv.symm⟩
  · rcases ol i hi with ⟨e, hj, e2⟩ | ⟨e, e2⟩
    · rw [e2]; exact uqv i hj
    · rw [e2]; exact wqv
  · rcases ol i hi with ⟨e, hk, e2⟩ | ⟨e, e2⟩ <;> rcases ol j hj with ⟨d, hl, d2⟩ | ⟨d, d2⟩
    · rw [e2, d2]; exact x.oqvqv i j hk hl hij
    · rw [e2, d2]; exact Sep.new (lbqv i hk) (fun k hk => (bqv k hk).1)
    · rw [e2, d2]; exact (Sep.new (lbqv j hl) (fun k hk => (bqv k hk).1)).symm
    · omega
theorem getW_push {l : List Func} {a : Func} {j : Nat} (hj : j < l.length + 1) : (if j < l.length then getW l j else a) = getW (l ++ [a]) j := by
  unfold getW
  by_cases e : j < l.length
  · rw [if_pos e, List.getElem?_append_left e]
  · have : j = l.length := by omega
    subst this
    rw [if_neg e, List.getElem?_append_right (Nat.le_refl _)]
    simp
theorem NwW.push {h0 h h1 h2 : H} {v s : CV} {rs : List RFunc} {l : List Func} {r : RFunc} {a : Func} (x : NwW h0 h v rs l) (g : Grow h h1) (y : NtW h h1 r a) (bqv : ∀ i, baseOf (.one r.qv) = some i → h.n ≤ i ∧ i < h1.n) 
    (o : Nw encW 2 48 h0 h2 (.one s) (rs ++ [r])) (st : Stay (.one v) h1 h2) (hb : ∀ i, baseOf (.one s) = some i → baseOf (.one v) = some i ∨ h1.n ≤ i) (hg : h0.n ≤ h.n) : NwW h0 h2 s (rs ++ [r]) (l ++ [a]) := by
  have z := x.out.push g y bqv o st hb hg
  refine ⟨?_⟩
  rw [show (l ++ [a]).length = l.length + 1 by simp]
  exact z.congr (fun j hj => getW_push hj)
def mkEW (k : Int) (a : Func) : Func := ⟨(mtxt k), markL mkQ 4 (k + 1) a.params.length⟩
def cellsEW (a : Func) : Nat := 1 + 4 * a.params.length
def cellsW (l : List Func) : Nat := wsum cellsEW l l.length
def mkW (k : Int) (l : List Func) : List Func := (List.range l.length).map fun j => mkEW (k + (wsum cellsEW l j : Nat)) (getW l j)
theorem mkW_len {k : Int} {l : List Func} : (mkW k l).length = l.length := by simp [mkW]
theorem mkW_get {k : Int} {l : List Func} {j : Nat} (hj : j < l.length) : getW (mkW k l) j = mkEW (k + (wsum cellsEW l j : Nat)) (getW l j) := by
  rw [getW_eq (by rw [mkW_len]; exact hj)]
  simp [mkW]
def mixW (k : Int) (l : List Func) (i : Nat) : Nat → Func := fun j => if j < i then getW (mkW k l) j else getW l j
theorem mixW_at {k : Int} {l : List Func} {i : Nat} (hi : i < l.length) : mixW k l i i = l[i] := (if_neg (Nat.lt_irrefl _)).trans (getW_eq hi)
theorem mixW_zero {k : Int} {l : List Func} {j : Nat} : mixW k l 0 j = getW l j := if_neg (Nat.not_lt_zero _)
theorem mixW_all {k : Int} {l : List Func} {j : Nat} (hj : j < l.length) : mixW k l l.length j = getW (mkW k l) j := if_pos hj
theorem updW_at {f : Nat → Func} {i : Nat} {a : Func} : updW f i a i = a := if_pos rfl
theorem updW_upd {f : Nat → Func} {i : Nat} {a b : Func} : updW (updW f i a) i b = updW f i b := by
  funext j
  unfold updW
  by_cases e : j = i
  · rw [if_pos e, if_pos e]
  · rw [if_neg e, if_neg e, if_neg e]
theorem mixW_next {k : Int} {l : List Func} {i : Nat} (hi : i < l.length) : updW (mixW k l i) i (mkEW (k + (wsum cellsEW l i : Nat)) l[i]) = mixW k l (i + 1) := by
  funext j
  unfold updW
  by_cases e : j = i
  · subst e
    rw [if_pos rfl]
    unfold mixW
    rw [if_pos (Nat.lt_succ_self _), mkW_get hi, getW_eq hi]
  · rw [if_neg e]
    unfold mixW
    by_cases e2 : j < i
    · rw [if_pos e2, if_pos (by omega)]
    · rw [if_neg e2, if_neg (by omega)]
structure miniW (l : List Func) : Prop where
  len : l.length ≤ 1048576
  name : ∀ a ∈ l, a.name.size ≤ 1048576
  params : ∀ a ∈ l, a.params.length ≤ 1048576
  nparams : ∀ a ∈ l, ∀ x ∈ a.params, x.name.size ≤ 1048576
  cells : cellsW l ≤ 4194304
theorem cellsW_le {l : List Func} (h : miniW l) : cellsW l ≤ 4194304 := h.cells

end Go.Proofs.YtoeceafibmafpaaDoor.Am
