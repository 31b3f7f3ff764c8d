/- The abstract machine: each operation without effect on the heap, one by one, against the model's. -/
import Derived.Test.YtnphlonhogcedaaAmPure
import Derived.Laws.StructEq
namespace Go.Proofs.Ytnphlonhogcedaa.Am
open Go

/-- The model's operation gives a value that v stands for; the world stays. -/
def PureOk (P : Program) (β : Inj) (w : World) (ρ : Operand → Value) (op : Op) (v : AV) : Prop :=
  ∃ u, (∀ o : Oper, o.op = op → (execOp ρ o).run P w = .ok (.value u) w) ∧ relV P β w v u

section
variable {P : Program} {β : Inj} {w : World} {T : Tm} {ρ : Operand → Value} {h : H} {v : AV}

theorem pure_mov {x : Operand} {ax : AX} (hO : relO P β w T ρ) (hx : opnd x = some ax) (hv : pureA (.mov ax) T h = some v) : PureOk P β w ρ (.move x) v ∧ PureOk P β w ρ (.assign x) v := by
  simp only [pureA, Option.some.injEq] at hv
  subst hv
  exact ⟨⟨ρ x, fun o ho => by simp [execOp, ho], hO x ax hx⟩, ⟨ρ x, fun o ho => by simp [execOp, ho], hO x ax hx⟩⟩

theorem pure_pick {c a b : Operand} {ac aa ab : AX} (hO : relO P β w T ρ) (h1 : opnd c = some ac) (h2 : opnd a = some aa) (h3 : opnd b = some ab)
    (hv : pureA (.pick ac aa ab) T h = some v) : PureOk P β w ρ (.pick c a b) v := by
  have hc := hO c ac h1
  simp only [pureA] at hv
  split at hv
  · rename_i t he
    rw [he] at hc
    have hc : ρ c = .bool t := hc
    simp only [Option.some.injEq] at hv
    subst hv
    refine ⟨if t then ρ a else ρ b, fun o ho => ?_, ?_⟩
    · simp [execOp, ho, hc, asBool]
    · cases t
      · exact hO b ab h3
      · exact hO a aa h2
  · simp at hv

theorem pure_nilCheck {x : Operand} {ax : AX} (hO : relO P β w T ρ) (hx : opnd x = some ax) (hv : pureA (.nilCheck ax) T h = some v) : PureOk P β w ρ (.nilCheck x) v := by
  have hr := hO x ax hx
  simp only [pureA] at hv
  split at hv
  · rename_i a he
    simp only [Option.some.injEq] at hv
    subst hv
    rw [he] at hr
    obtain ⟨m, h1, h2⟩ := hr
    exact ⟨_, fun o ho => by simp [execOp, ho, h1], m, rfl, h2⟩
  · rename_i f c he
    simp only [Option.some.injEq] at hv
    subst hv
    rw [he] at hr
    obtain ⟨cv, h1, h2⟩ := hr
    exact ⟨_, fun o ho => by simp [execOp, ho, h1], cv, rfl, h2⟩
  · simp at hv

theorem pure_extract {x : Operand} {ax : AX} {i : Nat} (hO : relO P β w T ρ) (hx : opnd x = some ax) (hv : pureA (.extract ax i) T h = some v) : PureOk P β w ρ (.extract x i) v := by
  have hr := hO x ax hx
  simp only [pureA] at hv
  split at hv
  · rename_i l he
    rw [he] at hr
    obtain ⟨arr, h1, h2⟩ := hr
    obtain ⟨u, h3, h4⟩ := relT.get h2 hv
    have h5 : arr[i]? = some u := by simpa using h3
    exact ⟨u, fun o ho => by simp [execOp, ho, h1, Instr.extract, h5], h4.relV⟩
  · simp at hv

theorem pure_not {x : Operand} {t : TypeId} {ax : AX} (hO : relO P β w T ρ) (hx : opnd x = some ax) (hv : pureA (.not ax) T h = some v) : PureOk P β w ρ (.unOp .not t x) v := by
  have hr := hO x ax hx
  simp only [pureA] at hv
  split at hv
  · rename_i b he
    simp only [Option.some.injEq] at hv
    subst hv
    rw [he] at hr
    have hr : ρ x = .bool b := hr
    exact ⟨.bool (!b), fun o ho => by simp [execOp, ho, hr, Op.unary], rfl⟩
  · simp at hv

theorem pure_conv {x : Operand} {s d : TypeId} {ax : AX} {k k0 : IntKind} (hO : relO P β w T ρ) (hx : opnd x = some ax) (hs : P.underlying s = some (.int k0)) (hd : P.underlying d = some (.int k))
    (hv : pureA (.conv k ax) T h = some v) : PureOk P β w ρ (.convert s d x) v := by
  have hr := hO x ax hx
  simp only [pureA] at hv
  split at hv
  · rename_i k1 n he
    simp only [Option.some.injEq] at hv
    subst hv
    rw [he] at hr
    have hr : ρ x = .int k1 n := hr
    exact ⟨.int k (k.wrap n), fun o ho => by simp [execOp, ho, hr, convert, run_underlyingA hs, run_underlyingA hd, Conv.intToInt], rfl⟩
  · simp at hv

theorem pure_len {x : Operand} {t e : TypeId} {ax : AX} (hO : relO P β w T ρ) (hx : opnd x = some ax) (ht : P.underlying t = some (.slice e))
    {c : Call} (hc : c.callee = .builtin .len) (ha : c.args.toList = [x]) (hty : c.argTypes[0]? = some t) (hv : pureA (.len ax) T h = some v) : PureOk P β w ρ (.call c) v := by
  have hr := hO x ax hx
  have hargs : c.args = #[x] := by rw [← Array.toArray_toList (xs := c.args), ha]
  simp only [pureA] at hv
  split at hv
  · rename_i a n k he
    simp only [Option.some.injEq] at hv
    subst hv
    rw [he] at hr
    have hr : ∃ b c, ρ x = .slice b n c := by
      cases a with
      | none => exact ⟨none, 0, by rw [hr.2.2, hr.1]⟩
      | some a => obtain ⟨m, c', h1, _⟩ := hr; exact ⟨_, c', h1⟩
    obtain ⟨b, cc, hr⟩ := hr
    exact ⟨.int .i64 n, fun o ho => by simp [execOp, ho, resolve, hc, hargs, invoke, builtin, Builtin.len_, hty, hr, run_underlyingA ht, goInt], rfl⟩
  · simp at hv

theorem pure_lenStr {x : Operand} {t : TypeId} {ax : AX} (hO : relO P β w T ρ) (hx : opnd x = some ax) (ht : P.underlying t = some .string)
    {c : Call} (hc : c.callee = .builtin .len) (ha : c.args.toList = [x]) (hty : c.argTypes[0]? = some t) (hv : pureA (.lenStr ax) T h = some v) : PureOk P β w ρ (.call c) v := by
  have hr := hO x ax hx
  have hargs : c.args = #[x] := by rw [← Array.toArray_toList (xs := c.args), ha]
  simp only [pureA] at hv
  split at hv
  · rename_i s he
    simp only [Option.some.injEq] at hv
    subst hv
    rw [he] at hr
    have hr : ρ x = .string s := hr
    exact ⟨.int .i64 s.size, fun o ho => by simp [execOp, ho, resolve, hc, hargs, invoke, builtin, Builtin.len_, hty, hr, run_underlyingA ht, goInt], rfl⟩
  · simp at hv

theorem pure_cap {x : Operand} {t e : TypeId} {ax : AX} (hO : relO P β w T ρ) (hx : opnd x = some ax) (ht : P.underlying t = some (.slice e))
    {c : Call} (hc : c.callee = .builtin .cap) (ha : c.args.toList = [x]) (hty : c.argTypes[0]? = some t) (hv : pureA (.cap ax) T h = some v) : PureOk P β w ρ (.call c) v := by
  have hr := hO x ax hx
  have hargs : c.args = #[x] := by rw [← Array.toArray_toList (xs := c.args), ha]
  simp only [pureA] at hv
  split at hv
  · rename_i a n k he
    simp only [Option.some.injEq] at hv
    subst hv
    rw [he] at hr
    have hr : ∃ b, ρ x = .slice b n k := by
      cases a with
      | none => obtain ⟨h1, h2, h3⟩ := hr; simp at h2; subst h1; subst h2; exact ⟨none, h3⟩
      | some a =>
        obtain ⟨m, c', h1, _, h2, _⟩ := hr
        simp at h2
        subst h2
        exact ⟨_, h1⟩
    obtain ⟨b, hr⟩ := hr
    exact ⟨.int .i64 k, fun o ho => by simp [execOp, ho, resolve, hc, hargs, invoke, builtin, Builtin.cap_, hty, hr, run_underlyingA ht, goInt], rfl⟩
  · simp at hv

theorem pure_min {x y : Operand} {ax ay : AX} (hO : relO P β w T ρ) (hx : opnd x = some ax) (hy : opnd y = some ay)
    {c : Call} (hc : c.callee = .builtin .min) (ha : c.args.toList = [x, y]) (hv : pureA (.min ax ay) T h = some v) : PureOk P β w ρ (.call c) v := by
  have h1 := hO x ax hx
  have h2 := hO y ay hy
  have hargs : c.args = #[x, y] := by rw [← Array.toArray_toList (xs := c.args), ha]
  simp only [pureA] at hv
  split at hv
  · rename_i k a k' b he he'
    rw [he] at h1
    rw [he'] at h2
    have h1 : ρ x = .int k a := h1
    have h2 : ρ y = .int k' b := h2
    split at hv
    · rename_i hk
      simp only [Option.some.injEq] at hv
      subst hv
      subst hk
      exact ⟨.int k (if b < a then b else a), fun o ho => by simp [execOp, ho, resolve, hc, hargs, invoke, builtin, Builtin.min_, h1, h2, Builtin.min2], rfl⟩
    · simp at hv
  · simp at hv

theorem pure_faddr {x : Operand} {s : TypeId} {f : Nat} {fs : Array Field} {fd : Field} {k : Nat} {ax : AX} (hO : relO P β w T ρ) (hx : opnd x = some ax) (hs : P.underlying s = some (.struct fs)) (hf : fs[f]? = some fd)
    (hk : sizeT P fd.type = some k) (h0 : k ≠ 0) (hv : pureA (.faddr fd.offset ax) T h = some v) : PureOk P β w ρ (.fieldAddr s x f) v := by
  have hr := hO x ax hx
  simp only [pureA] at hv
  split at hv
  · rename_i a he
    simp only [Option.some.injEq] at hv
    subst hv
    rw [he] at hr
    obtain ⟨m, h1, h2⟩ := hr
    refine ⟨.pointer (some (m.add fd.offset)), fun o ho => ?_, _, rfl, h2.add _⟩
    simp [execOp, ho, Instr.fieldAt, run_underlyingA hs, hf, h1, Instr.sureAddr, fieldPlace, run_sizeA hk, h0]
  · simp at hv

theorem pure_iaddr {x i : Operand} {t e : TypeId} {k : Nat} {ax ai : AX} (hO : relO P β w T ρ) (hx : opnd x = some ax) (hi : opnd i = some ai) (ht : P.underlying t = some (.slice e)) (hk : sizeT P e = some k)
    (hv : pureA (.iaddr k ax ai) T h = some v) : PureOk P β w ρ (.indexAddr t x i) v := by
  have h1 := hO x ax hx
  have h2 := hO i ai hi
  simp only [pureA] at hv
  split at hv
  · rename_i a n c kk j he he'
    rw [he] at h1
    rw [he'] at h2
    obtain ⟨m, c', h3, h4, h5, h6⟩ := h1
    have h2 : ρ i = .int kk j := h2
    split at hv
    · rename_i hj
      simp only [Option.some.injEq] at hv
      subst hv
      have hj' : (0 ≤ j ∧ j < (n : Int)) = True := by simp [hj]
      rcases h6 with ⟨h6, _⟩ | ⟨h6, _⟩
      · omega
      refine ⟨.pointer (some (m.add (j.toNat * k))), fun o ho => ?_, _, rfl, h6.add _⟩
      simp [execOp, ho, Instr.indexAt, h2, h3, asIntOf, run_underlyingA ht, hj', run_sizeA hk]
    · simp at hv
  · simp at hv

theorem pure_idxStr {x i : Operand} {t : TypeId} {ax ai : AX} (hO : relO P β w T ρ) (hx : opnd x = some ax) (hi : opnd i = some ai) (ht : P.underlying t = some .string)
    (hv : pureA (.idxStr ax ai) T h = some v) : PureOk P β w ρ (.index t x i) v := by
  have h1 := hO x ax hx
  have h2 := hO i ai hi
  simp only [pureA] at hv
  split at hv
  · rename_i s kk j he he'
    rw [he] at h1
    rw [he'] at h2
    have h1 : ρ x = .string s := h1
    have h2 : ρ i = .int kk j := h2
    split at hv
    · rename_i hj
      split at hv
      · rename_i b hb
        simp only [Option.some.injEq] at hv
        subst hv
        exact ⟨.int .u8 b.toNat, fun o ho => by simp [execOp, ho, Instr.index, h1, h2, asIntOf, run_underlyingA ht, hj, hb], rfl⟩
      · simp at hv
    · simp at hv
  · simp at hv

theorem pure_load {x : Operand} {t : TypeId} {k : Nat} {agg : Bool} {ax : AX} (hR : Rel P β h w) (hO : relO P β w T ρ) (hx : opnd x = some ax) (hg : isAggT P t = some agg) (hk : if agg then sizeT P t = some k else k = 1)
    (hv : pureA (.load k agg ax) T h = some v) : PureOk P β w ρ (.load t x) v := by
  have hr := hO x ax hx
  simp only [pureA] at hv
  split at hv
  · rename_i a he
    rw [he] at hr
    obtain ⟨m, h1, h2⟩ := hr
    split at hv
    · rename_i cs hl
      obtain ⟨u, h3, h4⟩ := run_loadVarA hR h2 hg hk hl
      refine ⟨u, fun o ho => by simp [execOp, ho, Instr.loadAt, h1, Instr.sureAddr, h3], ?_⟩
      cases agg with
      | true => simp at hv; subst hv; exact h4
      | false =>
        simp only [Bool.false_eq_true, if_false] at hv h4
        split at hv
        · simp at hv; subst hv; exact h4
        · simp at hv
    · simp at hv
  · simp at hv

theorem boundsA_known {n c l h' : Nat} {m : Option Nat} {lo hi mx : Option AX} (hb : boundsA T n (some c) lo hi mx = some (l, h', m)) : m.isSome = true := by
  unfold boundsA at hb
  split at hb
  · simp at hb
  · rename_i m0 hm0
    split at hb
    · simp at hb
    · split at hb
      · simp at hb
      · simp only [Option.some.injEq, Prod.mk.injEq] at hb
        obtain ⟨_, _, rfl⟩ := hb
        unfold maxA at hm0
        split at hm0
        · obtain ⟨q, _, rfl⟩ := Option.map_eq_some_iff.1 hm0
          rfl
        · simp at hm0
          subst hm0
          rfl

theorem pure_slice {x : Operand} {lo hi mx : Option Operand} {t e : TypeId} {k : Nat} {ax : AX} {alo ahi amx : Option AX} (hR : Rel P β h w) (hO : relO P β w T ρ) (hx : opnd x = some ax)
    (h1 : oopnd lo = some alo) (h2 : oopnd hi = some ahi) (h3 : oopnd mx = some amx) (ht : P.underlying t = some (.slice e)) (hk : sizeT P e = some k) (hk' : k = P.cellsOf e)
    (hv : pureA (.slice e k ax alo ahi amx) T h = some v) : PureOk P β w ρ (.slice t x lo hi mx) v := by
  have hr := hO x ax hx
  simp only [pureA] at hv
  split at hv
  · rename_i n c he
    rw [he] at hr
    obtain ⟨h4, h5, h6⟩ := hr
    subst h4
    subst h5
    split at hv
    · rename_i l h' m hb
      simp only [Option.some.injEq] at hv
      subst hv
      obtain ⟨m', h7, h8, h9, h10, h11⟩ := boundsA_run true hO h1 h2 h3 (Nat.le_refl 0) (.inr rfl) hb
      have e1 : m' = 0 := by omega
      have e2 : h' = 0 := by omega
      have e3 : l = 0 := by omega
      subst e1
      subst e2
      subst e3
      refine ⟨.slice none 0 0, fun o ho => ?_, ?_⟩
      · simp [execOp, ho, Instr.sliceAt, Instr.slice, run_underlyingA ht, h6, h7, run_sizeA hk]
      · have : m = some 0 := by
          rcases h11 with rfl | rfl
          · have h8 := boundsA_known hb
            simp at h8
          · rfl
        subst this
        exact ⟨rfl, rfl, rfl⟩
    · simp at hv
  · rename_i a n c he
    rw [he] at hr
    obtain ⟨mm, c', h4, h5, h6, h7⟩ := hr
    split at hv
    · rename_i l h' m hb
      split at hv
      · rename_i hty
        simp only [Option.some.injEq] at hv
        subst hv
        obtain ⟨m', g1, g2, g3, g4, g5⟩ := boundsA_run true hO h1 h2 h3 h5 h6 hb
        refine ⟨.slice (if m' = l then some mm else some (mm.add (l * k))) (h' - l) (m' - l), fun o ho => ?_, ?_⟩
        · simp [execOp, ho, Instr.sliceAt, Instr.slice, run_underlyingA ht, h4, g1, run_sizeA hk]
        · by_cases hml : m' = l
          · rw [if_pos hml]
            refine ⟨mm, m' - l, rfl, by omega, by rcases g5 with rfl | rfl <;> simp, .inl ⟨by omega, ?_⟩⟩
            rcases h7 with ⟨_, h7⟩ | ⟨⟨b, d, h7, _⟩, _⟩
            · exact h7
            · exact ⟨_, h7⟩
          · rw [if_neg hml]
            rcases h7 with ⟨h7, _⟩ | ⟨h7, h7x | ⟨ts, s, h8, h9⟩⟩
            · omega
            · refine ⟨_, m' - l, rfl, by omega, by rcases g5 with rfl | rfl <;> simp, .inr ⟨h7.add _, .inl ?_⟩⟩
              unfold Addr.add
              split <;> exact h7x
            by_cases hex : exempt β mm.block
            · refine ⟨_, m' - l, rfl, by omega, by rcases g5 with rfl | rfl <;> simp, .inr ⟨h7.add _, .inl ?_⟩⟩
              unfold Addr.add
              split <;> exact hex
            refine ⟨_, m' - l, rfl, by omega, by rcases g5 with rfl | rfl <;> simp, .inr ⟨h7.add _, .inr ⟨ts, s, ?_, ?_⟩⟩⟩
            · unfold Addr.add
              split <;> exact h8
            · have hoff : (mm.add (l * k)).off = mm.off + l * k := by
                unfold Addr.add
                split
                · omega
                · rfl
              obtain ⟨b, d, hb1, rfl⟩ := h7
              obtain ⟨s', hb2⟩ := (hR.ty _ _ _ hb1).resolve_left hex
              have hty := hty.2
              have : ts = e := by
                rw [show (⟨b, d + a.2, none⟩ : Addr).block = b from rfl] at h8
                rw [hb2] at h8
                simp at h8
                rw [← h8.1, hty]
              subst this
              rw [hoff, hk']
              have e5 : l * P.cellsOf ts + (m' - l) * P.cellsOf ts ≤ c' * P.cellsOf ts := by
                rw [← Nat.add_mul]
                exact Nat.mul_le_mul_right _ (by omega)
              omega
      · simp at hv
    · simp at hv
  · simp at hv

theorem pure_sliceStr {x : Operand} {lo hi : Option Operand} {t : TypeId} {ax : AX} {alo ahi : Option AX} (hO : relO P β w T ρ) (hx : opnd x = some ax)
    (h1 : oopnd lo = some alo) (h2 : oopnd hi = some ahi) (ht : P.underlying t = some .string)
    (hv : pureA (.sliceStr ax alo ahi) T h = some v) : PureOk P β w ρ (.slice t x lo hi none) v := by
  have hr := hO x ax hx
  simp only [pureA] at hv
  split at hv
  · rename_i s he
    rw [he] at hr
    have hr : ρ x = .string s := hr
    split at hv
    · rename_i l h' m hb
      simp only [Option.some.injEq] at hv
      subst hv
      obtain ⟨m', g1, g2, g3, g4, g5⟩ := boundsA_run false hO h1 h2 (mx := none) rfl (Nat.le_refl s.size) (.inr rfl) hb
      refine ⟨.string (s.extract l h'), fun o ho => ?_, rfl⟩
      simp only [Option.map_none] at g1
      simp [execOp, ho, Instr.sliceAt, Instr.slice, run_underlyingA ht, hr, g1]
    · simp at hv
  · simp at hv
end
end Go.Proofs.Ytnphlonhogcedaa.Am
