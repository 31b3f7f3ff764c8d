/- The abstract machine: the other operations without effect on the heap (operators, parts of structs, functions made, bytes read as text), and all of them together. -/
import Derived.Test.YtnphlonhogcedaaAmPureB
namespace Go.Proofs.Ytnphlonhogcedaa.Am
open Go

section
variable {P : Program} {β : Inj} {w : World} {T : Tm} {ρ : Operand → Value} {h : H} {v : AV}

theorem run_guardA (op : BinOp) (t : TypeId) (x y : Operand) (a b : Value) (h1 : a ≠ .nilIface) (h2 : (∃ c, a = .agg c) → P.eqGuardType P.depth t = false) : (eqGuard op t x y a b).run P w = .ok () w := by
  cases op <;> cases a <;> first
    | (simp [eqGuard]; done)
    | exact absurd rfl h1
    | (cases b <;> simp [eqGuard, program, Sem.run, h2 ⟨_, rfl⟩])

theorem pure_bin {op : BinOp} {x y : Operand} {t u : TypeId} {ax ay : AX} (hO : relO P β w T ρ) (hx : opnd x = some ax) (hy : opnd y = some ay)
    (hv : pureA (.bin op ax ay) T h = some v) : PureOk P β w ρ (.binOp op t x y u) v := by
  have h1 := hO x ax hx
  have h2 := hO y ay hy
  simp only [pureA] at hv
  generalize ax.ev T = vx at h1 hv
  generalize ay.ev T = vy at h2 hv
  unfold binA at hv
  split at hv
  · rename_i k a k' b
    have h1 : ρ x = .int k a := h1
    have h2 : ρ y = .int k' b := h2
    split at hv
    · rename_i hk
      subst hk
      have key : ∀ z : Value, (binOp op t (.int k a) (.int k b)).run P w = .ok z w → (∃ c, v = .one c ∧ relC P β w c z) → PureOk P β w ρ (.binOp op t x y u) v := by
        rintro z hz ⟨c, rfl, hc⟩
        refine ⟨z, fun o ho => ?_, hc⟩
        simp only [execOp, ho, Sem.run_bind, h1, h2]
        rw [run_guardA op t x y _ _ (by simp) (by simp)]
        simp [hz]
      cases op <;> simp only [Option.some.injEq, reduceCtorEq] at hv <;> first
        | (subst hv; exact key _ (by simp [binOp, Op.intArith, Op.intBits, Op.intCmp]) ⟨_, rfl, rfl⟩)
        | (split at hv
           · cases hv
           · rename_i h0; simp only [Option.some.injEq] at hv; subst hv; exact key _ (by simp [binOp, Op.intDiv, h0]) ⟨_, rfl, rfl⟩)
    · simp at hv
  · rename_i a b
    have h1 : ρ x = .string a := h1
    have h2 : ρ y = .string b := h2
    have key : ∀ z : Value, (binOp op t (.string a) (.string b)).run P w = .ok z w → (∃ c, v = .one c ∧ relC P β w c z) → PureOk P β w ρ (.binOp op t x y u) v := by
      rintro z hz ⟨c, rfl, hc⟩
      refine ⟨z, fun o ho => ?_, hc⟩
      simp only [execOp, ho, Sem.run_bind, h1, h2]
      rw [run_guardA op t x y _ _ (by simp) (by simp)]
      simp [hz]
    cases op <;> simp only [Option.some.injEq, reduceCtorEq] at hv <;> first
      | (subst hv; exact key _ (by simp [binOp, Op.stringOp]) ⟨_, rfl, rfl⟩)
      | (split at hv
         · simp at hv
         · rename_i h0; simp only [Option.some.injEq] at hv; subst hv
           refine key (.string (a ++ b)) ?_ ⟨_, rfl, rfl⟩
           have h3 : ¬ (((a.size + b.size : Nat) : Int) > IntKind.i64.max) := by
             have : IntKind.i64.max = 9223372036854775807 := by decide
             omega
           simp only [binOp, Op.stringOp, if_neg h3]
           rfl)
  · simp at hv

theorem pure_eqb {neg : Bool} {op : BinOp} {x y : Operand} {t u : TypeId} {ax ay : AX} (hO : relO P β w T ρ) (hx : opnd x = some ax) (hy : opnd y = some ay) (ht : P.underlying t = some .bool)
    (hop : op = if neg then .neq else .eql) (hv : pureA (.eqb neg ax ay) T h = some v) : PureOk P β w ρ (.binOp op t x y u) v := by
  have h1 := hO x ax hx
  have h2 := hO y ay hy
  simp only [pureA] at hv
  split at hv
  · rename_i a b he he'
    rw [he] at h1
    rw [he'] at h2
    have h1 : ρ x = .bool a := h1
    have h2 : ρ y = .bool b := h2
    simp only [Option.some.injEq] at hv
    subst hv
    have h3 : (Op.equal t (.bool a) (.bool b)).run P w = .ok (a == b) w := by
      exact run_equalIn_bool' w 9999 t a b ht
    refine ⟨.bool ((a == b) != neg), fun o ho => ?_, rfl⟩
    simp only [execOp, ho, Sem.run_bind, h1, h2]
    rw [run_guardA op t x y _ _ (by simp) (by simp)]
    cases neg <;> subst hop <;> simp [binOp, h3]
  · simp at hv

theorem eqnil_run (d : Nat) {t e : TypeId} {b : Option Addr} {n c : Nat} (ht : P.underlying t = some (.slice e)) : (Op.equalIn (d + 1) t (.slice b n c) (.slice none 0 0)).run P w = .ok b.isNone w := by
  cases b <;> simp [Op.equalIn, run_underlyingA ht]

theorem pure_eqnil {neg : Bool} {op : BinOp} {x y : Operand} {t u e : TypeId} {ax ay : AX} (hO : relO P β w T ρ) (hx : opnd x = some ax) (hy : opnd y = some ay) (ht : P.underlying t = some (.slice e))
    (hop : op = if neg then .neq else .eql) (hv : pureA (.eqnil neg ax ay) T h = some v) : PureOk P β w ρ (.binOp op t x y u) v := by
  have h1 := hO x ax hx
  have h2 := hO y ay hy
  simp only [pureA] at hv
  split at hv
  · rename_i a n c n' c' he he'
    rw [he] at h1
    rw [he'] at h2
    obtain ⟨_, _, h2⟩ := h2
    simp only [Option.some.injEq] at hv
    subst hv
    have h3 : ∃ b n'' c'', ρ x = .slice b n'' c'' ∧ b.isNone = a.isNone := by
      cases a with
      | none => exact ⟨none, 0, 0, h1.2.2, rfl⟩
      | some a => obtain ⟨m, c', h1, _⟩ := h1; exact ⟨_, _, _, h1, rfl⟩
    obtain ⟨b, n'', c'', h3, h4⟩ := h3
    have h5 : (Op.equal t (.slice b n'' c'') (.slice none 0 0)).run P w = .ok (a.isNone) w := by
      rw [← h4]
      exact eqnil_run 9999 ht
    refine ⟨.bool (a.isNone != neg), fun o ho => ?_, rfl⟩
    simp only [execOp, ho, Sem.run_bind, h3, h2]
    rw [run_guardA op t x y _ _ (by simp) (by simp)]
    cases neg <;> subst hop <;> simp [binOp, h5]
  · simp at hv

theorem eq_step {d : Nat} {xs ys : Array Value} {f : Field} {fs : List Field} {a b : Value} {r s : Bool} (hn : (f.name == "_") = false) (ha : (part f.type xs f.offset).run P w = .ok a w)
    (hb : (part f.type ys f.offset).run P w = .ok b w) (he : (Op.equalIn d f.type a b).run P w = .ok r w) (hr : (Op.eqFields d xs ys fs).run P w = .ok s w) :
    (Op.eqFields d xs ys (f :: fs)).run P w = .ok (r && s) w := by
  have hn' : f.name ≠ "_" := by simpa using hn
  rw [Op.eqFields]
  simp only [if_pos hn', Sem.run_bind, ha, hb, he, Result.andThen_ok]
  cases r
  · simp
  · simpa using hr

theorem part_scalar {t : TypeId} {k : Nat} {zs : Array Value} {z : Value} {q : List Value} (hz : zs.toList.drop k = z :: q) (hg : isAggT P t = some false) : (part t zs k).run P w = .ok z w := by
  have h3 : zs[k]? = some z := by
    have h4 := congrArg (fun l => l[0]?) hz
    simp at h4
    simpa using h4
  simp [part, run_isAggA hg, h3]
theorem drop_next {zs : Array Value} {z : Value} {q : List Value} {k : Nat} (hz : zs.toList.drop k = z :: q) : zs.toList.drop (k + 1) = q := by
  rw [← List.drop_drop, hz]
  rfl
theorem relL_cons {c : CV} {l : List CV} {vs : List Value} (h : relL P β w (c :: l) vs) : ∃ v r, vs = v :: r ∧ relC P β w c v ∧ relL P β w l r := by
  cases vs with
  | nil => exact h.elim
  | cons v r => exact ⟨v, r, rfl, h.1, h.2⟩

theorem eqK_run {d : Nat} {xs ys : Array Value} : ∀ {fs : List Field} {ks : List Nat} {k : Nat} {as bs : List CV} {r : Bool}, kindsF P k fs = some ks → eqK ks as bs = some r →
    relL P β w as (xs.toList.drop k) → relL P β w bs (ys.toList.drop k) → (Op.eqFields (d + 1) xs ys fs).run P w = .ok r w
  | [], ks, k, as, bs, r, hk, he, h1, h2 => by
    simp [kindsF] at hk
    subst hk
    cases as <;> cases bs <;> simp [eqK] at he
    subst he
    simp [Op.eqFields]
  | f :: fs, ks, k, as, bs, r, hk, he, h1, h2 => by
    unfold kindsF at hk
    split at hk
    · rename_i hf
      obtain ⟨hf1, hf2⟩ := hf
      split at hk
      · rename_i hu
        obtain ⟨ks', hk', rfl⟩ := Option.map_eq_some_iff.1 hk
        have hg : isAggT P f.type = some false := by simp [isAggT, hu]
        cases as with
        | nil => simp [eqK] at he
        | cons a as => cases bs with
          | nil => cases a <;> simp [eqK] at he
          | cons b bs =>
            cases a <;> cases b <;> simp only [eqK, reduceCtorEq] at he
            obtain ⟨r', he2, rfl⟩ := Option.map_eq_some_iff.1 he
            obtain ⟨x, xr, hx, hx1, hx2⟩ := relL_cons h1
            obtain ⟨y, yr, hy, hy1, hy2⟩ := relL_cons h2
            have hx1 : x = .bool _ := hx1
            have hy1 : y = .bool _ := hy1
            refine eq_step hf1 (by rw [hf2]; exact part_scalar hx hg) (by rw [hf2]; exact part_scalar hy hg) ?_ (eqK_run hk' he2 (by rw [drop_next hx]; exact hx2) (by rw [drop_next hy]; exact hy2))
            rw [hx1, hy1]
            simp [Op.equalIn, run_underlyingA hu]
      · rename_i kk hu
        obtain ⟨ks', hk', rfl⟩ := Option.map_eq_some_iff.1 hk
        have hg : isAggT P f.type = some false := by simp [isAggT, hu]
        cases as with
        | nil => simp [eqK] at he
        | cons a as => cases bs with
          | nil => cases a <;> simp [eqK] at he
          | cons b bs =>
            cases a <;> cases b <;> simp only [eqK, reduceCtorEq] at he
            split at he
            rotate_left
            · cases he
            rename_i hkk
            subst hkk
            obtain ⟨r', he2, rfl⟩ := Option.map_eq_some_iff.1 he
            obtain ⟨x, xr, hx, hx1, hx2⟩ := relL_cons h1
            obtain ⟨y, yr, hy, hy1, hy2⟩ := relL_cons h2
            have hx1 : x = .int _ _ := hx1
            have hy1 : y = .int _ _ := hy1
            refine eq_step hf1 (by rw [hf2]; exact part_scalar hx hg) (by rw [hf2]; exact part_scalar hy hg) ?_ (eqK_run hk' he2 (by rw [drop_next hx]; exact hx2) (by rw [drop_next hy]; exact hy2))
            rw [hx1, hy1]
            simp [Op.equalIn, run_underlyingA hu]
      · rename_i hu
        obtain ⟨ks', hk', rfl⟩ := Option.map_eq_some_iff.1 hk
        have hg : isAggT P f.type = some false := by simp [isAggT, hu]
        cases as with
        | nil => simp [eqK] at he
        | cons a as => cases bs with
          | nil => cases a <;> simp [eqK] at he
          | cons b bs =>
            cases a <;> cases b <;> simp only [eqK, reduceCtorEq] at he
            obtain ⟨r', he2, rfl⟩ := Option.map_eq_some_iff.1 he
            obtain ⟨x, xr, hx, hx1, hx2⟩ := relL_cons h1
            obtain ⟨y, yr, hy, hy1, hy2⟩ := relL_cons h2
            have hx1 : x = .string _ := hx1
            have hy1 : y = .string _ := hy1
            refine eq_step hf1 (by rw [hf2]; exact part_scalar hx hg) (by rw [hf2]; exact part_scalar hy hg) ?_ (eqK_run hk' he2 (by rw [drop_next hx]; exact hx2) (by rw [drop_next hy]; exact hy2))
            rw [hx1, hy1]
            simp [Op.equalIn, run_underlyingA hu, beq_toListBytes]
      · simp at hk
    · simp at hk

theorem pure_eqst {neg : Bool} {op : BinOp} {x y : Operand} {t u : TypeId} {fs : Array Field} {ks : List Nat} {ax ay : AX} (hO : relO P β w T ρ) (hx : opnd x = some ax) (hy : opnd y = some ay)
    (ht : P.underlying t = some (.struct fs)) (hk : kindsF P 0 fs.toList = some ks) (hg : P.eqGuardType P.depth t = false) (hs : P.stoodInHeld t = false)
    (hop : op = if neg then .neq else .eql) (hv : pureA (.eqst neg ks ax ay) T h = some v) : PureOk P β w ρ (.binOp op t x y u) v := by
  have h1 := hO x ax hx
  have h2 := hO y ay hy
  simp only [pureA] at hv
  split at hv
  · rename_i a b he he'
    rw [he] at h1
    rw [he'] at h2
    obtain ⟨xs, h1, h3⟩ := h1
    obtain ⟨ys, h2, h4⟩ := h2
    obtain ⟨r, h5, rfl⟩ := Option.map_eq_some_iff.1 hv
    have h6 : (Op.equal t (.agg xs) (.agg ys)).run P w = .ok r w := by
      unfold Op.equal
      rw [show Op.maxDepth = 9999 + 1 from rfl]
      have hfo : P.fieldsOf t = fs := by simp [Program.fieldsOf, ht]
      rw [run_equalIn_struct w 9999 t xs ys (by rw [hfo]; exact ht) hs, hfo]
      exact eqK_run (d := 9998) hk h5 (by simpa using h3) (by simpa using h4)
    refine ⟨.bool (r != neg), fun o ho => ?_, rfl⟩
    simp only [execOp, ho, Sem.run_bind, h1, h2]
    rw [run_guardA op t x y _ _ (by simp) (fun _ => hg)]
    cases neg <;> subst hop <;> simp [binOp, h6]
  · simp at hv

theorem ptrsA_rel : ∀ {xs : List Operand} {as : List AX} {l : List (Nat × Nat)}, relO P β w T ρ → opnds xs = some as → ptrsA (as.map (·.ev T)) = some l → capsR β l (xs.map ρ)
  | [], as, l, hO, ha, hl => by
    simp [opnds] at ha
    subst ha
    simp [ptrsA] at hl
    subst hl
    trivial
  | x :: xs, as, l, hO, ha, hl => by
    unfold opnds at ha
    split at ha
    · rename_i a l' h1 h2
      simp at ha
      subst ha
      have h3 := hO x a h1
      simp only [List.map_cons] at hl
      cases hev : a.ev T with
      | one c =>
        rw [hev] at hl h3
        cases c with
        | ptr p =>
          cases p with
          | none => simp [ptrsA] at hl
          | some p =>
            simp only [ptrsA] at hl
            obtain ⟨l'', h4, rfl⟩ := Option.map_eq_some_iff.1 hl
            exact ⟨h3, ptrsA_rel hO h2 h4⟩
        | _ => simp [ptrsA] at hl
      | _ => rw [hev] at hl; simp [ptrsA] at hl
    · simp at ha

theorem pure_mkfn {f : Nat} {first caps : Array Operand} {as : List AX} (hO : relO P β w T ρ) (h0 : first.size = 0) (ha : opnds caps.toList = some as) (hv : pureA (.mkfn f as) T h = some v) :
    PureOk P β w ρ (.makeFunc (.func f) first caps) v := by
  simp only [pureA] at hv
  obtain ⟨l, h1, rfl⟩ := Option.map_eq_some_iff.1 hv
  have h2 := ptrsA_rel hO ha h1
  have h3 : first = #[] := Array.size_eq_zero_iff.1 h0
  exact ⟨.func (.func f) #[] (caps.map ρ), fun o ho => by simp [execOp, ho, Instr.makeFunc, h3], caps.map ρ, rfl, by simpa using h2⟩

theorem pure_field {x : Operand} {t : TypeId} {f : Nat} {fs : Array Field} {fd : Field} {k : Nat} {agg : Bool} {ax : AX} (hO : relO P β w T ρ) (hx : opnd x = some ax) (ht : P.underlying t = some (.struct fs)) (hf : fs[f]? = some fd)
    (hg : isAggT P fd.type = some agg) (hk : if agg then sizeT P fd.type = some k else k = 1) (hv : pureA (.field fd.offset k agg ax) T h = some v) : PureOk P β w ρ (.field t x f) v := by
  have hr := hO x ax hx
  simp only [pureA] at hv
  split at hv
  · rename_i cs he
    rw [he] at hr
    obtain ⟨arr, h1, h2⟩ := hr
    split at hv
    · rename_i hlen
      cases agg with
      | true =>
        simp only [if_true] at hk hv
        simp only [Option.some.injEq] at hv
        subst hv
        refine ⟨.agg (arr.extract fd.offset (fd.offset + k)), fun o ho => by simp [execOp, ho, Instr.field, run_underlyingA ht, hf, h1, asAgg, part, run_isAggA hg, run_sizeA hk], _, rfl, ?_⟩
        have h3 := (h2.drop fd.offset).take k
        simpa [List.take_drop, Nat.add_comm] using h3
      | false =>
        simp only [Bool.false_eq_true, if_false] at hk hv
        split at hv
        · rename_i c hc
          simp only [Option.some.injEq] at hv
          subst hv
          obtain ⟨u, h3, h4⟩ := h2.get hc
          have h5 : arr[fd.offset]? = some u := by simpa using h3
          exact ⟨u, fun o ho => by simp [execOp, ho, Instr.field, run_underlyingA ht, hf, h1, asAgg, part, run_isAggA hg, h5], h4⟩
        · simp at hv
    · simp at hv
  · simp at hv

theorem pure_bytesStr {x : Operand} {s d e : TypeId} {ax : AX} (hR : Rel P β h w) (hO : relO P β w T ρ) (hx : opnd x = some ax) (hs : P.underlying s = some (.slice e)) (he : P.underlying e = some (.int .u8)) (hd : P.underlying d = some .string)
    (hv : pureA (.bytesStr ax) T h = some v) : PureOk P β w ρ (.convert s d x) v := by
  have hr := hO x ax hx
  simp only [pureA] at hv
  split at hv
  · rename_i a n c hev
    rw [hev] at hr
    obtain ⟨m, c', h1, h2, h3, h4⟩ := hr
    split at hv
    · simp at hv
    rename_i hn0
    split at hv
    · rename_i cs hl
      obtain ⟨l, h5, rfl⟩ := Option.map_eq_some_iff.1 hv
      rcases Nat.eq_zero_or_pos c' with h0 | h0
      · have hn : n = 0 := by omega
        exact absurd hn hn0
      · rcases h4 with ⟨h4, _⟩ | ⟨h4, _⟩
        · omega
        obtain ⟨vs, h6, h7, h8⟩ := load_rel hR h4 hl
        have h9 := strBytes_rel h7 h5
        subst h9
        have h10 := h4.spot
        obtain ⟨b, o, sp⟩ := m
        simp only at h10
        subst h10
        refine ⟨.string (strOfNums l), fun oo ho => ?_, rfl⟩
        have h11 := run_convert_bytes_arg (w := w) s e hs he b o n c' l (by simpa using h6) (fun i hi => by
          have h12 := h8 i (.int .u8 (l.getD i 0)) (by
            rw [List.getElem?_map]
            have : i < l.length := by simp at h6; omega
            simp [List.getD_eq_getElem?_getD, List.getElem?_eq_getElem this])
          unfold Addr.add at h12
          by_cases hi0 : i = 0
          · simpa [hi0] using h12
          · simpa [hi0] using h12) d hd
        simp [execOp, ho, h1, h11]
    · simp at hv
  · simp at hv
end
end Go.Proofs.Ytnphlonhogcedaa.Am
