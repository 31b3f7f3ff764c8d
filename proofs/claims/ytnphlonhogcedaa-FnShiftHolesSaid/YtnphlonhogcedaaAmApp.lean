/- The abstract machine: append and calls against the model's; then all operations together. -/
import Derived.Test.YtnphlonhogcedaaAmEff
namespace Go.Proofs.Ytnphlonhogcedaa.Am
open Go

section
variable {P : Program} {β : Inj} {w : World} {T : Tm} {a : Act} {h h' : H} {v : AV}

/-! ### append: the model's runs -/
theorem run_append_zero {t ty e : TypeId} {k : Nat} (ht : P.underlying t = some (.slice e)) (hk : sizeT P e = some k) (b x : Option Addr) (n c xc : Nat) (hn : n ≤ c) :
    (Builtin.append_ #[t, t] ty #[.slice b n c, .slice x 0 xc]).run P w = .ok (.slice b n c) w := by
  cases b <;> cases x <;> simp [Builtin.append_, run_underlyingA ht, run_sizeA hk, Builtin.lenOf, hn, Builtin.firstCells, loadCells, loadCellsFrom, storeCells]

theorem run_append_in {t ty e : TypeId} {k : Nat} (ht : P.underlying t = some (.slice e)) (hk : sizeT P e = some k) (g o : Nat) (x : Addr) (n c m xc : Nat) (hn : n + m ≤ c) {news : List Value}
    (hl : news.length = m * k) (hx : ∀ (j : Nat) (v : Value), news[j]? = some v → w.cell? (x.add j) = some v) {te : TypeId} {cur : Array Value} (hg : w.heap[g]? = some (.cells cur te (0, 0)))
    (hroom : o + n * k + news.length ≤ cur.size) (h1 : ∀ v ∈ news, v.oneCell' = true) :
    (Builtin.append_ #[t, t] ty #[.slice (some ⟨g, o, none⟩) n c, .slice (some x) m xc]).run P w =
      .ok (.slice (some ⟨g, o, none⟩) (n + m) c) (w.setRow g (cur.toList.take (o + n * k) ++ news ++ cur.toList.drop (o + n * k + news.length)).toArray) := by
  have hload : (loadCells x (m * k)).run P w = .ok news.toArray w := by
    rw [← hl]
    exact run_loadCells_list w x news hx
  have hadd : (⟨g, o, none⟩ : Addr).add (n * k) = ⟨g, o + n * k, none⟩ := by unfold Addr.add; split <;> simp_all
  have hst := run_storeCells_at P g (o + n * k) te news 0 cur w hg (by simpa using hroom) h1
  simp only [Nat.add_zero] at hst
  simp [Builtin.append_, run_underlyingA ht, run_sizeA hk, Builtin.lenOf, hn, Builtin.firstCells, hload, hadd, hst]

/-! ### append: a block that is given up -/
theorem kill_f {i j : Nat} : (h.kill i).f j = if j = i then { h.f i with st := .dead } else h.f j := rfl
theorem Rel.killed (hR : Rel P β h w) (i : Nat) : Rel P β (h.kill i) w := by
  refine ⟨?_, ?_, ?_, hR.dom, ?_, hR.top⟩
  · intro j b d hb
    rw [kill_f]
    rcases hR.ty j b d hb with h1 | ⟨s, h1⟩
    · exact .inl h1
    right
    split
    · rename_i e; subst e; exact ⟨s, h1⟩
    · exact ⟨s, h1⟩
  · intro j b d hs hb
    rw [kill_f] at hs ⊢
    split at hs
    · simp at hs
    · rename_i hj
      rw [if_neg hj]
      exact hR.live j b d hs hb
  · intro j k b d d' hjk hj hk hbj hbk
    rw [kill_f] at hj hk
    split at hj
    · simp at hj
    · split at hk
      · simp at hk
      · exact hR.inj j k b d d' hjk hj hk hbj hbk
  · intro j b d hs hb
    rw [kill_f] at hs
    split at hs
    · simp at hs
    · exact hR.low j b d hs hb
theorem Stp.killed (hR : Rel P β h w) {i : Nat} {p : Nat × Nat} (hrw : (h.f i).st = .rw) (hm : β i = some p) : Stp β h w β (h.kill i) w := by
  refine ⟨Ext.refl β, Shapes.refl w, Nat.le_refl _, ?_, ?_, ?_, ?_, fun _ _ _ => rfl, Nat.le_refl _, rfl, rfl, rfl, fun _ => rfl⟩
  · intro j hj h0
    refine ⟨h0, ?_⟩
    rw [kill_f, if_neg (fun e => by subst e; rw [hm] at h0; simp at h0)]
  · intro j hj h0
    rw [kill_f, if_neg (fun e => by subst e; exact h0 hrw)]
  · intro j hj h0
    rw [kill_f] at h0
    split at h0
    · simp at h0
    · exact h0
  · intro j b d hj _ hb
    have hj' : h.n ≤ j := hj
    rw [hR.dom j hj'] at hb
    simp at hb

/-- A row that has grown in its own block: the elder block is given up, the new one stands for the same model block. -/
theorem Rel.regrown (hR : Rel P β h w) {i g d o0 : Nat} (hrw : (h.f i).st = .rw) (hm : β i = some (g, d)) {ty : Nat} (hty : (h.f i).ty = ty) {cur arr : Array Value} (hg : w.heap[g]? = some (.cells cur ty (0, 0))) (hs : arr.size = cur.size) {cs : List CV}
    (hL : ∀ (o : Nat) (c : CV), cs[o]? = some c → ∃ v, arr[o0 + o]? = some v ∧ relC P β w c v) :
    Rel P (β.put h.n (g, o0)) ((h.kill i).alloc cs ty) (w.setRow g arr) ∧ Stp β h w (β.put h.n (g, o0)) ((h.kill i).alloc cs ty) (w.setRow g arr) := by
  have h0 := hR.dom h.n (Nat.le_refl _)
  have he := Inj.put_ext (p := (g, o0)) h0
  have hsh := shapes_setRow w (cs := arr) hg hs
  have hin : i < h.n := by
    rcases Nat.lt_or_ge i h.n with h' | h'
    · exact h'
    · rw [hR.dom i h'] at hm; simp at hm
  have hb : ∀ j b dd, j ≠ h.n → β.put h.n (g, o0) j = some (b, dd) → β j = some (b, dd) := fun j b dd hj hb => by simpa [Inj.put, hj] using hb
  have hself : ∀ b dd, β.put h.n (g, o0) h.n = some (b, dd) → b = g ∧ dd = o0 := fun b dd hb => by simp [Inj.put] at hb; omega
  have hf : ∀ j, j ≠ h.n → j ≠ i → ((h.kill i).alloc cs ty).f j = h.f j := fun j hj hji => by
    rw [show ((h.kill i).alloc cs ty).f j = (h.kill i).f j from alloc_f_old (h := h.kill i) hj, kill_f, if_neg hji]
  have hfi : ((h.kill i).alloc cs ty).f i = { h.f i with st := .dead } := by
    rw [show ((h.kill i).alloc cs ty).f i = (h.kill i).f i from alloc_f_old (h := h.kill i) (show i ≠ h.n by omega), kill_f, if_pos rfl]
  have hfn : ((h.kill i).alloc cs ty).f h.n = ⟨cs, ty, .rw⟩ := alloc_f_new (h := h.kill i)
  have hfty : ∀ j, j ≠ h.n → (((h.kill i).alloc cs ty).f j).ty = (h.f j).ty := fun j hj => by
    by_cases hji : j = i
    · subst hji; rw [hfi]
    · rw [hf j hj hji]
  have hlive : ∀ j, j ≠ h.n → (((h.kill i).alloc cs ty).f j).st ≠ .dead → j ≠ i := fun j _ hjs e => by
    subst e
    rw [hfi] at hjs
    exact hjs rfl
  have hother : ∀ j b dd, j ≠ h.n → (((h.kill i).alloc cs ty).f j).st ≠ .dead → β j = some (b, dd) → b ≠ g := fun j b dd hj hjs hjb e => by
    subst e
    have hji := hlive j hj hjs
    rw [hf j hj hji] at hjs
    exact hR.inj i j b d dd (Ne.symm hji) hrw hjs hm hjb
  obtain ⟨L, dL, hL0, hL1⟩ := hR.top
  refine ⟨⟨?_, ?_, ?_, ?_, ?_, hR.top_put h0 (by simp)⟩, ⟨he, hsh, ?_, ?_, ?_, ?_, ?_, ?_, by simp, rfl, rfl, rfl, frozen_setRow w g arr⟩⟩
  · intro j b dd hjb
    by_cases hj : j = h.n
    · subst hj
      obtain ⟨rfl, rfl⟩ := hself b dd hjb
      rw [hfn]
      exact .inr ⟨arr.size, shape_of_heap (setRow_heap w b cur arr ty _ hg)⟩
    · rcases hR.ty j b dd (hb j b dd hj hjb) with h1 | ⟨s, h1⟩
      · exact .inl (h1.ext he)
      · exact .inr ⟨s, by rw [hfty j hj]; exact hsh _ _ h1⟩
  · intro j b dd hjs hjb
    by_cases hj : j = h.n
    · subst hj
      obtain ⟨rfl, rfl⟩ := hself b dd hjb
      rw [hfn]
      refine ⟨arr, ty, (0, 0), setRow_heap w b cur arr ty _ hg, fun _ => ⟨rfl, rfl⟩, ?_⟩
      intro o c hc
      obtain ⟨v, h1, h2⟩ := hL o c hc
      exact ⟨v, h1, h2.mono he hsh⟩
    · have h1 := hb j b dd hj hjb
      have h2 := hother j b dd hj hjs h1
      have hji := hlive j hj hjs
      rw [hf j hj hji] at hjs ⊢
      obtain ⟨cells', ty', fr, h3, h4, h5⟩ := hR.live j b dd hjs h1
      refine ⟨cells', ty', fr, (setRow_other w g b arr h2).trans h3, h4, ?_⟩
      intro o c hc
      obtain ⟨v, h6, h7⟩ := h5 o c hc
      exact ⟨v, h6, h7.mono he hsh⟩
  · intro j k b dd dd' hjk hj hk hbj hbk
    have hjd : (((h.kill i).alloc cs ty).f j).st ≠ .dead := by rw [hj]; simp
    by_cases hjn : j = h.n
    · subst hjn
      obtain ⟨rfl, rfl⟩ := hself b dd hbj
      exact hother k b dd' (Ne.symm hjk) hk (hb k b dd' (Ne.symm hjk) hbk) rfl
    · by_cases hkn : k = h.n
      · subst hkn
        obtain ⟨rfl, rfl⟩ := hself b dd' hbk
        exact hother j b dd hjn hjd (hb j b dd hjn hbj) rfl
      · rw [hf j hjn (hlive j hjn hjd)] at hj
        rw [hf k hkn (hlive k hkn hk)] at hk
        exact hR.inj j k b dd dd' hjk hj hk (hb j b dd hjn hbj) (hb k b dd' hkn hbk)
  · intro j hj
    have hj' : h.n + 1 ≤ j := hj
    have : j ≠ h.n := by omega
    simp [Inj.put, this, hR.dom j (by omega)]
  · intro j b dd hjs hjb hex
    rw [exempt_put h0 hL0] at hex
    by_cases hj : j = h.n
    · subst hj
      obtain ⟨rfl, rfl⟩ := hself b dd hjb
      exact hR.low i b d hrw hm hex
    · have hji := hlive j hj (by rw [hjs]; simp)
      rw [hf j hj hji] at hjs
      exact hR.low j b dd hjs (hb j b dd hj hjb) hex
  · exact Nat.le_succ _
  · intro j hj hj0
    have hjn : j ≠ h.n := by omega
    have hji : j ≠ i := fun e => by subst e; rw [hm] at hj0; simp at hj0
    exact ⟨by simp [Inj.put, hjn, hj0], hf j hjn hji⟩
  · intro j hj hjs
    exact hf j (by omega) (fun e => by subst e; exact hjs hrw)
  · intro j hj hjs
    by_cases hji : j = i
    · subst hji; exact hrw
    · rwa [hf j (by omega) hji] at hjs
  · intro j b dd hj _ hjb
    by_cases hjn : j = h.n
    · subst hjn
      obtain ⟨rfl, rfl⟩ := hself b dd hjb
      exact .inr ⟨i, d, hin, hrw, hm⟩
    · have := hb j b dd hjn hjb
      rw [hR.dom j hj] at this
      simp at this
  · intro b _ hno
    exact setRow_other w g b arr (fun e => by subst e; exact hno i d hin hrw hm)

theorem nil_of_zero {cs : List CV} {x : AV} {k : Nat} (hs : srcA h k x = some cs) {b : Option (Nat × Nat)} {c : Option Nat} (hx : x = .one (.sl b 0 c)) : cs = [] := by
  subst hx
  simp [srcA] at hs
  exact hs

/-- The cells of a slice. -/
theorem src_rel (hR : Rel P β h w) {k n : Nat} {b : Nat × Nat} {c : Option Nat} {cs : List CV} {m : Addr} {c' : Nat} (hs : srcA h k (.one (.sl (some b) n c)) = some cs)
    (hr : (c' = 0 ∧ (∃ p, β b.1 = some p)) ∨ (addrR β b m ∧ roomR P β w m c')) (hn : n ≤ c') :
    ∃ vs : List Value, vs.length = n * k ∧ relL P β w cs vs ∧ ∀ (j : Nat) (v : Value), vs[j]? = some v → w.cell? (m.add j) = some v := by
  by_cases h0 : n = 0
  · subst h0
    have := nil_of_zero hs rfl
    subst this
    exact ⟨[], by simp, trivial, by simp⟩
  · rcases hr with ⟨hr, _⟩ | ⟨hr, _⟩
    · omega
    · have hl : h.load b (n * k) = some cs := by
        cases n with
        | zero => exact absurd rfl h0
        | succ n => simpa [srcA] using hs
      exact load_rel hR hr hl

theorem src_length {k n : Nat} {b : Option (Nat × Nat)} {c : Option Nat} {cs : List CV} (hs : srcA h k (.one (.sl b n c)) = some cs) : cs.length = n * k := by
  cases n with
  | zero => rw [nil_of_zero hs rfl]; simp
  | succ n =>
    cases b with
    | none => simp [srcA] at hs
    | some b =>
      simp only [srcA] at hs
      unfold H.load at hs
      split at hs
      · rename_i hc
        simp at hs
        subst hs
        simp
        omega
      · simp at hs

theorem grownCap_ge (w : World) (need old : Nat) (e : TypeId) : need ≤ grownCap w need old e := by
  unfold grownCap
  simp [Question.cut]

theorem zeroCells_size (z : Array Value) (n : Nat) : (Builtin.zeroCells z n).size = n * z.size := by
  simp [Builtin.zeroCells]

/-- The new row of an append that grows. -/
theorem grown_new {e : TypeId} {k : Nat} {cs : List CV} {vs : List Value} {z : Array Value} {need g : Nat} (hR : Rel P β h w) (hL : relL P β w cs vs) (hl : vs.length = need * k) (hz : z.size = k) (hke : k = P.cellsOf e) (hg : need ≤ g) :
    Rel P (β.put h.n (w.drew.heap.size, 0)) (h.alloc cs e) (w.drew.alloc (.cells (vs.toArray ++ Builtin.zeroCells z (g - need)) e)) ∧
    Stp β h w (β.put h.n (w.drew.heap.size, 0)) (h.alloc cs e) (w.drew.alloc (.cells (vs.toArray ++ Builtin.zeroCells z (g - need)) e)) ∧
    relC P (β.put h.n (w.drew.heap.size, 0)) (w.drew.alloc (.cells (vs.toArray ++ Builtin.zeroCells z (g - need)) e)) (.sl (some (h.n, 0)) need none) (.slice (some ⟨w.drew.heap.size, 0, none⟩) need g) := by
  have hRd := hR.drew
  have hs : Shapes w w.drew := fun _ _ h => h
  refine ⟨hRd.both ?_, (Stp.drew hR).trans (Stp.both hRd cs e _), _, g, rfl, hg, .inl rfl, .inr ⟨addr_both w.drew, room_new ?_ _⟩⟩
  · intro o c hc
    obtain ⟨u, h1, h2⟩ := hL.get hc
    refine ⟨u, ?_, h2.mono (Ext.refl _) hs⟩
    rw [Array.getElem?_append_left]
    · simpa using h1
    · have := (List.getElem?_eq_some_iff.1 h1).1
      simpa using this
  · rw [Array.size_append, zeroCells_size, hz, ← hke]
    simp only [List.size_toArray, hl]
    rw [← Nat.add_mul]
    exact Nat.mul_le_mul_right _ (by omega)

theorem run_append_zeros (w : World) (t ti ty e : TypeId) (i : TypeInfo) (z : Value) (ht : P.underlying t = some (.slice e)) (hti : P.underlying ti = some (.int .i64)) (hi : P.info? e = some i) (hz : i.zero = some z)
    (n : Nat) (h0 : 0 < n) (h63 : n ≤ 140737488355328) (h48 : n * i.bytes ≤ 140737488355328) (hs : z.cells.size = i.size) :
    (Builtin.append_ #[t, ti] ty #[.slice none 0 0, .int .i64 n]).run P w =
      .ok (.slice (some ⟨w.drew.heap.size, 0, none⟩) n (grownCap w n 0 e)) (w.drew.alloc (.cells (Builtin.zeroCells z.cells n ++ Builtin.zeroCells z.cells (grownCap w n 0 e - n)) e)) := by
  have hn : n ≠ 0 := by omega
  have hw : IntKind.i64.wrap (n : Int) = n := by simp [IntKind.wrap, IntKind.bits, IntKind.signed]; omega
  have h1 : ¬ ((n : Int) < 0) := by omega
  have h2 : ¬ (281474976710656 < (n : Int) * (i.bytes : Int)) := by rw [← Int.natCast_mul]; omega
  have h63' : ¬ (9223372036854775807 < (n : Int)) := by omega
  have h48' : ¬ (281474976710656 < Builtin.nextslicecap n 0 * i.bytes) := by rw [nextslicecap_zero h0]; omega
  by_cases hsz : i.size = 0
  · have e1 : ∀ m, Builtin.zeroCells z.cells m = #[] := fun m => Array.size_eq_zero_iff.1 (by rw [zeroCells_size, hs, hsz, Nat.mul_zero])
    simp [Builtin.append_, run_underlyingA ht, run_underlyingA hti, sizeOf, typeInfo, zeroValue, hi, hz, asInt, asIntOf, hw, h1, h2, hn, h63', h48', Question.forced, run_firstCells_none, newRow, grownCap, e1]
  · simp [Builtin.append_, run_underlyingA ht, run_underlyingA hti, sizeOf, typeInfo, zeroValue, hi, hz, asInt, asIntOf, hw, h1, h2, hn, h63', h48', Question.forced, run_firstCells_none, newRow, grownCap]
    intro h3
    rcases Nat.mul_eq_zero.1 h3 with h3 | h3 <;> omega

theorem zeroCells_rel {z : List CV} {zv : Array Value} (hz : relL P β w z zv.toList) (n : Nat) : relL P β w (repl z n) (Builtin.zeroCells zv n).toList := repl_rel hz n

theorem opOk_appz {c : Call} {t ti e : TypeId} {k b : Nat} {z : List CV} {s x : Operand} {as ax : AX} (hR : Rel P β h w) (hA : relA P β w T a) (hc : c.callee = .builtin .append) (ha : c.args.toList = [s, x])
    (h0 : c.argTypes[0]? = some t) (h1 : c.argTypes[1]? = some ti) (hs : opnd s = some as) (hx : opnd x = some ax) (ht : P.underlying t = some (.slice e)) (hi64 : isI64 P ti = true) (hk : sizeT P e = some k) (hb : bytesT P e = some b) (hz : zeroT P e = some z)
    (_ : 0 < k) (hzl : z.length = k) (_ : 0 < b) (hke : k = P.cellsOf e) {call : Oracle} (hv : opA call (.appz e k b z as ax) T h = some (v, h')) : OpOk P β h w a (.call c) v h' := by
  have hargs : c.args = #[s, x] := by rw [← Array.toArray_toList (xs := c.args), ha]
  obtain ⟨i, zv, i1, i2, i3, i4⟩ := zeroT_spec hz
  have hLz : relL P β w z zv.cells.toList := cvsOf_rel i3
  have hzs : zv.cells.size = k := by have := hLz.length; simp at this; omega
  have hki : i.size = k := by unfold sizeT at hk; rw [i1] at hk; simpa using hk
  have hbi : i.bytes = b := by unfold bytesT at hb; rw [i1] at hb; simpa using hb
  have hti : P.underlying ti = some (.int .i64) := by
    unfold isI64 at hi64
    split at hi64
    · rename_i kk hu
      rw [of_decide_eq_true hi64] at hu
      exact hu
    · simp at hi64
  have hty : ∀ ty args, (Builtin.append_ c.argTypes ty args).run P w = (Builtin.append_ #[t, ti] ty args).run P w := by
    intro ty args
    unfold Builtin.append_
    simp [h0, h1]
  have key : ∀ (u : Value) (w' : World), (∀ ty, (Builtin.append_ #[t, ti] ty #[a.eval s, a.eval x]).run P w = .ok u w') → ∀ o : Oper, o.op = .call c → (execOp a.eval o).run P w = .ok (.value u) w' := by
    intro u w' hr o ho
    have := hr o.type
    rw [← hty] at this
    simp [execOp, ho, resolve, hc, hargs, invoke, builtin, this]
  have rs := hA.opnd s as hs
  have rx := hA.opnd x ax hx
  simp only [opA] at hv
  split at hv
  · rename_i n0 c0 n e1 e2
    rw [e1] at rs
    rw [e2] at rx
    obtain ⟨rfl, hc0, rs⟩ := rs
    have rx : a.eval x = .int .i64 n := rx
    split at hv
    · rename_i hcond
      obtain ⟨hn0, hnb, hn47⟩ := hcond
      simp only [Option.some.injEq, Prod.mk.injEq] at hv
      obtain ⟨rfl, rfl⟩ := hv
      obtain ⟨m, rfl⟩ : ∃ m : Nat, n = m := ⟨n.toNat, by omega⟩
      simp only [Int.toNat_natCast]
      have hmb : m * b ≤ 140737488355328 := by rw [← Int.natCast_mul] at hnb; omega
      have hrel := zeroCells_rel hLz m
      obtain ⟨q1, q2, q3⟩ := grown_new (e := e) (z := zv.cells) (g := grownCap w m 0 e) hR hrel (by simp only [Array.length_toList]; rw [zeroCells_size, hzs]) hzs hke (grownCap_ge w m 0 e)
      refine opOk_value (key _ _ fun ty => ?_) q3 q1 q2
      rw [rs, rx, run_append_zeros w t ti ty e i zv ht hti i1 i2 m (by omega) (by omega) (by rw [hbi]; exact hmb) (by rw [hzs, hki])]
    · simp at hv
  · simp at hv

theorem opOk_append {c : Call} {t e : TypeId} {k b : Nat} {z : List CV} {s x : Operand} {as ax : AX} (hR : Rel P β h w) (hA : relA P β w T a) (hc : c.callee = .builtin .append) (ha : c.args.toList = [s, x])
    (h0 : c.argTypes[0]? = some t) (h1 : c.argTypes[1]? = some t) (hs : opnd s = some as) (hx : opnd x = some ax) (ht : P.underlying t = some (.slice e)) (hk : sizeT P e = some k) (hb : bytesT P e = some b) (hz : zeroT P e = some z)
    (hk0 : 0 < k) (hzl : z.length = k) (hb0 : 0 < b) (hke : k = P.cellsOf e) (hv : appendA e k b (as.ev T) (ax.ev T) h = some (v, h')) : OpOk P β h w a (.call c) v h' := by
  have hargs : c.args = #[s, x] := by rw [← Array.toArray_toList (xs := c.args), ha]
  obtain ⟨i, zv, i1, i2, i3, i4⟩ := zeroT_spec hz
  have hLz : relL P β w z zv.cells.toList := cvsOf_rel i3
  have hzs : zv.cells.size = k := by have := hLz.length; simp at this; omega
  have hki : i.size = k := by unfold sizeT at hk; rw [i1] at hk; simpa using hk
  have hbi : i.bytes = b := by unfold bytesT at hb; rw [i1] at hb; simpa using hb
  have hty : ∀ ty args, (Builtin.append_ c.argTypes ty args).run P w = (Builtin.append_ #[t, t] ty args).run P w := by
    intro ty args
    unfold Builtin.append_
    simp [h0, h1]
  have key : ∀ (u : Value) (w' : World), (∀ ty, (Builtin.append_ #[t, t] ty #[a.eval s, a.eval x]).run P w = .ok u w') → ∀ o : Oper, o.op = .call c → (execOp a.eval o).run P w = .ok (.value u) w' := by
    intro u w' hr o ho
    have := hr o.type
    rw [← hty] at this
    simp [execOp, ho, resolve, hc, hargs, invoke, builtin, this]
  have rs := hA.opnd s as hs
  have rx := hA.opnd x ax hx
  generalize as.ev T = vs at rs hv
  generalize ax.ev T = vx at rx hv
  unfold appendA at hv
  split at hv
  · rename_i base n cp xb m xc
    split at hv
    · rename_i hm
      simp only [Option.some.injEq, Prod.mk.injEq] at hv
      obtain ⟨rfl, rfl⟩ := hv
      subst hm
      have r1 : ∃ bb cc, a.eval s = .slice bb n cc ∧ n ≤ cc := by
        cases base with
        | none => exact ⟨none, 0, by rw [rs.2.2, rs.1], by rw [rs.1]; exact Nat.le_refl _⟩
        | some p => obtain ⟨mm, c', e1, e2, _⟩ := rs; exact ⟨_, c', e1, e2⟩
      have r2 : ∃ bb cc, a.eval x = .slice bb 0 cc := by
        cases xb with
        | none => exact ⟨none, 0, rx.2.2⟩
        | some p => obtain ⟨mm, c', e1, _⟩ := rx; exact ⟨_, c', e1⟩
      obtain ⟨bb, cc, e1, e2⟩ := r1
      obtain ⟨xx, xcc, e3⟩ := r2
      refine opOk_value (u := a.eval s) (w' := w) (β' := β) (key _ _ fun ty => ?_) rs hR (Stp.refl β h w hR.dom)
      rw [e1, e3]
      exact run_append_zero ht hk bb xx n cc xcc e2
    · rename_i hm
      split at hv
      · simp at hv
      · rename_i hby
        split at hv
        · rename_i old new hso hsn
          -- what is appended
          cases xb with
          | none => rw [rx.1] at hm; exact absurd rfl hm
          | some xp =>
          obtain ⟨xm, xc', x1, x2, x3, x4⟩ := rx
          obtain ⟨news, n1, n2, n3⟩ := src_rel hR hsn x4 x2
          have hmb : n + m ≤ 140737488355328 := Nat.le_trans (Nat.le_mul_of_pos_right _ hb0) (by omega)
          split at hv
          · rename_i c0
            split at hv
            · rename_i hfit
              split at hv
              · rename_i p
                split at hv
                · rename_i hblk
                  obtain ⟨h2, hst, he⟩ := Option.map_eq_some_iff.1 hv
                  simp only [Prod.mk.injEq] at he
                  obtain ⟨rfl, rfl⟩ := he
                  obtain ⟨sm, c', s1, s2, s3, s4⟩ := rs
                  have hcc : c0 = c' := by rcases s3 with s3 | s3 <;> simp at s3; exact s3
                  subst hcc
                  rcases s4 with ⟨s4, _⟩ | ⟨⟨g, d, s4, rfl⟩, s5⟩
                  · omega
                  obtain ⟨cur, t1, t2, t3, t4⟩ := hR.stored (a := (p.1, p.2 + n * k)) s4 hst n2
                  have hne : news ≠ [] := by
                    intro h'
                    rw [h'] at n1
                    have := Nat.mul_pos (Nat.pos_of_ne_zero hm) hk0
                    simp at n1
                    omega
                  simp only [if_neg hne] at t3 t4
                  have hroom : d + p.2 + n * k + news.length ≤ cur.size := by
                    rcases t2 with t2 | t2
                    · exact absurd t2 hne
                    · simp only at t2; omega
                  have hrun := fun ty => run_append_in (P := P) (w := w) (ty := ty) ht hk g (d + p.2) xm n c0 m xc' hfit n1 n3 t1 hroom n2.oneCell
                  have ea : d + (p.2 + n * k) = d + p.2 + n * k := by omega
                  simp only [ea] at t3 t4
                  refine opOk_value (key _ _ fun ty => by rw [s1, x1]; exact hrun ty) ?_ t3 t4
                  refine ⟨_, c0, rfl, hfit, .inr rfl, .inr ⟨⟨g, d, s4, rfl⟩, s5.mono t4.ext t4.shapes⟩⟩
                · simp at hv
              · simp at hv
            · rename_i hfit
              simp only [Option.some.injEq, Prod.mk.injEq] at hv
              obtain ⟨rfl, rfl⟩ := hv
              cases base with
              | none =>
                obtain ⟨s1, s2, s3⟩ := rs
                subst s1
                have hold := nil_of_zero hso rfl
                subst hold
                simp only [List.nil_append, Nat.zero_add] at hby hmb ⊢
                obtain ⟨q1, q2, q3⟩ := grown_new (e := e) (z := zv.cells) (g := grownCap w m 0 e) hR n2 n1 hzs hke (grownCap_ge w m 0 e)
                refine opOk_value (key _ _ fun ty => ?_) q3 q1 q2
                rw [s3, x1]
                exact run_append_nil w t ty e i zv ht i1 i2 xm m xc' news (by rw [hki]; exact n1) n3 (by omega) (by omega) (by rw [hbi]; omega)
              | some p =>
                obtain ⟨sm, c', s1, s2, s3, s4⟩ := rs
                have hcc : c0 = c' := by rcases s3 with s3 | s3 <;> simp at s3; exact s3
                subst hcc
                obtain ⟨olds, o1, o2, o3⟩ := src_rel hR hso s4 s2
                have hl : (olds ++ news).length = (n + m) * k := by rw [List.length_append, o1, n1, Nat.add_mul]
                obtain ⟨q1, q2, q3⟩ := grown_new (e := e) (z := zv.cells) (g := grownCap w (n + m) c0 e) hR (o2.append n2) hl hzs hke (grownCap_ge w (n + m) c0 e)
                refine opOk_value (key _ _ fun ty => ?_) q3 q1 q2
                rw [s1, x1]
                have hrun := run_append_grow w t ty e i zv ht i1 i2 sm n c0 olds (by rw [hki]; exact o1) o3 xm m xc' news (by rw [hki]; exact n1) n3 (by omega) (by omega) (growslice_fits (by omega) (by rw [hbi]; omega))
                rw [hrun]
                simp
          · split at hv
            · rename_i p
              split at hv
              · rename_i hblk
                obtain ⟨hrw, hbt⟩ := hblk
                simp only [Option.some.injEq, Prod.mk.injEq] at hv
                obtain ⟨rfl, rfl⟩ := hv
                obtain ⟨sm, c', s1, s2, s3, s4⟩ := rs
                obtain ⟨olds, o1, o2, o3⟩ := src_rel hR hso s4 s2
                have hmap : ∃ q, β p.1 = some q := by
                  rcases s4 with ⟨_, s4⟩ | ⟨⟨g, d, s4, _⟩, _⟩
                  · exact s4
                  · exact ⟨_, s4⟩
                obtain ⟨q, hq⟩ := hmap
                have hRk := hR.killed p.1
                have hSk := Stp.killed hR hrw hq
                have hl : (olds ++ news).length = (n + m) * k := by rw [List.length_append, o1, n1, Nat.add_mul]
                by_cases hfit : n + m ≤ c'
                · rcases s4 with ⟨s4, _⟩ | ⟨⟨g, d, s4, rfl⟩, s5 | ⟨ts, sz, s5, s6⟩⟩
                  · omega
                  · exact absurd s5 (hR.low _ _ _ hrw s4)
                  obtain ⟨cur, ty, fr, l1, l2, l3⟩ := hR.live p.1 g d (by rw [hrw]; simp) s4
                  obtain ⟨hty1, hfr⟩ := l2 hrw
                  subst hfr
                  subst hty1
                  rw [shape_of_heap l1] at s5
                  simp only [Option.some.injEq, Prod.mk.injEq] at s5
                  obtain ⟨rfl, rfl⟩ := s5
                  rw [hbt, ← hke] at s6
                  have hroom : d + p.2 + n * k + news.length ≤ cur.size := by
                    have e1 : (n + m) * k ≤ c' * k := Nat.mul_le_mul_right _ hfit
                    rw [Nat.add_mul] at e1
                    simp only at s6
                    omega
                  have hne : news ≠ [] := by
                    intro h'
                    rw [h'] at n1
                    have := Nat.mul_pos (Nat.pos_of_ne_zero hm) hk0
                    simp at n1
                    omega
                  have hrun := fun ty => run_append_in (P := P) (w := w) (ty := ty) ht hk g (d + p.2) xm n c' m xc' hfit n1 n3 l1 hroom n2.oneCell
                  generalize harr : (cur.toList.take (d + p.2 + n * k) ++ news ++ cur.toList.drop (d + p.2 + n * k + news.length)).toArray = arr at hrun
                  have hlo := src_length hso
                  have hle : ((h.f p.1).cs.length : Nat) = (h.f p.1).cs.length := rfl
                  have hsz : arr.size = cur.size := by
                    rw [← harr]
                    simp
                    omega
                  have hcells : ∀ (o : Nat) (c : CV), (old ++ new)[o]? = some c → ∃ v, arr[d + p.2 + o]? = some v ∧ relC P β w c v := by
                    intro o c hc
                    have e2 : (cur.toList.take (d + p.2 + n * k)).length = d + p.2 + n * k := by simp; omega
                    by_cases ho : o < old.length
                    · rw [List.getElem?_append_left ho] at hc
                      obtain ⟨v, g1, g2⟩ := o2.get hc
                      refine ⟨v, ?_, g2⟩
                      have g3 := o3 o v g1
                      rw [← harr, List.getElem?_toArray, List.append_assoc, List.getElem?_append_left (by rw [e2]; omega), List.getElem?_take_of_lt (by omega)]
                      unfold Addr.add at g3
                      by_cases ho0 : o = 0
                      · subst ho0
                        simp [World.cell?, l1] at g3
                        simpa using g3
                      · simp [ho0, World.cell?, l1] at g3
                        simpa using g3
                    · rw [List.getElem?_append_right (by omega)] at hc
                      obtain ⟨v, g1, g2⟩ := n2.get hc
                      refine ⟨v, ?_, g2⟩
                      have g4 := (List.getElem?_eq_some_iff.1 g1).1
                      rw [← harr, List.getElem?_toArray, List.append_assoc, List.getElem?_append_right (by rw [e2]; omega), e2, List.getElem?_append_left (by omega)]
                      rw [show d + p.2 + o - (d + p.2 + n * k) = o - old.length by omega]
                      exact g1
                  obtain ⟨q1, q2⟩ := hR.regrown (o0 := d + p.2) hrw s4 hbt (by rw [hbt] at l1; exact l1) hsz hcells
                  refine opOk_value (key _ _ fun ty => by rw [s1, x1]; exact hrun ty) ?_ q1 q2
                  refine ⟨⟨g, d + p.2, none⟩, c', rfl, hfit, .inl rfl, .inr ⟨⟨g, d + p.2, by simp [Inj.put], by simp⟩, .inr ⟨e, arr.size, ?_, ?_⟩⟩⟩
                  · rw [hbt] at l1
                    exact shape_of_heap (setRow_heap w g cur arr e _ l1)
                  · simp only at s6
                    rw [hsz, ← hke]
                    exact s6
                · obtain ⟨q1, q2, q3⟩ := grown_new (e := e) (z := zv.cells) (g := grownCap w (n + m) c' e) hRk (o2.append n2) hl hzs hke (grownCap_ge w (n + m) c' e)
                  refine opOk_value (key _ _ fun ty => ?_) q3 q1 (hSk.trans q2)
                  rw [s1, x1]
                  have hrun := run_append_grow w t ty e i zv ht i1 i2 sm n c' olds (by rw [hki]; exact o1) o3 xm m xc' news (by rw [hki]; exact n1) n3 (by omega) (by omega) (growslice_fits (by omega) (by rw [hbi]; omega))
                  rw [hrun]
                  simp
              · simp at hv
            · simp at hv
        · simp at hv
  · simp at hv
end
end Go.Proofs.Ytnphlonhogcedaa.Am
