/- The abstract machine: the operations that lay blocks, write cells, append or call, against the model's. -/
import Derived.Test.YtnphlonhogcedaaAmHeap
namespace Go.Proofs.Ytnphlonhogcedaa.Am
open Go

def relVs (P : Program) (β : Inj) (w : World) : List AV → List Value → Prop
  | [], [] => True
  | c :: r, v :: s => relV P β w c v ∧ relVs P β w r s
  | _, _ => False

/-- What an oracle says of a call, the model's call does. -/
def Sound (P : Program) (call : Oracle) : Prop := ∀ f args h r h', call f args h = some (r, h') →
  (∃ fn, P.funcs[f]? = some fn ∧ (fn.name == "runtime.NumGoroutine") = false ∧ fn.body.isNone = false) ∧
  ∀ β w vs, Rel P β h w → relVs P β w args vs →
    Calls P f vs.toArray w fun e w' => ∃ u β', e = .returned u ∧ relV P β' w' r u ∧ Rel P β' h' w' ∧ Stp β h w β' h' w'

/-- The model's operation, whatever comes behind it. -/
def OpOk (P : Program) (β : Inj) (h : H) (w : World) (a : Act) (op : Op) (v : AV) (h' : H) : Prop :=
  ∀ (o : Oper) (K : Act → World → Prop) (Q : Exit → Act → World → Prop), o.op = op →
    (∀ β' w' u, relV P β' w' v u → Rel P β' h' w' → Stp β h w β' h' w' → K (a.put o.dst u) w') → o.wp P a w K Q

section
variable {P : Program} {β : Inj} {w : World} {T : Tm} {a : Act} {h h' : H} {v : AV}

theorem opOk_value {op : Op} {β' : Inj} {w' : World} {u : Value} (hr : ∀ o : Oper, o.op = op → (execOp a.eval o).run P w = .ok (.value u) w') (h1 : relV P β' w' v u) (h2 : Rel P β' h' w') (h3 : Stp β h w β' h' w') :
    OpOk P β h w a op v h' := by
  intro o K Q ho hK
  unfold Oper.wp
  rw [hr o ho]
  exact hK β' w' u h1 h2 h3
theorem opOk_skip {op : Op} {β' : Inj} {w' : World} (hr : ∀ o : Oper, o.op = op → (execOp a.eval o).run P w = .ok .skip w') (hv : v = undefA) (h2 : Rel P β' h' w') (h3 : Stp β h w β' h' w') :
    OpOk P β h w a op v h' := by
  intro o K Q ho hK
  unfold Oper.wp
  rw [hr o ho]
  subst hv
  exact hK β' w' undef ⟨#[], rfl, trivial⟩ h2 h3

theorem opOk_pure {op : Op} {ao : AOp} (hR : Rel P β h w) (hA : relA P β w T a) (hc : compOp P op = some ao) (hv : pureA ao T h = some v) : OpOk P β h w a op v h := by
  obtain ⟨u, h1, h2⟩ := pure_sound hR hA.opnd hc hv
  exact opOk_value h1 h2 hR (Stp.refl β h w hR.dom)

/-- A block laid by the model, whatever its number in the machine. -/
def LaidOk (P : Program) (β : Inj) (w : World) (a : Act) (op : Op) (cs : List CV) (ty : Nat) (mk : Nat → AV) : Prop :=
  ∃ arr u, (∀ o : Oper, o.op = op → (execOp a.eval o).run P w = .ok (.value u) (w.alloc (.cells arr ty))) ∧ relL P β w cs arr.toList ∧
    ∀ (β' : Inj) (id : Nat), β' id = some (w.heap.size, 0) → relV P β' (w.alloc (.cells arr ty)) (mk id) u
theorem LaidOk.opOk {op : Op} {cs : List CV} {ty : Nat} {mk : Nat → AV} (hR : Rel P β h w) (hl : LaidOk P β w a op cs ty mk) : OpOk P β h w a op (mk h.n) (h.alloc cs ty) := by
  obtain ⟨arr, u, h1, h2, h3⟩ := hl
  refine opOk_value h1 (h3 (β.put h.n (w.heap.size, 0)) h.n (by simp [Inj.put])) (hR.both fun o c hc => ?_) (Stp.both hR cs ty arr)
  obtain ⟨v, h5, h6⟩ := h2.get hc
  exact ⟨v, by rw [← Array.getElem?_toList]; exact h5, h6⟩
theorem addr_at {β' : Inj} {id b : Nat} (hb : β' id = some (b, 0)) : addrR β' (id, 0) ⟨b, 0, none⟩ := ⟨b, 0, hb, by simp⟩

theorem run_newVarA (t : TypeId) (x : Value) : (newVar t x).run P w = .ok ⟨w.heap.size, 0, none⟩ (w.alloc (.cells x.cells t)) := by
  simp [newVar, newRow, newObj, Sem.run, World.alloc_eq]

theorem laid_alloc {e : TypeId} {z : List CV} (hz : zeroT P e = some z) : LaidOk P β w a (.alloc e) z e (fun i => .one (.ptr (some (i, 0)))) := by
  obtain ⟨i, zv, h1, h2, h3, h4⟩ := zeroT_spec hz
  exact ⟨zv.cells, .pointer (some ⟨w.heap.size, 0, none⟩), fun o ho => by simp [execOp, ho, Instr.alloc, run_zeroA h1 h2, run_newVarA], cvsOf_rel h3, fun β' id hb => ⟨_, rfl, addr_at hb⟩⟩

theorem laid_box {e : TypeId} {x : Operand} {ax : AX} {cs : List CV} (hA : relA P β w T a) (hx : opnd x = some ax) (hc : (ax.ev T).cells = some cs) :
    LaidOk P β w a (.box e x) cs e (fun i => .one (.ptr (some (i, 0)))) := by
  have hr := hA.opnd x ax hx
  exact ⟨(a.eval x).cells, .pointer (some ⟨w.heap.size, 0, none⟩), fun o ho => by simp [execOp, ho, Instr.box, run_newVarA], hr.cells hc, fun β' id hb => ⟨_, rfl, addr_at hb⟩⟩

theorem room_new {t : TypeId} {cells : Array Value} {c : Nat} (hc : c * P.cellsOf t ≤ cells.size) : ∀ β' : Inj, roomR P β' (w.alloc (.cells cells t)) ⟨w.heap.size, 0, none⟩ c := fun _ =>
  .inr ⟨t, cells.size, shape_of_heap (heap_alloc_new' w _), by simpa using hc⟩

theorem laid_buildSlice {t e : TypeId} {len k : Nat} {z cs : List CV} {parts : Array (Nat × Operand)} {aps : List (Nat × Nat × AX)} (hA : relA P β w T a) (ht : P.underlying t = some (.slice e))
    (hk : sizeT P e = some k) (hz : zeroT P e = some z) (h0 : 0 < k) (hs : len * k ≤ 16777216) (hzl : z.length = k) (hke : k = P.cellsOf e) (hp : partsR k parts.toList = some aps)
    (hf : fillA (repl z len) (aps.map fun p => (p.1, p.2.1, p.2.2.ev T)) = some cs) :
    LaidOk P β w a (.buildSlice t len parts) cs e (fun i => .one (.sl (some (i, 0)) len (some len))) := by
  obtain ⟨i, zv, h1, h2, h3, h4⟩ := zeroT_spec hz
  have hL : relL P β w z zv.cells.toList := cvsOf_rel h3
  have hzs : zv.cells.size = k := by have := hL.length; simp at this; omega
  have hki : i.size = k := by
    unfold sizeT at hk
    rw [h1] at hk
    simpa using hk
  obtain ⟨h6, h7⟩ := partsR_spec hp
  have hrep := repl_rel hL len
  obtain ⟨cells', h8, h9⟩ := fill_rel (P := P) (β := β) (w := w) (place := fun i => some (i * k, k)) (cells := (Array.range (len * zv.cells.size)).map (zv.cells[· % zv.cells.size]!)) hA.opnd h6 h7 hrep hf
  have hcs : cells'.size = len * k := by
    have e1 := h9.length
    have e2 : ∀ (ps : List (Nat × Nat × AV)) (x y : List CV), fillA x ps = some y → y.length = x.length := by
      intro ps
      induction ps with
      | nil => intro x y hxy; simp [fillA] at hxy; rw [hxy]
      | cons p ps ih =>
        intro x y hxy
        unfold fillA at hxy
        split at hxy
        · simp at hxy
        · split at hxy
          · rename_i hc
            rw [ih _ _ hxy]
            simp
            omega
          · simp at hxy
    have e3 := e2 _ _ _ hf
    rw [repl_length] at e3
    simp at e1
    rw [← e1, e3, hzl]
  by_cases hlen : len * k = 0
  · have hl0 : len = 0 := by
      rcases Nat.mul_eq_zero.1 hlen with h' | h'
      · exact h'
      · omega
    subst hl0
    have hc0 : cells' = #[] := Array.size_eq_zero_iff.1 (by rw [hcs]; simp)
    refine ⟨cells', .slice (some ⟨w.heap.size, 0, none⟩) 0 0, fun o ho => ?_, h9, fun β' id hb => ⟨_, 0, rfl, Nat.le_refl _, .inr rfl, .inl ⟨rfl, ⟨_, hb⟩⟩⟩⟩
    have h10 : Instr.fill (fun i => some (i * k, k)) #[] (parts.toList.map fun p => (p.1, a.eval p.2)) = some cells' := by
      have : (Array.range (0 * zv.cells.size)).map (zv.cells[· % zv.cells.size]!) = #[] := by simp
      rw [← this]
      exact h8
    have hr0 : (Array.range 0).map (fun _ => (default : Value)) = #[] := by apply Array.ext <;> simp
    simp [execOp, ho, Instr.buildSlice, run_underlyingA ht, run_sizeA hk]
    have h11 : Instr.fill (fun i => some (i * k, k)) ((Array.range 0).map (fun _ => (default : Value))) (parts.toList.map fun x => (x.1, a.eval x.2)) = some cells' := by
      rw [hr0]
      exact h10
    rw [h11]
    simp [newRow, newObj, Sem.run, World.alloc_eq]
  · refine ⟨cells', .slice (some ⟨w.heap.size, 0, none⟩) len len, fun o ho => ?_, h9, fun β' id hb => ⟨_, len, rfl, Nat.le_refl _, .inr rfl, .inr ⟨addr_at hb, room_new (by rw [hcs, hke]; exact Nat.le_refl _) β'⟩⟩⟩
    have h10 := run_buildSlice (P := P) w t e len (parts.map fun (i, x) => (i, a.eval x)) cells' i zv ht h1 h2 (by rw [hki]; omega) (by rw [hki]; exact hlen) (by
      rw [hki, ← hzs]
      rw [← h8]
      simp [hzs])
    simp [execOp, ho, h10]

theorem laid_mkslice {t e : TypeId} {k b : Nat} {z : List CV} {l c : Operand} {al ac : AX} {ln cn : Int} (hA : relA P β w T a) (ht : P.underlying t = some (.slice e))
    (hk : sizeT P e = some k) (hb : bytesT P e = some b) (hz : zeroT P e = some z) (hzl : z.length = k) (hke : k = P.cellsOf e) (hl : opnd l = some al) (hc : opnd c = some ac)
    (e1 : al.ev T = .one (.int .i64 ln)) (e2 : ac.ev T = .one (.int .i64 cn)) (h0 : 0 ≤ ln) (hlc : ln ≤ cn) (hby : cn * b ≤ 140737488355328) (h63 : cn ≤ 9223372036854775807) :
    LaidOk P β w a (.makeSlice t l c) (repl z cn.toNat) e (fun i => .one (.sl (some (i, 0)) ln.toNat (some cn.toNat))) := by
  obtain ⟨i, zv, h1, h2, h3, h4⟩ := zeroT_spec hz
  have hL : relL P β w z zv.cells.toList := cvsOf_rel h3
  have hzs : zv.cells.size = k := by have := hL.length; simp at this; omega
  have hki : i.size = k := by
    unfold sizeT at hk
    rw [h1] at hk
    simpa using hk
  have hbi : i.bytes = b := by
    unfold bytesT at hb
    rw [h1] at hb
    simpa using hb
  have r1 := hA.opnd l al hl
  have r2 := hA.opnd c ac hc
  rw [e1] at r1
  rw [e2] at r2
  have r1 : a.eval l = .int .i64 ln := r1
  have r2 : a.eval c = .int .i64 cn := r2
  have hrep := repl_rel hL cn.toNat
  have hrun := run_make (P := P) w t e i zv ht h1 h2 .i64 .i64 ln cn h0 hlc (by rw [hbi, Int.mul_comm]; omega) h63
  have hm : madeCells zv.cells (cn.toNat * i.size) = (Array.range (cn.toNat * zv.cells.size)).map (zv.cells[· % zv.cells.size]!) := by
    rw [hki, ← hzs]
    rfl
  rw [hm] at hrun
  refine ⟨(Array.range (cn.toNat * zv.cells.size)).map (zv.cells[· % zv.cells.size]!), .slice (some ⟨w.heap.size, 0, none⟩) ln.toNat cn.toNat, fun o ho => ?_, hrep,
    fun β' id hb => ⟨_, cn.toNat, rfl, by omega, .inr rfl, .inr ⟨addr_at hb, room_new (by simp [hzs, hke]) β'⟩⟩⟩
  simp [execOp, ho, r1, r2, hrun]

theorem opOk_store {t : TypeId} {k : Nat} {x y : Operand} {ax ay : AX} {p : Nat × Nat} {cs : List CV} (hR : Rel P β h w) (hA : relA P β w T a) (hk : sizeT P t = some k) (hx : opnd x = some ax) (hy : opnd y = some ay)
    (e1 : ax.ev T = .one (.ptr (some p))) (e2 : (ay.ev T).cells = some cs) (hl : cs.length = k) (hs : h.store p cs = some h') : OpOk P β h w a (.store t x y) undefA h' := by
  have r1 := hA.opnd x ax hx
  have r2 := (hA.opnd y ay hy).cells e2
  rw [e1] at r1
  obtain ⟨m, h1, b, d, h2, rfl⟩ := r1
  obtain ⟨cur, h3, h4, h5, h6⟩ := hR.stored h2 hs r2
  have hlen : (a.eval y).cells.size = k := by have := r2.length; simp at this; omega
  refine opOk_skip (fun o ho => ?_) rfl h5 h6
  have hst : (storeCells ⟨b, d + p.2, none⟩ (a.eval y).cells.toList 0).run P w = .ok () (w.setRow b (if (a.eval y).cells.toList = [] then cur else (cur.toList.take (d + p.2) ++ (a.eval y).cells.toList ++ cur.toList.drop (d + p.2 + (a.eval y).cells.toList.length)).toArray)) := by
    by_cases hne : (a.eval y).cells.toList = []
    · rw [hne, if_pos rfl, setRow_self w b cur _ _ h3]
      rfl
    · rw [if_neg hne]
      have := run_storeCells_at P b (d + p.2) _ (a.eval y).cells.toList 0 cur w h3 (by rcases h4 with h4 | h4; exact absurd h4 hne; simpa using h4) r2.oneCell
      simpa using this
  simp [execOp, ho, Instr.storeAt, h1, Instr.sureAddr, storeVar, run_sizeA hk, hlen, hst]
end
end Go.Proofs.Ytnphlonhogcedaa.Am
