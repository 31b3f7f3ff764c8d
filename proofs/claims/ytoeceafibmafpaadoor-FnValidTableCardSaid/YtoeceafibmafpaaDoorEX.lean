import Derived.Test.YtoeceafibmafpaaDoorMaD
import Derived.Test.YtoeceafibmafpaaDoorShelf
namespace Go.Proofs.YtoeceafibmafpaaDoor.Am
open Go Go.Proofs

theorem ba_ext {a b : ByteArray} (h : a.data.toList = b.data.toList) : a = b := by
  cases a; cases b; congr 1; exact Array.toList_inj.mp h
theorem digB_dec (n : Nat) (hn : n < 100) : (⟨(Lib.decDigits n).toArray⟩ : ByteArray) = digB n := by
  apply ba_ext
  unfold digB Lib.decDigits
  by_cases h : n < 10
  · rw [dif_pos h, if_pos h, strOfNums_data]
    have : ((48 : Int) + (n : Int)).toNat = 48 + n := by omega
    simp [this]
  · rw [dif_neg h, if_neg h, strOfNums_data]
    unfold Lib.decDigits
    have h2 : n / 10 < 10 := by omega
    rw [dif_pos h2]
    have e1 : ((48 : Int) + ((n / 10 : Nat) : Int)).toNat = 48 + n / 10 := by omega
    have e2 : ((48 : Int) + ((n % 10 : Nat) : Int)).toNat = 48 + n % 10 := by omega
    simp only [List.map_cons, List.map_nil, e1, e2, List.cons_append, List.nil_append]
theorem numB_itoa (n : Int) (h0 : -100 < n) (h1 : n < 0) : (⟨(Lib.itoa n).toArray⟩ : ByteArray) = numB n := by
  unfold numB Lib.itoa
  rw [if_pos h1, if_pos h1, ← digB_dec n.natAbs (by omega)]
  apply ba_ext
  simp [ByteArray.data_append, strOfNums_data]
theorem joinB_join (sep : ByteArray) : ∀ l : List ByteArray, (joinB sep l).data.toList = Lib.join (l.map (·.data.toList)) sep.data.toList
  | [] => by simp [joinB, Lib.join, List.intercalate]
  | [x] => by simp [joinB, Lib.join, List.intercalate]
  | x :: y :: r => by
    have ih := joinB_join sep (y :: r)
    have e : joinB sep (x :: y :: r) = x ++ sep ++ joinB sep (y :: r) := rfl
    rw [e]
    simp only [ByteArray.data_append, Array.toList_append, ih]
    simp [Lib.join, List.intercalate]
theorem names_at : (List.range 180).all (fun f => match Tryd.prog.funcs[f]? with
    | some fn => ((fn.name == "strconv.Itoa") == (f == 42)) && ((fn.name == "strings.Join") == (f == 40)) | none => false) = true := by kernel_rfl
theorem funcs_size : Tryd.prog.funcs.size = 180 := by kernel_rfl
theorem name_at {f : Nat} {fn : Func} (hf : Tryd.prog.funcs[f]? = some fn) : ((fn.name == "strconv.Itoa") = true → f = 42) ∧ ((fn.name == "strings.Join") = true → f = 40) := by
  have hlt : f < 180 := by
    rcases Array.getElem?_eq_some_iff.mp hf with ⟨h, _⟩
    rw [funcs_size] at h
    exact h
  have h := List.all_eq_true.mp names_at f (List.mem_range.mpr hlt)
  rw [hf] at h
  simp only [Bool.and_eq_true, beq_iff_eq] at h
  constructor
  · intro e
    have := h.1
    rw [e] at this
    simpa using this.symm
  · intro e
    have := h.2
    rw [e] at this
    simpa using this.symm
theorem fineI : (match Tryd.prog.funcs[42]? with | some fn => !(fn.name == "runtime.NumGoroutine") && !fn.body.isNone | none => false) = true := by kernel_rfl
theorem fineJ : (match Tryd.prog.funcs[40]? with | some fn => !(fn.name == "runtime.NumGoroutine") && !fn.body.isNone | none => false) = true := by kernel_rfl

theorem strs_rel {β : Inj} {w : World} : ∀ {cs : List CV} {vs : List Value} {l : List ByteArray}, strsOf cs = some l → relL Tryd.prog β w cs vs → vs = l.map .string
  | [], [], l, h, _ => by simp [strsOf] at h; subst h; rfl
  | .str s :: r, v :: vs, l, h, hr => by
    simp only [strsOf, Option.map_eq_some_iff] at h
    obtain ⟨m, h1, h2⟩ := h
    subst h2
    have e := strs_rel h1 hr.2
    have e1 : v = .string s := hr.1
    rw [e, e1]; rfl

theorem ext_sound : Sound Tryd.prog (extO Tryd.prog) := by
  intro f args h r h' hc
  unfold extO at hc
  split at hc
  · rename_i fn hf
    split at hc
    · rename_i hname
      have eI := (name_at hf).1 hname
      subst eI
      have hfine := fineI
      rw [hf] at hfine
      simp only [Bool.and_eq_true, Bool.not_eq_true'] at hfine
      refine ⟨⟨fn, hf, hfine.1, hfine.2⟩, ?_⟩
      split at hc
      · rename_i n
        split at hc
        · rename_i hn
          simp only [Option.some.injEq, Prod.mk.injEq] at hc
          obtain ⟨h1, h2⟩ := hc
          subst h1; subst h2
          intro β w vs hR hvs
          match vs, hvs with
          | [v], hvs =>
            have e : v = .int .i64 n := hvs.1
            subst e
            by_cases hneg : n < 0
            · have htab := (hR.tab 1 (by kernel_rfl)).1
              refine Calls.mono (Tryd.strconv_Itoa n (by omega) (by omega) w htab) fun e w' hh => ?_
              obtain ⟨h3, k, os, h4⟩ := hh
              subst h4
              rw [numB_itoa n hn.1 hneg] at h3
              have hD : Rel Tryd.prog β h (w.drewN k) := hR.grown (Nat.le_refl _) (fun _ _ => rfl)
              refine ⟨_, β, h3, rfl, hR.grown (by simp) ?_, Stp.grown hR (by simp) ?_ rfl rfl rfl⟩
              all_goals
                intro b hb
                show (w.heap ++ os)[b]? = w.heap[b]?
                exact Array.getElem?_append_left hb
            · have hi : ((n.toNat : Nat) : Int) = n := Int.toNat_of_nonneg (by omega)
              have hlt : n.toNat < 100 := by omega
              have hc := Tryd.strconv_Itoa_small n.toNat hlt w
              rw [hi] at hc
              refine Calls.mono hc fun e w' hh => ?_
              obtain ⟨h3, h4⟩ := hh
              subst h4
              exact ⟨_, β, h3, by rw [digB_dec _ hlt]; unfold numB; rw [if_neg hneg]; rfl, hR, Stp.refl β h w' hR.dom⟩
        · simp at hc
      · simp at hc
    · split at hc
      · rename_i hname
        have eJ := (name_at hf).2 hname
        subst eJ
        have hfine := fineJ
        rw [hf] at hfine
        simp only [Bool.and_eq_true, Bool.not_eq_true'] at hfine
        refine ⟨⟨fn, hf, hfine.1, hfine.2⟩, ?_⟩
        split at hc
        · rename_i v sep
          simp only [Option.map_eq_some_iff] at hc
          obtain ⟨x, hx, hc⟩ := hc
          simp only [Prod.mk.injEq] at hc
          obtain ⟨h1, h2⟩ := hc
          subst h1; subst h2
          intro β w vs hR hvs
          match vs, hvs with
          | [u, sv], hvs =>
            have e : sv = .string sep := hvs.2.1
            subst e
            have hu := hvs.1
            unfold extJoin at hx
            split at hx
            · rename_i cs hcs
              split at hx
              · rename_i l hl
                split at hx
                · rename_i hsz
                  simp only [Option.some.injEq] at hx
                  subst hx
                  have none_case : ∀ (a : Option Addr) (c : Nat), u = .slice a 0 c → cs = [] → Calls Tryd.prog 40 [u, .string sep].toArray w fun e w' => ∃ u β', e = .returned u ∧ relV Tryd.prog β' w' (.one (.str (joinB sep l))) u ∧ Rel Tryd.prog β' h w' ∧ Stp β h w β' h w' := by
                    intro a c e ecs
                    subst e; subst ecs
                    simp [strsOf] at hl
                    subst hl
                    refine Calls.mono (Tryd.strings_Join_none a c sep w) fun e w' hh => ?_
                    obtain ⟨h3, h4⟩ := hh
                    subst h4
                    exact ⟨_, β, h3, rfl, hR, Stp.refl β h w' hR.dom⟩
                  cases v with
                  | one c =>
                    cases c with
                    | sl b n c =>
                      cases b with
                      | none =>
                        obtain ⟨h3, h4, h5⟩ := hu
                        subst h3
                        exact none_case none 0 h5 (nil_of_zero hcs rfl)
                      | some b =>
                        obtain ⟨m, c', h3, h4, h5, h6⟩ := hu
                        by_cases hn : n = 0
                        · subst hn
                          exact none_case (some m) c' h3 (nil_of_zero hcs rfl)
                        · obtain ⟨ws, h7, h8, h9⟩ := src_rel hR hcs h6 h4
                          have hlen := src_length hcs
                          have ew := strs_rel hl h8
                          subst ew
                          simp only [List.length_map, Nat.mul_one] at h7
                          rcases h6 with ⟨h6, _⟩ | ⟨⟨bk, d, hb, em⟩, _⟩
                          · omega
                          · subst em
                            subst h3
                            have hbk : bk < w.heap.size := hR.lt hb
                            have hcells : ∀ (j : Nat) x, l[j]? = some x → w.cell? ⟨bk, d + b.2 + j, none⟩ = some (.string x) := by
                              intro j x hj
                              have := h9 j (.string x) (by simp [hj])
                              unfold Addr.add at this
                              split at this
                              · rename_i h0; subst h0; exact this
                              · exact this
                            have hJ := joinB_join sep l
                            have hc := Tryd.strings_Join bk (d + b.2) c' l sep w hcells hbk hsz.2 (by omega) (by rw [← hJ]; exact hsz.1)
                            rw [← hJ, h7] at hc
                            refine Calls.mono hc fun e w' hh => ?_
                            obtain ⟨h10, h11⟩ := hh
                            exact ⟨_, β, h10, rfl, hR.grown h11.size h11.block, Stp.grown hR h11.size h11.block h11.os h11.tape h11.output⟩
                    | _ => simp [srcA] at hcs
                  | _ => simp [srcA] at hcs
                · simp at hx
              · simp at hx
            · simp at hx
        · simp at hc
      · simp at hc
  · simp at hc
end Go.Proofs.YtoeceafibmafpaaDoor.Am
