/- Texts: what a loop that adds builds is what Join answers. -/
import Derived.Test.YtoeceafibmafpaaDoorEX
namespace Go.Proofs.YtoeceafibmafpaaDoor.Am
open Go

theorem joinB_front (sep p x : ByteArray) (r : List ByteArray) : joinB sep ((p ++ x) :: r) = p ++ joinB sep (x :: r) := by
  cases r with
  | nil => rfl
  | cons y r =>
    show p ++ x ++ sep ++ joinB sep (y :: r) = p ++ (x ++ sep ++ joinB sep (y :: r))
    apply ba_ext
    simp [ByteArray.data_append]
theorem joinB_fold (sep : ByteArray) : ∀ (l : List ByteArray) (a : ByteArray), l.foldl (fun o x => o ++ sep ++ x) a = joinB sep (a :: l)
  | [], a => rfl
  | x :: r, a => by
    rw [List.foldl_cons, joinB_fold sep r, joinB_front]
    rfl
/-- one step of the loop: what is built of the first j elements -/
theorem joinB_step (sep a : ByteArray) (l : List ByteArray) (j : Nat) (hj : j < l.length) : joinB sep (a :: l.take (j + 1)) = joinB sep (a :: l.take j) ++ sep ++ l[j] := by
  have e : l.take (j + 1) = l.take j ++ [l[j]] := by
    rw [List.take_add_one, List.getElem?_eq_getElem hj]; rfl
  rw [← joinB_fold, ← joinB_fold, e, List.foldl_append]
  rfl
theorem joinB_size (sep : ByteArray) : ∀ l : List ByteArray, (joinB sep l).size ≤ (l.map (·.size)).sum + sep.size * l.length
  | [] => by simp [joinB]
  | [x] => by simp [joinB]
  | x :: y :: r => by
    have ih := joinB_size sep (y :: r)
    show (x ++ sep ++ joinB sep (y :: r)).size ≤ _
    simp only [ByteArray.size_append, List.map_cons, List.sum_cons, List.length_cons] at ih ⊢
    rw [Nat.mul_succ]
    omega
end Go.Proofs.YtoeceafibmafpaaDoor.Am
