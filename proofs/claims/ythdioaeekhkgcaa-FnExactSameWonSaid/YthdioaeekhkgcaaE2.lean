/-
  Searching by a function.
-/
import Derived.Test.YthdioaeekhkgcaaFc
namespace Go.Proofs.Ythdioaeekhkgcaa
set_option linter.unusedVariables false
set_option linter.unusedSimpArgs false
open Go.RowKit

def ixF (p : Int → Bool) : List Int → Nat → Int
  | [], _ => -1
  | x :: xs, k => if p x then k else ixF p xs (k + 1)
theorem ixF_ge (p : Int → Bool) (xs : List Int) (k : Nat) : ixF p xs k = -1 ∨ (k : Int) ≤ ixF p xs k := by
  induction xs generalizing k with
  | nil => exact .inl rfl
  | cons x xs ih =>
    simp only [ixF]
    split
    · exact .inr (by omega)
    · rcases ih (k + 1) with h | h
      · exact .inl h
      · exact .inr (by omega)
theorem ixF_iff (p : Int → Bool) (xs : List Int) (k : Nat) : 0 ≤ ixF p xs k ↔ ∃ i, i < xs.length ∧ p (gi xs i) = true := by
  induction xs generalizing k with
  | nil => simp [ixF]
  | cons x xs ih =>
    simp only [ixF]
    split
    · rename_i h; exact ⟨fun _ => ⟨0, by simp, h⟩, fun _ => by omega⟩
    · rename_i h
      rw [ih]
      constructor
      · rintro ⟨i, h1, h2⟩; exact ⟨i + 1, by simpa using h1, h2⟩
      · rintro ⟨i, h1, h2⟩
        cases i with
        | zero => exact absurd h2 h
        | succ i => exact ⟨i, by simpa using h1, h2⟩
theorem drop_gi {xs : List Int} {k : Nat} (h : k < xs.length) : xs.drop k = gi xs k :: xs.drop (k + 1) := by
  rw [List.drop_eq_getElem_cons h, gi_get h]
end Go.Proofs.Ythdioaeekhkgcaa
