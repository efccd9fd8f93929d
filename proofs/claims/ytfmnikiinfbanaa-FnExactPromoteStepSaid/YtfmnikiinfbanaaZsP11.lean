/-
  Priority promotion, the program: the stages of a game, how many steps there are of each kind.
-/
import Derived.Test.YtfmnikiinfbanaaZsP10
namespace Go.Proofs.Ytfmnikiinfbanaa
set_option linter.unusedVariables false
set_option linter.unusedSimpArgs false
open Go.RowKit
attribute [local irreducible] FunSpec CallR Aw Le
noncomputable def itS (g : Pa) : Nat → St
  | 0 => fstG g
  | k + 1 => (stepS g (itS g k)).1
noncomputable def nS (g : Pa) : Nat := Classical.epsilon fun n => n < 2 ^ 30 ∧ (itS g n).at_ < 0 ∧ ∀ k, k < n → 0 ≤ (itS g k).at_
theorem it_less {g : Pa} (hs : Small g) : ∀ k, (∀ j, j < k → 0 ≤ (itS g j).at_) → StOk g (itS g k) ∧ RgD g (itS g k) ∧ msrS g (itS g k) + k ≤ msrS g (fstG g)
  | 0, _ => ⟨fst_ok hs.1, fst_D g, by rw [Nat.add_zero, itS];exact Nat.le_refl _⟩
  | k + 1, h => by
    obtain ⟨h1, hD, h2⟩ := it_less hs k fun j hj => h j (by omega)
    have h3 := h k (by omega)
    have h4 := step_less hs h1 h3 hD
    refine ⟨step_ok hs.1 h1 h3, step_D hs.1 h1 h3 hD, ?_⟩
    show msrS g (stepS g (itS g k)).1 + (k + 1) ≤ _
    omega
theorem it_end {g : Pa} (hs : Small g) : ∃ n, n < 2 ^ 30 ∧ (itS g n).at_ < 0 ∧ ∀ k, k < n → 0 ≤ (itS g k).at_ := by
  have hm := msr_le (s := fstG g) hs
  have : ∀ d k, (∀ j, j < k → 0 ≤ (itS g j).at_) → msrS g (itS g k) ≤ d → ∃ n, n < 2 ^ 30 ∧ (itS g n).at_ < 0 ∧ ∀ k, k < n → 0 ≤ (itS g k).at_ := by
    intro d
    induction d with
    | zero =>
      intro k h1 h2
      obtain ⟨h3, hD, h4⟩ := it_less hs k h1
      by_cases h5 : (itS g k).at_ < 0
      · exact ⟨k, by omega, h5, h1⟩
      · have := step_less hs h3 (by omega) hD;omega
    | succ d ih =>
      intro k h1 h2
      obtain ⟨h3, hD, h4⟩ := it_less hs k h1
      by_cases h5 : (itS g k).at_ < 0
      · exact ⟨k, by omega, h5, h1⟩
      · have h6 := step_less hs h3 (by omega) hD
        refine ih (k + 1) (fun j hj => ?_) (by show msrS g (stepS g (itS g k)).1 ≤ d;omega)
        rcases Nat.lt_or_ge j k with h7 | h7
        · exact h1 j h7
        · obtain rfl : j = k := by omega
          omega
  exact this _ 0 (fun j hj => by omega) (Nat.le_refl _)
theorem nS_ok {g : Pa} (hs : Small g) : nS g < 2 ^ 30 ∧ (itS g (nS g)).at_ < 0 ∧ ∀ k, k < nS g → 0 ≤ (itS g k).at_ := Classical.epsilon_spec (it_end hs)
theorem itS_ok {g : Pa} (hs : Small g) {k : Nat} (hk : k ≤ nS g) : StOk g (itS g k) := (it_less hs k fun j hj => (nS_ok hs).2.2 j (by omega)).1
theorem itS_at {g : Pa} (hs : Small g) : (itS g (nS g)).at_ = -1 := by
  have h1 := (nS_ok hs).2.1
  rcases (itS_ok hs (Nat.le_refl _)).at' with h | h <;> omega
end Go.Proofs.Ytfmnikiinfbanaa
