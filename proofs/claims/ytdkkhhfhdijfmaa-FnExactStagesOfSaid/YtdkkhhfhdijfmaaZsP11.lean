/-
  Priority promotion, the program: the stages of a game, how many steps there are of each kind.
-/
import Derived.Test.YtdkkhhfhdijfmaaZsP10
namespace Go.Proofs.Ytdkkhhfhdijfmaa
set_option linter.unusedVariables false
set_option linter.unusedSimpArgs false
open Go.RowKit
noncomputable def itS (g : Pa) : Nat → St
 | 0 => dx g
 | k + 1 => (cL g (itS g k)).1
noncomputable def nS (g : Pa) : Nat:=Classical.epsilon fun n=>n < 2 ^ 30 ∧ (itS g n).at_ < 0 ∧ ∀ k,k < n → 0 ≤ (itS g k).at_
theorem jl {g : Pa} (hs : cJ g) : ∀ k,(∀ j,j < k → 0 ≤ (itS g j).at_) → StOk g (itS g k) ∧ RgD g (itS g k) ∧ eQ g (itS g k) + k ≤ eQ g (dx g)
 | 0, _ => ⟨t8 hs.1, vO g, by rw [Nat.add_zero, itS]; exact Nat.le_refl _⟩
 | k + 1, h => by
   obtain ⟨h1,hD,h2⟩:=jl hs k fun j hj=>h j (by omega)
   have h3:=h k (by omega)
   have h4:=iI hs h1 h3 hD
   refine ⟨sD hs.1 h1 h3,t6 hs.1 h1 h3 hD,?_⟩
   show eQ g (cL g (itS g k)).1 + (k + 1) ≤ _
   omega
theorem ug {g : Pa} (hs : cJ g) : ∃ n,n < 2 ^ 30 ∧ (itS g n).at_ < 0 ∧ ∀ k,k < n → 0 ≤ (itS g k).at_:=by
 have hm:=t7 (s:=dx g) hs
 have : ∀ d k,(∀ j,j < k → 0 ≤ (itS g j).at_) → eQ g (itS g k) ≤ d → ∃ n,n < 2 ^ 30 ∧ (itS g n).at_ < 0 ∧ ∀ k,k < n → 0 ≤ (itS g k).at_:=by
  intro d
  induction d with
  | zero =>
    intro k h1 h2
    obtain ⟨h3,hD,h4⟩:=jl hs k h1
    by_cases h5 : (itS g k).at_ < 0
    · exact ⟨k,by omega,h5,h1⟩
    · have:=iI hs h3 (by omega) hD;omega
  | succ d ih =>
    intro k h1 h2
    obtain ⟨h3,hD,h4⟩:=jl hs k h1
    by_cases h5 : (itS g k).at_ < 0
    · exact ⟨k,by omega,h5,h1⟩
    · have h6:=iI hs h3 (by omega) hD
      refine ih (k + 1) (fun j hj=>?_) (by show eQ g (cL g (itS g k)).1 ≤ d;omega)
      rcases Nat.lt_or_ge j k with h7|h7
      · exact h1 j h7
      · obtain rfl : j = k:=by omega
        omega
 exact this _ 0 (fun j hj=>by omega) (Nat.le_refl _)
theorem kB {g : Pa} (hs : cJ g) : nS g < 2 ^ 30 ∧ (itS g (nS g)).at_ < 0 ∧ ∀ k,k < nS g → 0 ≤ (itS g k).at_:=Classical.epsilon_spec (ug hs)
theorem jQ {g : Pa} (hs : cJ g) {k : Nat} (hk : k ≤ nS g) : StOk g (itS g k):=(jl hs k fun j hj=>(kB hs).2.2 j (by omega)).1
theorem q9 {g : Pa} (hs : cJ g) : (itS g (nS g)).at_ = -1:=by
 have h1:=(kB hs).2.1
 rcases (jQ hs (Nat.le_refl _)).at' with h|h <;> omega
end Go.Proofs.Ytdkkhhfhdijfmaa
