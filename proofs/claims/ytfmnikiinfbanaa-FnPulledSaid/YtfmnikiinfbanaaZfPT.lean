/-
  Priority promotion: what a stage reports as won is won. Plain theory, no program.
-/
import Derived.Test.YtfmnikiinfbanaaZfP3
namespace Go.Proofs.Ytfmnikiinfbanaa
set_option linter.unusedVariables false
set_option linter.unusedSimpArgs false
open Go.RowKit
namespace PG
variable {G : PG.Gm}
theorem attr_esc {who : Int} {S T : Nat → Prop} {v : Nat} (h : Attr G who S T v) (ht : ¬ T v) (ho : G.own v ≠ who) : ∀ u, G.E v u → S u → Attr G who S T u := by
  obtain ⟨k, hk⟩ := h
  induction k with
  | zero => exact absurd hk.2 ht
  | succ k ih =>
    rcases hk with h | ⟨_, h, _⟩ | ⟨_, _, _, h⟩
    · exact ih h
    · exact absurd h ho
    · exact fun u he hs => ⟨k, h u he hs⟩
end PG
end Go.Proofs.Ytfmnikiinfbanaa
