/-
  Small functions: equal lists, flags, all vertices.
-/
import Derived.Test.YthjamlponejffaaZwCe
import Derived.Test.YthjamlponejffaaZwFc
namespace Go.Proofs.Ythjamlponejffaa
set_option linter.unusedVariables false
set_option linter.unusedSimpArgs false
open Go.RowKit
attribute [local irreducible] au ci Aw Le
theorem oQ {Q : Nat → Prop} {k : Nat} (h : ∀ i,i < k → Q i) (hk : Q k) : ∀ i,i < k + 1 → Q i:=fun i hi=>by
 rcases Nat.lt_or_ge i k with h'|h'
 · exact h i h'
 · have : i = k:=by omega
   subst this;exact hk
end Go.Proofs.Ythjamlponejffaa
