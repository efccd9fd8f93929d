/-
  RoundOf and AnsweredTo, the reference.
-/
import Derived.Test.YthjamlponejffaaZwNB
import Derived.Test.YthjamlponejffaaZwNC
import Derived.Test.YthjamlponejffaaZwCq
import Derived.Test.YthjamlponejffaaZwShelf2
namespace Go.Proofs.Ythjamlponejffaa
set_option linter.unusedVariables false
set_option linter.unusedSimpArgs false
open Go.RowKit
attribute [local irreducible] au ci Aw Le
theorem kM (g : Gm) (n : Nat) (hg : GmOk g n) : ∀ D,D ≤ 64 → nl g n D
 | 0, _ => nq g n hg
 | D + 1, h => nr g n hg D (by omega) (kM g n hg D (by omega))
end Go.Proofs.Ythjamlponejffaa
