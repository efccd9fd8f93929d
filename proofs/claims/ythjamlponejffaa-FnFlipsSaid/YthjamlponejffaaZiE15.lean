/-
  Traps: the vertices by which a set is none.
-/
import Derived.Test.YthjamlponejffaaZiE13
import Derived.Test.YthjamlponejffaaZiG3
namespace Go.Proofs.Ythjamlponejffaa
set_option linter.unusedVariables false
set_option linter.unusedSimpArgs false
open Go.RowKit
attribute [local irreducible] ap b9 Aw Le
end Go.Proofs.Ythjamlponejffaa
