/-
  Queries, the reference: rounds and answers.
-/
import Derived.Test.YthjamlponejffaaZhNA
import Derived.Test.YthjamlponejffaaZhE9
namespace Go.Proofs.Ythjamlponejffaa
set_option linter.unusedVariables false
set_option linter.unusedSimpArgs false
open Go.RowKit
attribute [local irreducible] ap b7 Aw Le
end Go.Proofs.Ythjamlponejffaa
