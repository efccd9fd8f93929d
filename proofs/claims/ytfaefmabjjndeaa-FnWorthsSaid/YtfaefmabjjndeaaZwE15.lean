/-
  Traps: the vertices by which a set is none.
-/
import Derived.Test.YtfaefmabjjndeaaZwE13
import Derived.Test.YtfaefmabjjndeaaZwG3
namespace Go.Proofs.Ytfaefmabjjndeaa
set_option linter.unusedVariables false
set_option linter.unusedSimpArgs false
open Go.RowKit
attribute [local irreducible] aN cA Aw Le
end Go.Proofs.Ytfaefmabjjndeaa
