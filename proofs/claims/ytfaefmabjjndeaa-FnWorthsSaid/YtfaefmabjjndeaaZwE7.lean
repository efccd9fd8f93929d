/-
  The solver's small functions.
-/
import Derived.Test.YtfaefmabjjndeaaZwCe
import Derived.Test.YtfaefmabjjndeaaZwCg
namespace Go.Proofs.Ytfaefmabjjndeaa
set_option linter.unusedVariables false
set_option linter.unusedSimpArgs false
open Go.RowKit
attribute [local irreducible] aN cA Aw Le
end Go.Proofs.Ytfaefmabjjndeaa
