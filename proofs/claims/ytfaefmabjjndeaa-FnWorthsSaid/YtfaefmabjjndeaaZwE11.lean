/-
  The program's recursive solver.
-/
import Derived.Test.YtfaefmabjjndeaaZwE10
import Derived.Test.YtfaefmabjjndeaaZwE9
import Derived.Test.YtfaefmabjjndeaaZwCe
import Derived.Test.YtfaefmabjjndeaaZwFc
namespace Go.Proofs.Ytfaefmabjjndeaa
set_option linter.unusedVariables false
set_option linter.unusedSimpArgs false
open Go.RowKit
attribute [local irreducible] aN cA Aw Le
end Go.Proofs.Ytfaefmabjjndeaa
