/-
  Who wins which vertex: the program's and the reference's.
-/
import Derived.Test.YtfaefmabjjndeaaZwE11
import Derived.Test.YtfaefmabjjndeaaZwCe
import Derived.Test.YtfaefmabjjndeaaZwCq
namespace Go.Proofs.Ytfaefmabjjndeaa
set_option linter.unusedVariables false
set_option linter.unusedSimpArgs false
open Go.RowKit
attribute [local irreducible] aN cA Aw Le
end Go.Proofs.Ytfaefmabjjndeaa
