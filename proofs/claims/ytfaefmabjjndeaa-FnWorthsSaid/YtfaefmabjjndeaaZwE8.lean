/-
  The reference's attraction.
-/
import Derived.Test.YtfaefmabjjndeaaZwE7
import Derived.Test.YtfaefmabjjndeaaZwCe
import Derived.Test.YtfaefmabjjndeaaZwCp
namespace Go.Proofs.Ytfaefmabjjndeaa
set_option linter.unusedVariables false
set_option linter.unusedSimpArgs false
open Go.RowKit
attribute [local irreducible] aN cA Aw Le
end Go.Proofs.Ytfaefmabjjndeaa
