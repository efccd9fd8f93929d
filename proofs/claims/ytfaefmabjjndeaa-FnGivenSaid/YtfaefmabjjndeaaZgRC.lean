/-
  Full plans that the dice draw.
-/
import Derived.Test.YtfaefmabjjndeaaZgD3
import Derived.Test.YtfaefmabjjndeaaZgR7
import Derived.Test.YtfaefmabjjndeaaZgR5
namespace Go.Proofs.Ytfaefmabjjndeaa
set_option linter.unusedVariables false
set_option linter.unusedSimpArgs false
open Go.RowKit
attribute [local irreducible] aG cO Aw Le
end Go.Proofs.Ytfaefmabjjndeaa
namespace Go.Proofs.Ytfaefmabjjndeaa
set_option linter.unusedVariables false
set_option linter.unusedSimpArgs false
open Go.RowKit
attribute [local irreducible] aG cO Aw Le
end Go.Proofs.Ytfaefmabjjndeaa
