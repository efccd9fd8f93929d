/-
  Full plans that the dice draw.
-/
import Derived.Test.YtfaefmabjjndeaaZeD3
import Derived.Test.YtfaefmabjjndeaaZeR7
import Derived.Test.YtfaefmabjjndeaaZeR5
namespace Go.Proofs.Ytfaefmabjjndeaa
set_option linter.unusedVariables false
set_option linter.unusedSimpArgs false
open Go.RowKit
attribute [local irreducible] aL cQ Aw Le
end Go.Proofs.Ytfaefmabjjndeaa
namespace Go.Proofs.Ytfaefmabjjndeaa
set_option linter.unusedVariables false
set_option linter.unusedSimpArgs false
open Go.RowKit
attribute [local irreducible] aL cQ Aw Le
end Go.Proofs.Ytfaefmabjjndeaa
