/-
  The play of two plans up to the first vertex that is met again: who wins it.
-/
import Derived.Test.YtfaefmabjjndeaaZgR2
import Derived.Test.YtfaefmabjjndeaaZgR3
namespace Go.Proofs.Ytfaefmabjjndeaa
set_option linter.unusedVariables false
set_option linter.unusedSimpArgs false
open Go.RowKit
end Go.Proofs.Ytfaefmabjjndeaa
