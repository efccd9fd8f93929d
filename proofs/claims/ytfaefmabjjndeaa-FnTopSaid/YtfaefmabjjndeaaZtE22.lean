/-
  The contract of l7Of that says whose the picks are.
-/
import Derived.Test.YtfaefmabjjndeaaZtE21
namespace Go.Proofs.Ytfaefmabjjndeaa
set_option linter.unusedVariables false
set_option linter.unusedSimpArgs false
open Go.RowKit
end Go.Proofs.Ytfaefmabjjndeaa
