/-
  Small games, in the old words.
-/
import Derived.Test.YtfaefmabjjndeaaZnCb
namespace Go.Proofs.Ytfaefmabjjndeaa
set_option linter.unusedVariables false
set_option linter.unusedSimpArgs false
open Go.RowKit
end Go.Proofs.Ytfaefmabjjndeaa
