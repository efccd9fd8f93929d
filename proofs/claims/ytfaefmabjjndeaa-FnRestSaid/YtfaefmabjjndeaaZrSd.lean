/-
  Small games, in the old words.
-/
import Derived.Test.YtfaefmabjjndeaaZrCb
namespace Go.Proofs.Ytfaefmabjjndeaa
set_option linter.unusedVariables false
set_option linter.unusedSimpArgs false
open Go.RowKit
end Go.Proofs.Ytfaefmabjjndeaa
