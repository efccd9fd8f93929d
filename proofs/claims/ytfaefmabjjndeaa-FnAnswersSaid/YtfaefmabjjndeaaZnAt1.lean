/-
  Attraction by ranks: the program's.
-/
import Derived.Test.YtfaefmabjjndeaaZnE8
import Derived.Test.YtfaefmabjjndeaaZnCe
import Derived.Test.YtfaefmabjjndeaaZnKf
import Derived.Test.YtfaefmabjjndeaaZnG3
namespace Go.Proofs.Ytfaefmabjjndeaa
set_option linter.unusedVariables false
set_option linter.unusedSimpArgs false
open Go.RowKit
attribute [local irreducible] ax cJ Aw Le
end Go.Proofs.Ytfaefmabjjndeaa
