/-
  The solver's small functions.
-/
import Derived.Test.YtiadchinhofieaaZbCe
import Derived.Test.YtiadchinhofieaaZbCg
namespace Go.Proofs.Ytiadchinhofieaa
set_option linter.unusedVariables false
set_option linter.unusedSimpArgs false
open Go.RowKit
attribute [local irreducible] bp cR Aw Le
end Go.Proofs.Ytiadchinhofieaa
