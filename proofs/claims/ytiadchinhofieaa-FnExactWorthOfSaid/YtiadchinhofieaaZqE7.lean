/-
  The solver's small functions.
-/
import Derived.Test.YtiadchinhofieaaZqCe
import Derived.Test.YtiadchinhofieaaZqCg
namespace Go.Proofs.Ytiadchinhofieaa
set_option linter.unusedVariables false
set_option linter.unusedSimpArgs false
open Go.RowKit
attribute [local irreducible] bt cU Aw Le
end Go.Proofs.Ytiadchinhofieaa
