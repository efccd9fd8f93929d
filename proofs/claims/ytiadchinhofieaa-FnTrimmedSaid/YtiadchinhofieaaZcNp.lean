/-
  The plan that picks nothing.
-/
import Derived.Test.YtiadchinhofieaaZcKf
namespace Go.Proofs.Ytiadchinhofieaa
set_option linter.unusedVariables false
set_option linter.unusedSimpArgs false
open Go.RowKit
attribute [local irreducible] aq ci Aw Le
end Go.Proofs.Ytiadchinhofieaa
