/-
  The winners of a whole game, on both sides.
-/
import Derived.Test.YtiadchinhofieaaZbE12
import Derived.Test.YtiadchinhofieaaZbG3
namespace Go.Proofs.Ytiadchinhofieaa
set_option linter.unusedVariables false
set_option linter.unusedSimpArgs false
open Go.RowKit
attribute [local irreducible] bp cR Aw Le
end Go.Proofs.Ytiadchinhofieaa
