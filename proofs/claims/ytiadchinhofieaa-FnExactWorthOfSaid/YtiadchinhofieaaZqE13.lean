/-
  The winners of a whole game, on both sides.
-/
import Derived.Test.YtiadchinhofieaaZqE12
import Derived.Test.YtiadchinhofieaaZqG3
namespace Go.Proofs.Ytiadchinhofieaa
set_option linter.unusedVariables false
set_option linter.unusedSimpArgs false
open Go.RowKit
attribute [local irreducible] bt cU Aw Le
end Go.Proofs.Ytiadchinhofieaa
