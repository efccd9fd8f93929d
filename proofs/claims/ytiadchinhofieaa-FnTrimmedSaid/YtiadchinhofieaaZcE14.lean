/-
  Picks: games in which some vertices have one successor only.
-/
import Derived.Test.YtiadchinhofieaaZcE13
import Derived.Test.YtiadchinhofieaaZcG3
import Derived.Test.YtiadchinhofieaaZcKf
namespace Go.Proofs.Ytiadchinhofieaa
set_option linter.unusedVariables false
set_option linter.unusedSimpArgs false
open Go.RowKit
attribute [local irreducible] aq ci Aw Le
end Go.Proofs.Ytiadchinhofieaa
