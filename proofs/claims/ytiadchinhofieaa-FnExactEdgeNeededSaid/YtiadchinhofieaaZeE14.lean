/-
  Picks: games in which some vertices have one successor only.
-/
import Derived.Test.YtiadchinhofieaaZeE13
import Derived.Test.YtiadchinhofieaaZeG3
import Derived.Test.YtiadchinhofieaaZeKf
namespace Go.Proofs.Ytiadchinhofieaa
set_option linter.unusedVariables false
set_option linter.unusedSimpArgs false
open Go.RowKit
attribute [local irreducible] aq ce Aw Le
end Go.Proofs.Ytiadchinhofieaa
