/-
  Picks: games in which some vertices have one successor only.
-/
import Derived.Test.YtiadchinhofieaaZqE13
import Derived.Test.YtiadchinhofieaaZqG3
import Derived.Test.YtiadchinhofieaaZqKf
namespace Go.Proofs.Ytiadchinhofieaa
set_option linter.unusedVariables false
set_option linter.unusedSimpArgs false
open Go.RowKit
attribute [local irreducible] bt cU Aw Le
end Go.Proofs.Ytiadchinhofieaa
