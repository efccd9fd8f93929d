/-
  Picks: games in which some vertices have one successor only.
-/
import Derived.Test.YtiadchinhofieaaZbE13
import Derived.Test.YtiadchinhofieaaZbG3
import Derived.Test.YtiadchinhofieaaZbKf
namespace Go.Proofs.Ytiadchinhofieaa
set_option linter.unusedVariables false
set_option linter.unusedSimpArgs false
open Go.RowKit
attribute [local irreducible] bp cR Aw Le
end Go.Proofs.Ytiadchinhofieaa
