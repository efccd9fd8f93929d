/-
  The program's recursive solver.
-/
import Derived.Test.YtiadchinhofieaaZqE10
import Derived.Test.YtiadchinhofieaaZqE9
import Derived.Test.YtiadchinhofieaaZqCe
import Derived.Test.YtiadchinhofieaaZqFc
namespace Go.Proofs.Ytiadchinhofieaa
set_option linter.unusedVariables false
set_option linter.unusedSimpArgs false
open Go.RowKit
attribute [local irreducible] bt cU Aw Le
end Go.Proofs.Ytiadchinhofieaa
