/-
  Who wins which vertex: the program's and the reference's.
-/
import Derived.Test.YtiadchinhofieaaZqE11
import Derived.Test.YtiadchinhofieaaZqCe
import Derived.Test.YtiadchinhofieaaZqCq
namespace Go.Proofs.Ytiadchinhofieaa
set_option linter.unusedVariables false
set_option linter.unusedSimpArgs false
open Go.RowKit
attribute [local irreducible] bt cU Aw Le
end Go.Proofs.Ytiadchinhofieaa
