/-
  The reference's recursive solver.
-/
import Derived.Test.YtiadchinhofieaaZqE8
import Derived.Test.YtiadchinhofieaaZqCp
namespace Go.Proofs.Ytiadchinhofieaa
set_option linter.unusedVariables false
set_option linter.unusedSimpArgs false
open Go.RowKit
attribute [local irreducible] bt cU Aw Le
end Go.Proofs.Ytiadchinhofieaa
