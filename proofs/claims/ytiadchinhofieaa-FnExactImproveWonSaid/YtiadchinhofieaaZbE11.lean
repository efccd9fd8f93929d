/-
  The program's recursive solver.
-/
import Derived.Test.YtiadchinhofieaaZbE10
import Derived.Test.YtiadchinhofieaaZbE9
import Derived.Test.YtiadchinhofieaaZbCe
import Derived.Test.YtiadchinhofieaaZbFc
namespace Go.Proofs.Ytiadchinhofieaa
set_option linter.unusedVariables false
set_option linter.unusedSimpArgs false
open Go.RowKit
attribute [local irreducible] bp cR Aw Le
end Go.Proofs.Ytiadchinhofieaa
