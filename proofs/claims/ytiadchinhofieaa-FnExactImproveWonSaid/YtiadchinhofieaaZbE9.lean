/-
  The reference's recursive solver.
-/
import Derived.Test.YtiadchinhofieaaZbE8
import Derived.Test.YtiadchinhofieaaZbCp
namespace Go.Proofs.Ytiadchinhofieaa
set_option linter.unusedVariables false
set_option linter.unusedSimpArgs false
open Go.RowKit
attribute [local irreducible] bp cR Aw Le
end Go.Proofs.Ytiadchinhofieaa
