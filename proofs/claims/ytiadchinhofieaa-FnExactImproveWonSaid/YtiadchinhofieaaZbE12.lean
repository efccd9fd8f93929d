/-
  Who wins which vertex: the program's and the reference's.
-/
import Derived.Test.YtiadchinhofieaaZbE11
import Derived.Test.YtiadchinhofieaaZbCe
import Derived.Test.YtiadchinhofieaaZbCq
namespace Go.Proofs.Ytiadchinhofieaa
set_option linter.unusedVariables false
set_option linter.unusedSimpArgs false
open Go.RowKit
attribute [local irreducible] bp cR Aw Le
end Go.Proofs.Ytiadchinhofieaa
