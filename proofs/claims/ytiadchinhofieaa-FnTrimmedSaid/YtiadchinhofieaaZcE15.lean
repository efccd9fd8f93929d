/-
  Traps: the vertices by which a set is none.
-/
import Derived.Test.YtiadchinhofieaaZcE13
import Derived.Test.YtiadchinhofieaaZcG3
namespace Go.Proofs.Ytiadchinhofieaa
set_option linter.unusedVariables false
set_option linter.unusedSimpArgs false
open Go.RowKit
end Go.Proofs.Ytiadchinhofieaa
