/-
  Traps: the vertices by which a set is none.
-/
import Derived.Test.YtiadchinhofieaaZeE13
import Derived.Test.YtiadchinhofieaaZeG3
namespace Go.Proofs.Ytiadchinhofieaa
set_option linter.unusedVariables false
set_option linter.unusedSimpArgs false
open Go.RowKit
end Go.Proofs.Ytiadchinhofieaa
