/-
  Binary search in a set; what is in one set and not in another one.
-/
import Derived.Test.YtiadchinhofieaaZbKf
import Derived.Test.YtiadchinhofieaaZbCb
import Derived.Test.YtiadchinhofieaaZbAt2
namespace Go.Proofs.Ytiadchinhofieaa
set_option linter.unusedVariables false
set_option linter.unusedSimpArgs false
open Go.RowKit
end Go.Proofs.Ytiadchinhofieaa
