/-
  The play of two plans up to the first vertex that is met again: who wins it.
-/
import Derived.Test.YtiadchinhofieaaZcR2
import Derived.Test.YtiadchinhofieaaZcR3
namespace Go.Proofs.Ytiadchinhofieaa
set_option linter.unusedVariables false
set_option linter.unusedSimpArgs false
open Go.RowKit
end Go.Proofs.Ytiadchinhofieaa
