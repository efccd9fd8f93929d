/-
  Right answers: who they tell wins does win, and the solver's answers are right.
-/
import Derived.Test.YtiadchinhofieaaZcR3
import Derived.Test.YtiadchinhofieaaZcE23
namespace Go.Proofs.Ytiadchinhofieaa
set_option linter.unusedVariables false
set_option linter.unusedSimpArgs false
open Go.RowKit
end Go.Proofs.Ytiadchinhofieaa
