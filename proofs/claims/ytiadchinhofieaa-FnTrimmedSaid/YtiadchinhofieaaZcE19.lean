/-
  Solved and PlanFrom: the program's side.
-/
import Derived.Test.YtiadchinhofieaaZcE14
import Derived.Test.YtiadchinhofieaaZcD5
import Derived.Test.YtiadchinhofieaaZcE15
import Derived.Test.YtiadchinhofieaaZcNp
namespace Go.Proofs.Ytiadchinhofieaa
set_option linter.unusedVariables false
set_option linter.unusedSimpArgs false
open Go.RowKit
end Go.Proofs.Ytiadchinhofieaa
namespace Go.Proofs.Ytiadchinhofieaa
set_option linter.unusedVariables false
set_option linter.unusedSimpArgs false
open Go.RowKit
end Go.Proofs.Ytiadchinhofieaa
namespace Go.Proofs.Ytiadchinhofieaa
set_option linter.unusedVariables false
set_option linter.unusedSimpArgs false
open Go.RowKit
