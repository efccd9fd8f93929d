/-
  Solved and PlanFrom: the program's side.
-/
import Derived.Test.YtiadchinhofieaaZeE14
import Derived.Test.YtiadchinhofieaaZeD5
import Derived.Test.YtiadchinhofieaaZeE15
import Derived.Test.YtiadchinhofieaaZeNp
namespace Go.Proofs.Ytiadchinhofieaa
set_option linter.unusedVariables false
set_option linter.unusedSimpArgs false
open Go.RowKit
end Go.Proofs.Ytiadchinhofieaa
namespace Go.Proofs.Ytiadchinhofieaa
set_option linter.unusedVariables false
set_option linter.unusedSimpArgs false
open Go.RowKit
end Go.Proofs.Ytiadchinhofieaa
namespace Go.Proofs.Ytiadchinhofieaa
set_option linter.unusedVariables false
set_option linter.unusedSimpArgs false
open Go.RowKit
