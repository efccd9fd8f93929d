/-
  The contracts of promotion as the laws' walks want them.
-/
import Derived.Test.YtfmnikiinfbanaaZsQA
import Derived.Test.YtfmnikiinfbanaaZsLaw
import Derived.Test.YtfmnikiinfbanaaZsM3
namespace Go.Proofs.Ytfmnikiinfbanaa
set_option linter.unusedVariables false
set_option linter.unusedSimpArgs false
open Go.RowKit
end Go.Proofs.Ytfmnikiinfbanaa
