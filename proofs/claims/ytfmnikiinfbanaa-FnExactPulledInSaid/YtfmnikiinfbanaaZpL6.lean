/-
  The contracts of promotion as the laws' walks want them.
-/
import Derived.Test.YtfmnikiinfbanaaZpQA
import Derived.Test.YtfmnikiinfbanaaZpLaw
import Derived.Test.YtfmnikiinfbanaaZpM3
namespace Go.Proofs.Ytfmnikiinfbanaa
set_option linter.unusedVariables false
set_option linter.unusedSimpArgs false
open Go.RowKit
end Go.Proofs.Ytfmnikiinfbanaa
