/-
  The program's improved plan and best plan.
-/
import Derived.Test.YtlodllmpndflcaaZoI6
namespace Go.Proofs.Ytlodllmpndflcaa
set_option linter.unusedVariables false
set_option linter.unusedSimpArgs false
open Go.RowKit
attribute [local go_sem] gE vB vC vD
end Go.Proofs.Ytlodllmpndflcaa
