/-
  The program's copy of a list of lists, owned row by row.
-/
import Derived.Test.YtlodllmpndflcaaZoCb
namespace Go.Proofs.Ytlodllmpndflcaa
set_option linter.unusedVariables false
set_option linter.unusedSimpArgs false
open Go.RowKit
attribute [local go_sem ↓] Go.wp_at_zero Go.wp_at_succ
end Go.Proofs.Ytlodllmpndflcaa
