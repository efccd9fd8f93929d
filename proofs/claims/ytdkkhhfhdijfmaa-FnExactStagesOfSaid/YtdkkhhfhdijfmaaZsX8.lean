/-
  The program's copy of a list of lists, owned row by row.
-/
import Derived.Test.YtdkkhhfhdijfmaaZsCb
namespace Go.Proofs.Ytdkkhhfhdijfmaa
set_option linter.unusedVariables false
set_option linter.unusedSimpArgs false
open Go.RowKit
attribute [local go_sem ↓] Go.wp_at_zero Go.wp_at_succ
end Go.Proofs.Ytdkkhhfhdijfmaa
