/-
  Priority promotion, the reference: how many steps.
-/
import Derived.Test.YtdkkhhfhdijfmaaZsQ9
namespace Go.Proofs.Ytdkkhhfhdijfmaa
set_option linter.unusedVariables false
set_option linter.unusedSimpArgs false
open Go.RowKit
end Go.Proofs.Ytdkkhhfhdijfmaa
