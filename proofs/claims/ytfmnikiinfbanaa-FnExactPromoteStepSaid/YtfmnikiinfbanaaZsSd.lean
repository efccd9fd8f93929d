/-
  Small games, in the old words.
-/
import Derived.Test.YtfmnikiinfbanaaZsCb
namespace Go.Proofs.Ytfmnikiinfbanaa
set_option linter.unusedVariables false
set_option linter.unusedSimpArgs false
open Go.RowKit
def Small (g : Pa) : Prop := PaOk g ∧ g.prio.length ≤ 12
end Go.Proofs.Ytfmnikiinfbanaa
