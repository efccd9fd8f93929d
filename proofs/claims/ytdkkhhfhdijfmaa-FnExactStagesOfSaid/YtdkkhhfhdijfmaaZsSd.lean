/-
  Small games, in the old words.
-/
import Derived.Test.YtdkkhhfhdijfmaaZsCb
namespace Go.Proofs.Ytdkkhhfhdijfmaa
set_option linter.unusedVariables false
set_option linter.unusedSimpArgs false
open Go.RowKit
def cJ (g : Pa) : Prop:=PaOk g ∧ g.prio.length ≤ 12
end Go.Proofs.Ytdkkhhfhdijfmaa
