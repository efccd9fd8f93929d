/-
  Small games, in the old words.
-/
import Derived.Test.YtceonklhlpkfgaaZmCb
namespace Go.Proofs.Ytceonklhlpkfgaa
set_option linter.unusedVariables false
set_option linter.unusedSimpArgs false
open Go.RowKit
def cH (g : Pa) : Prop:=PaOk g ∧ g.prio.length ≤ 12
end Go.Proofs.Ytceonklhlpkfgaa
