/-
  Small games, in the old words.
-/
import Derived.Test.YtceonklhlpkfgaaZlCb
namespace Go.Proofs.Ytceonklhlpkfgaa
set_option linter.unusedVariables false
set_option linter.unusedSimpArgs false
open Go.RowKit
def eZ (g : Pa) : Prop:=PaOk g ∧ g.prio.length ≤ 12
def nj (n : Nat) (x : Int) : Prop:=0 ≤ x ∧ x < n
end Go.Proofs.Ytceonklhlpkfgaa
