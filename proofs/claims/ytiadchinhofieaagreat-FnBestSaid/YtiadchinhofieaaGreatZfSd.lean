/-
  Small games, in the old words.
-/
import Derived.Test.YtiadchinhofieaaGreatZfCb
namespace Go.Proofs.YtiadchinhofieaaGreat
set_option linter.unusedVariables false
set_option linter.unusedSimpArgs false
open Go.RowKit
def dr (g : Pa) : Prop:=PaOk g ∧ g.prio.length ≤ 12
def fP (n : Nat) (x : Int) : Prop:=0 ≤ x ∧ x < n
end Go.Proofs.YtiadchinhofieaaGreat
