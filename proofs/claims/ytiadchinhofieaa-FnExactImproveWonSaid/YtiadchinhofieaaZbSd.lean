/-
  Small games, in the old words.
-/
import Derived.Test.YtiadchinhofieaaZbCb
namespace Go.Proofs.Ytiadchinhofieaa
set_option linter.unusedVariables false
set_option linter.unusedSimpArgs false
open Go.RowKit
def dE (g : Pa) : Prop:=PaOk g ∧ g.prio.length ≤ 12
def fF (n : Nat) (x : Int) : Prop:=0 ≤ x ∧ x < n
end Go.Proofs.Ytiadchinhofieaa
