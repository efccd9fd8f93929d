/-
  Small games, in the old words.
-/
import Derived.Test.YtiadchinhofieaaZqCb
namespace Go.Proofs.Ytiadchinhofieaa
set_option linter.unusedVariables false
set_option linter.unusedSimpArgs false
open Go.RowKit
def dG (g : Pa) : Prop:=PaOk g ∧ g.prio.length ≤ 12
def ff (n : Nat) (x : Int) : Prop:=0 ≤ x ∧ x < n
end Go.Proofs.Ytiadchinhofieaa
