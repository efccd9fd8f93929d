/-
  Small games, in the old words.
-/
import Derived.Test.YtiadchinhofieaaZcCb
namespace Go.Proofs.Ytiadchinhofieaa
set_option linter.unusedVariables false
set_option linter.unusedSimpArgs false
open Go.RowKit
def iM (n : Nat) (x : Int) : Prop:=0 ≤ x ∧ x < n
end Go.Proofs.Ytiadchinhofieaa
