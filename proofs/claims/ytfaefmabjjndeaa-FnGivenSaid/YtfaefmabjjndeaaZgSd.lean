/-
  Small games, in the old words.
-/
import Derived.Test.YtfaefmabjjndeaaZgCb
namespace Go.Proofs.Ytfaefmabjjndeaa
set_option linter.unusedVariables false
set_option linter.unusedSimpArgs false
open Go.RowKit
def wo (n : Nat) (x : Int) : Prop:=0 ≤ x ∧ x < n
end Go.Proofs.Ytfaefmabjjndeaa
