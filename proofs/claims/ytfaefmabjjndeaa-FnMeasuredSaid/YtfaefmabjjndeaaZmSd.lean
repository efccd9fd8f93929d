/-
  Small games, in the old words.
-/
import Derived.Test.YtfaefmabjjndeaaZmCb
namespace Go.Proofs.Ytfaefmabjjndeaa
set_option linter.unusedVariables false
set_option linter.unusedSimpArgs false
open Go.RowKit
def ec (g : Pa) : Prop:=PaOk g ∧ g.prio.length ≤ 12
def tq (n : Nat) (x : Int) : Prop:=0 ≤ x ∧ x < n
end Go.Proofs.Ytfaefmabjjndeaa
