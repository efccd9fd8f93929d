/-
  Small games, in the old words.
-/
import Derived.Test.YtlodllmpndflcaaZoCb
namespace Go.Proofs.Ytlodllmpndflcaa
set_option linter.unusedVariables false
set_option linter.unusedSimpArgs false
open Go.RowKit
def dU (g : Pa) : Prop:=PaOk g ∧ g.prio.length ≤ 12
def f4 (n : Nat) (x : Int) : Prop:=0 ≤ x ∧ x < n
end Go.Proofs.Ytlodllmpndflcaa
