/-
  Small games, in the old words.
-/
import Derived.Test.YthjamlponejffaaZhCb
namespace Go.Proofs.Ythjamlponejffaa
set_option linter.unusedVariables false
set_option linter.unusedSimpArgs false
open Go.RowKit
def dA (g : Pa) : Prop:=PaOk g ∧ g.prio.length ≤ 12
end Go.Proofs.Ythjamlponejffaa
