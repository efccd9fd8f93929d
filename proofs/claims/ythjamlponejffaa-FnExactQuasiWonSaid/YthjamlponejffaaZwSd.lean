/-
  Small games, in the old words.
-/
import Derived.Test.YthjamlponejffaaZwCb
namespace Go.Proofs.Ythjamlponejffaa
set_option linter.unusedVariables false
set_option linter.unusedSimpArgs false
open Go.RowKit
def cP (g : Pa) : Prop:=PaOk g ∧ g.prio.length ≤ 12
end Go.Proofs.Ythjamlponejffaa
