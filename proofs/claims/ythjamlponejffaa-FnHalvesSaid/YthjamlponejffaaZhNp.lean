/-
  The plan that picks nothing.
-/
import Derived.Test.YthjamlponejffaaZhKf
namespace Go.Proofs.Ythjamlponejffaa
set_option linter.unusedVariables false
set_option linter.unusedSimpArgs false
open Go.RowKit
def noP (n : Nat) : List Int:=tab n fun _=>-1
end Go.Proofs.Ythjamlponejffaa
