/-
  Plays: the program's side.
-/
import Derived.Test.YtfaefmabjjndeaaZgR7
import Derived.Test.YtfaefmabjjndeaaZgR6
namespace Go.Proofs.Ytfaefmabjjndeaa
set_option linter.unusedVariables false
set_option linter.unusedSimpArgs false
open Go.RowKit
attribute [local irreducible] aG cO Aw Le
def jB (a : Ar) (who : Int) (ps : List Int) : Prop:=ps.length = a.own.length ∧ ∀ v,v < ps.length → gi ps v = -1 ∨ gi a.own v = who ∧ gi ps v ∈ gr a.nxt v
end Go.Proofs.Ytfaefmabjjndeaa
