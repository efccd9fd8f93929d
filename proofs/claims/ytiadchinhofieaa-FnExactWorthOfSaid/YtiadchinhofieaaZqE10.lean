/-
  The program's attraction.
-/
import Derived.Test.YtiadchinhofieaaZqE8
namespace Go.Proofs.Ytiadchinhofieaa
set_option linter.unusedVariables false
set_option linter.unusedSimpArgs false
open Go.RowKit
attribute [local irreducible] bt cU Aw Le
theorem uO (q : List Int) (i j : Nat) : gi (q.drop i) j = gi q (i + j):=by simp [gi,List.getD_eq_getElem?_getD]
end Go.Proofs.Ytiadchinhofieaa
