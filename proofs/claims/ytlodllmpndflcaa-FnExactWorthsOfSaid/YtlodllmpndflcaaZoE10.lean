/-
  The program's attraction.
-/
import Derived.Test.YtlodllmpndflcaaZoE8
namespace Go.Proofs.Ytlodllmpndflcaa
set_option linter.unusedVariables false
set_option linter.unusedSimpArgs false
open Go.RowKit
theorem rQ (q : List Int) (i j : Nat) : gi (q.drop i) j = gi q (i + j):=by simp [gi,List.getD_eq_getElem?_getD]
end Go.Proofs.Ytlodllmpndflcaa
