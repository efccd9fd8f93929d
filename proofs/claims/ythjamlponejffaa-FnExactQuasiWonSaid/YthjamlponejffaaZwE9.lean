/-
  The reference's recursive solver.
-/
import Derived.Test.YthjamlponejffaaZwE8
import Derived.Test.YthjamlponejffaaZwCp
namespace Go.Proofs.Ythjamlponejffaa
set_option linter.unusedVariables false
set_option linter.unusedSimpArgs false
open Go.RowKit
attribute [local irreducible] au ci Aw Le
theorem uj {bs : List Bool} {v : Nat} (h : gb bs v = true) : v < bs.length:=by
 rcases Nat.lt_or_ge v bs.length with h'|h'
 · exact h'
 · rw [gb,List.getD_eq_getElem?_getD,List.getElem?_eq_none h'] at h;cases h
end Go.Proofs.Ythjamlponejffaa
