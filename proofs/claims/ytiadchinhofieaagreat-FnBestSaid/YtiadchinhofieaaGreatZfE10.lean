/-
  The program's attraction.
-/
import Derived.Test.YtiadchinhofieaaGreatZfE8
namespace Go.Proofs.YtiadchinhofieaaGreat
set_option linter.unusedVariables false
set_option linter.unusedSimpArgs false
open Go.RowKit
theorem un {xs : List Int} {w : Nat} {x : Int} (h : gi xs w = x) : xs.set w x = xs:=by
 apply List.ext_getElem?
 intro j
 rw [List.getElem?_set]
 by_cases e : w = j
 · subst e
   by_cases hl : w < xs.length
   · rw [if_pos rfl,if_pos hl,← h,gi,List.getD_eq_getElem?_getD,List.getElem?_eq_getElem hl];rfl
   · rw [if_pos rfl,if_neg hl,List.getElem?_eq_none (by omega)]
 · rw [if_neg e]
theorem wQ (q : List Int) (i j : Nat) : gi (q.drop i) j = gi q (i + j):=by simp [gi,List.getD_eq_getElem?_getD]
end Go.Proofs.YtiadchinhofieaaGreat
