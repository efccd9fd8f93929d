/-
  A call that is given a list up and hands back plain data; lists of rows filled step by step.
-/
import Derived.Test.YtfaefmabjjndeaaZeFc
import Derived.Test.YtfaefmabjjndeaaZeCg
namespace Go.Proofs.Ytfaefmabjjndeaa
set_option linter.unusedVariables false
set_option linter.unusedSimpArgs false
open Go.RowKit
theorem uX {n k : Nat} {f d : Nat → List Int} {x : List Int} (hk : k < n) (hx : x = f k) : (di n fun i=>if i < k + 1 then f i else d i) = (di n fun i=>if i < k then f i else d i).set k x:=by
 rw [nI hk]
 refine d9 fun j hj=>?_
 by_cases e : j = k
 · subst e;rw [if_pos (by omega),if_pos rfl,hx]
 · rw [if_neg e]
   by_cases h : j < k
   · rw [if_pos (by omega),if_pos h]
   · rw [if_neg (by omega),if_neg h]
theorem qe {n k : Nat} {f d : Nat → List Int} (hx : f k = d k) : (di n fun i=>if i < k + 1 then f i else d i) = di n fun i=>if i < k then f i else d i :=
 d9 fun j hj=>by
  by_cases e : j = k
  · subst e;rw [if_pos (by omega),if_neg (by omega),hx]
  · by_cases h : j < k
    · rw [if_pos (by omega),if_pos h]
    · rw [if_neg (by omega),if_neg h]
theorem lR {n k : Nat} {f d : Nat → List Int} (hk : n ≤ k) : (di n fun i=>if i < k then f i else d i) = di n f:=d9 fun j hj=>if_pos (by omega)
end Go.Proofs.Ytfaefmabjjndeaa
