/-
  Priority promotion, the program: all stages.
-/
import Derived.Test.YtdkkhhfhdijfmaaZsP11
namespace Go.Proofs.Ytdkkhhfhdijfmaa
set_option linter.unusedVariables false
set_option linter.unusedSimpArgs false
open Go.RowKit
attribute [local irreducible] ay b9 Aw Le
def ul (s : St) : List C:=[.nn (.I s.won),.nn (.I s.region),.int .i64 s.at_]
def fW (n : Nat) (f : Nat → List C) : List (List C):=(List.range n).map f
theorem jT (n : Nat) (f : Nat → List C) : (fW n f).length = n:=by simp [fW]
theorem pC (n : Nat) (f : Nat → List C) : fW (n + 1) f = fW n f ++ [f n]:=by simp [fW,List.range_succ]
theorem mF {n : Nat} {f : Nat → List C} {i : Nat} (h : i < n) : (fW n f).getD i [] = f i:=by
 simp [fW,List.getD_eq_getElem?_getD,List.getElem?_eq_getElem (show i < (List.map f (List.range n)).length by simpa using h)]
theorem pD (n : Nat) (f : Nat → List C) : (fW (n + 1) f).getD (((fW (n + 1) f).length : Int) - 1).toNat [] = f n:=by
 rw [jT,show (((n + 1 : Nat) : Int) - 1).toNat = n by omega,mF (Nat.lt_succ_self n)]
theorem um (s : St) : (ul s).getD 0 .nul = .nn (.I s.won):=rfl
theorem un (s : St) : (ul s).getD 1 .nul = .nn (.I s.region):=rfl
theorem uo (s : St) : (ul s).getD 2 .nul = .int .i64 s.at_:=rfl
attribute [go_sem] pD um un uo
end Go.Proofs.Ytdkkhhfhdijfmaa
