/-
  Priority promotion, the program: all stages.
-/
import Derived.Test.YtdkkhhfhdijfmaaZpP11
namespace Go.Proofs.Ytdkkhhfhdijfmaa
set_option linter.unusedVariables false
set_option linter.unusedSimpArgs false
open Go.RowKit
attribute [local irreducible] ay b8 Aw Le
def tS (s : St) : List C:=[.nn (.I s.won),.nn (.I s.region),.int .i64 s.at_]
def jN (n : Nat) (f : Nat → List C) : List (List C):=(List.range n).map f
theorem mA (n : Nat) (f : Nat → List C) : (jN n f).length = n:=by simp [jN]
theorem pn (n : Nat) (f : Nat → List C) : jN (n + 1) f = jN n f ++ [f n]:=by simp [jN,List.range_succ]
theorem qX {n : Nat} {f : Nat → List C} {i : Nat} (h : i < n) : (jN n f).getD i [] = f i:=by
 simp [jN,List.getD_eq_getElem?_getD,List.getElem?_eq_getElem (show i < (List.map f (List.range n)).length by simpa using h)]
theorem po (n : Nat) (f : Nat → List C) : (jN (n + 1) f).getD (((jN (n + 1) f).length : Int) - 1).toNat [] = f n:=by
 rw [mA,show (((n + 1 : Nat) : Int) - 1).toNat = n by omega,qX (Nat.lt_succ_self n)]
theorem tT (s : St) : (tS s).getD 0 .nul = .nn (.I s.won):=rfl
theorem tU (s : St) : (tS s).getD 1 .nul = .nn (.I s.region):=rfl
theorem tV (s : St) : (tS s).getD 2 .nul = .int .i64 s.at_:=rfl
attribute [go_sem] po tT tU tV
end Go.Proofs.Ytdkkhhfhdijfmaa
