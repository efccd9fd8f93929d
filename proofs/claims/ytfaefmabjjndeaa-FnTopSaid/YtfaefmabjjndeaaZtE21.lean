/-
  PlanFrom and Solved: the reference's side (the contract of l7Of with its own pick list is a premise still).
-/
import Derived.Test.YtfaefmabjjndeaaZtE20
namespace Go.Proofs.Ytfaefmabjjndeaa
set_option linter.unusedVariables false
set_option linter.unusedSimpArgs false
open Go.RowKit
attribute [local irreducible] FunSpec CallR Aw Le
end Go.Proofs.Ytfaefmabjjndeaa
