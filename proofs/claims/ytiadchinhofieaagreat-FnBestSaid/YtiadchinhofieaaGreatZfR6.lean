/-
  Right answers: the program's side, what is reached, bad loops, the whole check.
-/
import Derived.Test.YtiadchinhofieaaGreatZfR3
import Derived.Test.YtiadchinhofieaaGreatZfE15
namespace Go.Proofs.YtiadchinhofieaaGreat
set_option linter.unusedVariables false
set_option linter.unusedSimpArgs false
open Go.RowKit
theorem dl {a b : Int} (h : (a == b) = false) : a ≠ b:=by simpa using h
end Go.Proofs.YtiadchinhofieaaGreat
namespace Go.Proofs.YtiadchinhofieaaGreat
set_option linter.unusedVariables false
set_option linter.unusedSimpArgs false
open Go.RowKit
end Go.Proofs.YtiadchinhofieaaGreat
