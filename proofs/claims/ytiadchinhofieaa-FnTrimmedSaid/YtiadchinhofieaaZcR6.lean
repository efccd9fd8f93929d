/-
  Right answers: the program's side, what is reached, bad loops, the whole check.
-/
import Derived.Test.YtiadchinhofieaaZcR3
import Derived.Test.YtiadchinhofieaaZcE15
namespace Go.Proofs.Ytiadchinhofieaa
set_option linter.unusedVariables false
set_option linter.unusedSimpArgs false
open Go.RowKit
theorem sW {a b : Int} (h : (a == b) = false) : a ≠ b:=by simpa using h
end Go.Proofs.Ytiadchinhofieaa
namespace Go.Proofs.Ytiadchinhofieaa
set_option linter.unusedVariables false
set_option linter.unusedSimpArgs false
open Go.RowKit
end Go.Proofs.Ytiadchinhofieaa
