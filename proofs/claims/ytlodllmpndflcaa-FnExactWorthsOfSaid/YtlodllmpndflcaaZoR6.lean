/-
  Right answers: the program's side, what is reached, bad loops, the whole check.
-/
import Derived.Test.YtlodllmpndflcaaZoR3
import Derived.Test.YtlodllmpndflcaaZoE15
namespace Go.Proofs.Ytlodllmpndflcaa
set_option linter.unusedVariables false
set_option linter.unusedSimpArgs false
open Go.RowKit
theorem cU {a b : Int} (h : (a == b) = false) : a ≠ b:=by simpa using h
end Go.Proofs.Ytlodllmpndflcaa
namespace Go.Proofs.Ytlodllmpndflcaa
set_option linter.unusedVariables false
set_option linter.unusedSimpArgs false
open Go.RowKit
end Go.Proofs.Ytlodllmpndflcaa
