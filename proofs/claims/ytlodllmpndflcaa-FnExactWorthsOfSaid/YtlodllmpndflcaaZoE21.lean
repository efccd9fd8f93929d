/-
  PlanFrom and Solved: the reference's side (the contract of l7Of with its own pick list is a premise still).
-/
import Derived.Test.YtlodllmpndflcaaZoE19
namespace Go.Proofs.Ytlodllmpndflcaa
set_option linter.unusedVariables false
set_option linter.unusedSimpArgs false
open Go.RowKit
end Go.Proofs.Ytlodllmpndflcaa
namespace Go.Proofs.Ytlodllmpndflcaa
set_option linter.unusedVariables false
set_option linter.unusedSimpArgs false
open Go.RowKit
end Go.Proofs.Ytlodllmpndflcaa
