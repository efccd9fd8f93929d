/-
  The reference's recursive solver.
-/
import Derived.Test.YtlodllmpndflcaaZoE8
import Derived.Test.YtlodllmpndflcaaZoCp
namespace Go.Proofs.Ytlodllmpndflcaa
set_option linter.unusedVariables false
set_option linter.unusedSimpArgs false
open Go.RowKit
end Go.Proofs.Ytlodllmpndflcaa
