/-
  The program's recursive solver.
-/
import Derived.Test.YtlodllmpndflcaaZoE10
import Derived.Test.YtlodllmpndflcaaZoE9
import Derived.Test.YtlodllmpndflcaaZoCe
import Derived.Test.YtlodllmpndflcaaZoFc
namespace Go.Proofs.Ytlodllmpndflcaa
set_option linter.unusedVariables false
set_option linter.unusedSimpArgs false
open Go.RowKit
end Go.Proofs.Ytlodllmpndflcaa
