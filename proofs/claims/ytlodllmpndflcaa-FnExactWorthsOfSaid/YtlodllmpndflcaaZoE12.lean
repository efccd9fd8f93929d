/-
  Who wins which vertex: the program's and the reference's.
-/
import Derived.Test.YtlodllmpndflcaaZoE11
import Derived.Test.YtlodllmpndflcaaZoCe
import Derived.Test.YtlodllmpndflcaaZoCq
namespace Go.Proofs.Ytlodllmpndflcaa
set_option linter.unusedVariables false
set_option linter.unusedSimpArgs false
open Go.RowKit
end Go.Proofs.Ytlodllmpndflcaa
