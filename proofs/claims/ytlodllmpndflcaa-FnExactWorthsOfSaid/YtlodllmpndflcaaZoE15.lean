/-
  Traps: the vertices by which a set is none.
-/
import Derived.Test.YtlodllmpndflcaaZoE13
import Derived.Test.YtlodllmpndflcaaZoG3
namespace Go.Proofs.Ytlodllmpndflcaa
set_option linter.unusedVariables false
set_option linter.unusedSimpArgs false
open Go.RowKit
end Go.Proofs.Ytlodllmpndflcaa
