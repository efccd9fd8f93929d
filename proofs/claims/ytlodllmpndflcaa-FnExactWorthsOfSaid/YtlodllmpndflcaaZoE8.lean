/-
  The reference's attraction.
-/
import Derived.Test.YtlodllmpndflcaaZoE7
import Derived.Test.YtlodllmpndflcaaZoCe
import Derived.Test.YtlodllmpndflcaaZoCp
namespace Go.Proofs.Ytlodllmpndflcaa
set_option linter.unusedVariables false
set_option linter.unusedSimpArgs false
open Go.RowKit
end Go.Proofs.Ytlodllmpndflcaa
