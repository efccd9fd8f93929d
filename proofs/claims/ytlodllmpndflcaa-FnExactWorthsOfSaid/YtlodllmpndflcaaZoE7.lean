/-
  The solver's small functions.
-/
import Derived.Test.YtlodllmpndflcaaZoCe
import Derived.Test.YtlodllmpndflcaaZoCg
namespace Go.Proofs.Ytlodllmpndflcaa
set_option linter.unusedVariables false
set_option linter.unusedSimpArgs false
open Go.RowKit
end Go.Proofs.Ytlodllmpndflcaa
