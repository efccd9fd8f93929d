/-
  The winners of a whole game, on both sides.
-/
import Derived.Test.YtlodllmpndflcaaZoE12
import Derived.Test.YtlodllmpndflcaaZoG3
namespace Go.Proofs.Ytlodllmpndflcaa
set_option linter.unusedVariables false
set_option linter.unusedSimpArgs false
open Go.RowKit
end Go.Proofs.Ytlodllmpndflcaa
