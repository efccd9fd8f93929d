/-
  Picks: games in which some vertices have one successor only.
-/
import Derived.Test.YtlodllmpndflcaaZoE13
import Derived.Test.YtlodllmpndflcaaZoG3
import Derived.Test.YtlodllmpndflcaaZoKf
namespace Go.Proofs.Ytlodllmpndflcaa
set_option linter.unusedVariables false
set_option linter.unusedSimpArgs false
open Go.RowKit
end Go.Proofs.Ytlodllmpndflcaa
