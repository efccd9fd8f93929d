/-
  Dominions: the won region is one, and every one is a part of it.
-/
import Derived.Test.YtlodllmpndflcaaZoG3
import Derived.Test.YtlodllmpndflcaaZoE13
import Derived.Test.YtlodllmpndflcaaZoE15
import Derived.Test.YtlodllmpndflcaaZoD3
namespace Go.Proofs.Ytlodllmpndflcaa
set_option linter.unusedVariables false
set_option linter.unusedSimpArgs false
open Go.RowKit
end Go.Proofs.Ytlodllmpndflcaa
namespace Go.Proofs.Ytlodllmpndflcaa
set_option linter.unusedVariables false
set_option linter.unusedSimpArgs false
open Go.RowKit
end Go.Proofs.Ytlodllmpndflcaa
namespace Go.Proofs.Ytlodllmpndflcaa
set_option linter.unusedVariables false
set_option linter.unusedSimpArgs false
open Go.RowKit
end Go.Proofs.Ytlodllmpndflcaa
