/-
  A call that is given a list up and hands back plain data; lists of rows filled step by step.
-/
import Derived.Test.YtlodllmpndflcaaZoFc
import Derived.Test.YtlodllmpndflcaaZoCg
namespace Go.Proofs.Ytlodllmpndflcaa
set_option linter.unusedVariables false
set_option linter.unusedSimpArgs false
open Go.RowKit
end Go.Proofs.Ytlodllmpndflcaa
