/-
  A call that is given a list up and hands back plain data; lists of rows filled step by step.
-/
import Derived.Test.YtceonklhlpkfgaaZlFc
import Derived.Test.YtceonklhlpkfgaaZlCg
namespace Go.Proofs.Ytceonklhlpkfgaa
set_option linter.unusedVariables false
set_option linter.unusedSimpArgs false
open Go.RowKit
end Go.Proofs.Ytceonklhlpkfgaa
