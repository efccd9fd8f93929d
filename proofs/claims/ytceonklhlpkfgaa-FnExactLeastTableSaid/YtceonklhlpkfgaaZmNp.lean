/-
  The plan that picks nothing.
-/
import Derived.Test.YtceonklhlpkfgaaZmKf
namespace Go.Proofs.Ytceonklhlpkfgaa
set_option linter.unusedVariables false
set_option linter.unusedSimpArgs false
open Go.RowKit
end Go.Proofs.Ytceonklhlpkfgaa
