/-
  The plan that picks nothing.
-/
import Derived.Test.YtfkiloibifigfaaZLsKf
namespace Go.Proofs.Ytfkiloibifigfaa
set_option linter.unusedVariables false
set_option linter.unusedSimpArgs false
open Go.RowKit
attribute [local irreducible] FunSpec CallR Aw Le
end Go.Proofs.Ytfkiloibifigfaa
