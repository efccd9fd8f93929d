/-
  Measures, the reference: the plan of the measures.
-/
import Derived.Test.YtfkiloibifigfaaZLsM11
namespace Go.Proofs.Ytfkiloibifigfaa
set_option linter.unusedVariables false
set_option linter.unusedSimpArgs false
open Go.RowKit
attribute [local irreducible] FunSpec CallR Aw Le
end Go.Proofs.Ytfkiloibifigfaa
