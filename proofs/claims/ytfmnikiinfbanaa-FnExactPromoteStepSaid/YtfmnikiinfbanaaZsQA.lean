/-
  Priority promotion, the reference: how many steps.
-/
import Derived.Test.YtfmnikiinfbanaaZsQ9
namespace Go.Proofs.Ytfmnikiinfbanaa
set_option linter.unusedVariables false
set_option linter.unusedSimpArgs false
open Go.RowKit
attribute [local irreducible] FunSpec CallR Aw Le
end Go.Proofs.Ytfmnikiinfbanaa
