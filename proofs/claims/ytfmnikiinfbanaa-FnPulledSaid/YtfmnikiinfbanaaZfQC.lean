/-
  Priority promotion, the reference: the functions that are told of a stage.
-/
import Derived.Test.YtfmnikiinfbanaaZfQB
import Derived.Test.YtfmnikiinfbanaaZfPC
namespace Go.Proofs.Ytfmnikiinfbanaa
set_option linter.unusedVariables false
set_option linter.unusedSimpArgs false
open Go.RowKit
attribute [local irreducible] FunSpec CallR Aw Le
end Go.Proofs.Ytfmnikiinfbanaa
