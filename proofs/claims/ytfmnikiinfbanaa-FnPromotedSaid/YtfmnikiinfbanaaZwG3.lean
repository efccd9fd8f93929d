/-
  Small functions: marks of a set; the vertices of a trap.
-/
import Derived.Test.YtfmnikiinfbanaaZwG1
namespace Go.Proofs.Ytfmnikiinfbanaa
set_option linter.unusedVariables false
set_option linter.unusedSimpArgs false
open Go.RowKit
end Go.Proofs.Ytfmnikiinfbanaa
