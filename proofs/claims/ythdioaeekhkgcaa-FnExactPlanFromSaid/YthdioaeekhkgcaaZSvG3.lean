/-
  Small functions: marks of a set; the vertices of a trap.
-/
import Derived.Test.YthdioaeekhkgcaaZSvG1
namespace Go.Proofs.Ythdioaeekhkgcaa
set_option linter.unusedVariables false
set_option linter.unusedSimpArgs false
open Go.RowKit
attribute [local irreducible] FunSpec CallR Aw Le
end Go.Proofs.Ythdioaeekhkgcaa
