/-
  The games, the plans that the dice draw.
-/
import Derived.Test.YthdioaeekhkgcaaZSvD1
import Derived.Test.YthdioaeekhkgcaaZSvD2
namespace Go.Proofs.Ythdioaeekhkgcaa
set_option linter.unusedVariables false
set_option linter.unusedSimpArgs false
open Go.RowKit
attribute [local irreducible] FunSpec CallR Aw Le
end Go.Proofs.Ythdioaeekhkgcaa
