/-
  Sets grown by the dice: insertion.
-/
import Derived.Test.YthdioaeekhkgcaaZSvG2
namespace Go.Proofs.Ythdioaeekhkgcaa
set_option linter.unusedVariables false
set_option linter.unusedSimpArgs false
open Go.RowKit
attribute [local irreducible] FunSpec CallR Aw Le
end Go.Proofs.Ythdioaeekhkgcaa
