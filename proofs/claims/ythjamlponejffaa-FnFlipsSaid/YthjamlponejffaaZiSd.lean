/-
  Small games, in the old words.
-/
import Derived.Test.YthjamlponejffaaZiCb
namespace Go.Proofs.Ythjamlponejffaa
set_option linter.unusedVariables false
set_option linter.unusedSimpArgs false
open Go.RowKit
end Go.Proofs.Ythjamlponejffaa
