/-
  Games of the chapters' dice.
-/
import Derived.Test.YtiadchinhofieaaZqD3
namespace Go.Proofs.Ytiadchinhofieaa
set_option linter.unusedVariables false
set_option linter.unusedSimpArgs false
open Go.RowKit
end Go.Proofs.Ytiadchinhofieaa
