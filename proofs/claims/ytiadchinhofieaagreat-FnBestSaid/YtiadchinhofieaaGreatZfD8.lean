/-
  Games of the chapters' dice.
-/
import Derived.Test.YtiadchinhofieaaGreatZfD3
namespace Go.Proofs.YtiadchinhofieaaGreat
set_option linter.unusedVariables false
set_option linter.unusedSimpArgs false
open Go.RowKit
end Go.Proofs.YtiadchinhofieaaGreat
