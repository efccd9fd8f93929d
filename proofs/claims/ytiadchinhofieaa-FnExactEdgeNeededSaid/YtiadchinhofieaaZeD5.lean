/-
  Dominions: the won region is one, and every one is a part of it.
-/
import Derived.Test.YtiadchinhofieaaZeG3
import Derived.Test.YtiadchinhofieaaZeE13
import Derived.Test.YtiadchinhofieaaZeE15
import Derived.Test.YtiadchinhofieaaZeD3
namespace Go.Proofs.Ytiadchinhofieaa
set_option linter.unusedVariables false
set_option linter.unusedSimpArgs false
open Go.RowKit
attribute [local irreducible] aq ce Aw Le
end Go.Proofs.Ytiadchinhofieaa
namespace Go.Proofs.Ytiadchinhofieaa
set_option linter.unusedVariables false
set_option linter.unusedSimpArgs false
open Go.RowKit
end Go.Proofs.Ytiadchinhofieaa
namespace Go.Proofs.Ytiadchinhofieaa
set_option linter.unusedVariables false
set_option linter.unusedSimpArgs false
open Go.RowKit
end Go.Proofs.Ytiadchinhofieaa
