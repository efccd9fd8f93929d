/-
  Dominions: the won region is one, and every one is a part of it.
-/
import Derived.Test.YtiadchinhofieaaZbG3
import Derived.Test.YtiadchinhofieaaZbE13
import Derived.Test.YtiadchinhofieaaZbE15
import Derived.Test.YtiadchinhofieaaZbD3
namespace Go.Proofs.Ytiadchinhofieaa
set_option linter.unusedVariables false
set_option linter.unusedSimpArgs false
open Go.RowKit
attribute [local irreducible] bp cR Aw Le
end Go.Proofs.Ytiadchinhofieaa
namespace Go.Proofs.Ytiadchinhofieaa
set_option linter.unusedVariables false
set_option linter.unusedSimpArgs false
open Go.RowKit
end Go.Proofs.Ytiadchinhofieaa
namespace Go.Proofs.Ytiadchinhofieaa
set_option linter.unusedVariables false
set_option linter.unusedSimpArgs false
open Go.RowKit
end Go.Proofs.Ytiadchinhofieaa
