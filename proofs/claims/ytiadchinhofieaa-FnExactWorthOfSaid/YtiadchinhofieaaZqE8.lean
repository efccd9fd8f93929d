/-
  The reference's attraction.
-/
import Derived.Test.YtiadchinhofieaaZqE7
import Derived.Test.YtiadchinhofieaaZqCe
import Derived.Test.YtiadchinhofieaaZqCp
namespace Go.Proofs.Ytiadchinhofieaa
set_option linter.unusedVariables false
set_option linter.unusedSimpArgs false
open Go.RowKit
attribute [local irreducible] bt cU Aw Le
end Go.Proofs.Ytiadchinhofieaa
