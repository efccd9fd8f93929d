/-
  A call that is given a list up and hands back plain data; lists of rows filled step by step.
-/
import Derived.Test.YthjamlponejffaaZwFc
import Derived.Test.YthjamlponejffaaZwCg
namespace Go.Proofs.Ythjamlponejffaa
set_option linter.unusedVariables false
set_option linter.unusedSimpArgs false
open Go.RowKit
end Go.Proofs.Ythjamlponejffaa
