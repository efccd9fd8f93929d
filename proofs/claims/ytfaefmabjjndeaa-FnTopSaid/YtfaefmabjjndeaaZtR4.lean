/-
  Completing an initial part of the solver's plan yields the plan.
-/
import Derived.Test.YtfaefmabjjndeaaZtR2
namespace Go.Proofs.Ytfaefmabjjndeaa
set_option linter.unusedVariables false
set_option linter.unusedSimpArgs false
open Go.RowKit
theorem solP_len {g : Pa} (hg : PaOk g) : (solP g).length = g.prio.length:=(planN_ok hg (noP_ok hg) _ (Nat.le_refl _)).pk.1
end Go.Proofs.Ytfaefmabjjndeaa
