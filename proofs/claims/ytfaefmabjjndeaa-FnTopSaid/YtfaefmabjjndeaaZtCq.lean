/-
  l7Of.
-/
import Derived.Test.YtfaefmabjjndeaaZtCg
import Derived.Deep.RegionLaw
import Derived.Deep.OwnRows
import Derived.Test.YtfaefmabjjndeaaZtCe
namespace Go.Proofs.Ytfaefmabjjndeaa
set_option linter.unusedVariables false
set_option linter.unusedSimpArgs false
open Go.RowKit
attribute [local go_sem ↓] Go.wp_at_zero Go.wp_at_succ
end Go.Proofs.Ytfaefmabjjndeaa
namespace Go.Proofs.Ytfaefmabjjndeaa
set_option linter.unusedVariables false
set_option linter.unusedSimpArgs false
open Go.RowKit
theorem edg_of {g : Pa} (v u : Int) (h0 : 0 ≤ v) (h1 : v < g.prio.length) : edg (gmOf g) v u = true:=by
  have : gi (gmOf g).pick v.toNat = -1:=gi_tab _ (by omega)
  simp [edg,this]
end Go.Proofs.Ytfaefmabjjndeaa
namespace Go.Proofs.Ytfaefmabjjndeaa
set_option linter.unusedVariables false
set_option linter.unusedSimpArgs false
open Go.RowKit
end Go.Proofs.Ytfaefmabjjndeaa
