/-
  Right answers: who they tell wins does win, and the solver's answers are right.
-/
import Derived.Test.YtfaefmabjjndeaaZmR3
import Derived.Test.YtfaefmabjjndeaaZmE23
namespace Go.Proofs.Ytfaefmabjjndeaa
set_option linter.unusedVariables false
set_option linter.unusedSimpArgs false
open Go.RowKit
theorem iO {g : Pa} (hg : PaOk g) {v : Nat} (hv : v < g.prio.length) : (pgP g).prio v = gi g.prio v:=ne (kb hg) hv
theorem lc {g : Pa} (hg : PaOk g) {v : Nat} (hv : v < g.prio.length) {u : Int} (hu : u ∈ gr g.ar.nxt v) : 0 ≤ u ∧ u < g.prio.length:=by
 obtain ⟨t,ht,e⟩:=dm hu
 have:=dS hg hv ht
 rw [e] at this;exact this
end Go.Proofs.Ytfaefmabjjndeaa
