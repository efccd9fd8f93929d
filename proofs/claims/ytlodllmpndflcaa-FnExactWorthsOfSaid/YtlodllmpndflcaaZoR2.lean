/-
  Right answers: who they tell wins does win, and the solver's answers are right.
-/
import Derived.Test.YtlodllmpndflcaaZoR3
import Derived.Test.YtlodllmpndflcaaZoE23
namespace Go.Proofs.Ytlodllmpndflcaa
set_option linter.unusedVariables false
set_option linter.unusedSimpArgs false
open Go.RowKit
theorem tz {g : Pa} (hg : PaOk g) {v : Nat} (hv : v < g.prio.length) {u : Int} (hu : u ∈ gr g.ar.nxt v) : 0 ≤ u ∧ u < g.prio.length:=by
 obtain ⟨t,ht,e⟩:=fc hu
 have:=qp hg hv ht
 rw [e] at this;exact this
end Go.Proofs.Ytlodllmpndflcaa
