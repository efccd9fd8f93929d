/-
  Right answers: who they tell wins does win, and the solver's answers are right.
-/
import Derived.Test.YtiadchinhofieaaGreatZfR3
import Derived.Test.YtiadchinhofieaaGreatZfE23
namespace Go.Proofs.YtiadchinhofieaaGreat
set_option linter.unusedVariables false
set_option linter.unusedSimpArgs false
open Go.RowKit
theorem j6 {g : Pa} (hg : PaOk g) {v : Nat} (hv : v < g.prio.length) : (pgP g).prio v = gi g.prio v:=nF (kH hg) hv
theorem jb {g : Pa} (hg : PaOk g) {v : Nat} (hv : v < g.prio.length) {u : Int} (hu : u ∈ gr g.ar.nxt v) : 0 ≤ u ∧ u < g.prio.length:=by
 obtain ⟨t,ht,e⟩:=cR hu
 have:=eR hg hv ht
 rw [e] at this;exact this
end Go.Proofs.YtiadchinhofieaaGreat
