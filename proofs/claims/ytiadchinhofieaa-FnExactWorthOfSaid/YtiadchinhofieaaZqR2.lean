/-
  Right answers: who they tell wins does win, and the solver's answers are right.
-/
import Derived.Test.YtiadchinhofieaaZqR3
import Derived.Test.YtiadchinhofieaaZqE23
namespace Go.Proofs.Ytiadchinhofieaa
set_option linter.unusedVariables false
set_option linter.unusedSimpArgs false
open Go.RowKit
theorem g8 {g : Pa} (hg : PaOk g) {v : Nat} (hv : v < g.prio.length) {u : Int} (hu : u ∈ gr g.ar.nxt v) : 0 ≤ u ∧ u < g.prio.length:=by
 obtain ⟨t,ht,e⟩:=ee hu
 have:=tg hg hv ht
 rw [e] at this;exact this
end Go.Proofs.Ytiadchinhofieaa
