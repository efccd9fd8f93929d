/-
  Priority promotion, the program: is a stage one of a game's?
-/
import Derived.Test.YtdkkhhfhdijfmaaZsPA
import Derived.Test.YtdkkhhfhdijfmaaZsG2
namespace Go.Proofs.Ytdkkhhfhdijfmaa
set_option linter.unusedVariables false
set_option linter.unusedSimpArgs false
open Go.RowKit
def sZ (g : Pa) (s : St) : Prop:=∃ k,k ≤ nS g ∧ itS g k = s
theorem sZ.ok {g : Pa} (hs : cJ g) {s : St} (h : sZ g s) : StOk g s:=by
 obtain ⟨k,hk,rfl⟩:=h
 exact jQ hs hk
end Go.Proofs.Ytdkkhhfhdijfmaa
