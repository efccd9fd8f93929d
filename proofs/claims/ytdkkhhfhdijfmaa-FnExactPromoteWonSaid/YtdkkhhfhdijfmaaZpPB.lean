/-
  Priority promotion, the program: is a stage one of a game's?
-/
import Derived.Test.YtdkkhhfhdijfmaaZpPA
import Derived.Test.YtdkkhhfhdijfmaaZpG2
namespace Go.Proofs.Ytdkkhhfhdijfmaa
set_option linter.unusedVariables false
set_option linter.unusedSimpArgs false
open Go.RowKit
def sD (g : Pa) (s : St) : Prop:=∃ k,k ≤ nS g ∧ itS g k = s
theorem sD.ok {g : Pa} (hs : cA g) {s : St} (h : sD g s) : StOk g s:=by
 obtain ⟨k,hk,rfl⟩:=h
 exact jJ hs hk
end Go.Proofs.Ytdkkhhfhdijfmaa
