/-
  The program's copy of a list of lists, owned row by row.
-/
import Derived.Test.YtceonklhlpkfgaaZmCb
namespace Go.Proofs.Ytceonklhlpkfgaa
set_option linter.unusedVariables false
set_option linter.unusedSimpArgs false
open Go.RowKit
attribute [local go_sem ↓] Go.wp_at_zero Go.wp_at_succ
def tN (w : World) (n : Nat) (xss : List (List Int)) (e : Ending) (w' : World) : Prop:=∃ sa c vs,e = .returned (.slice sa n c) ∧ aQ w.heap.size w'.heap.size w' (.slice sa n c) xss vs ∧ Below w.heap.size w w'
theorem pQ {lo hi : Nat} {w : World} {v : Value} {xss : List (List Int)} {vs : List Value} (h : aQ lo hi w v xss vs) : ∀ g,g ∈ vs.filterMap blk → g < w.heap.size:=by
 intro g hg'
 obtain ⟨x,hx,e⟩:=List.mem_filterMap.1 hg'
 obtain ⟨j,hj,e2⟩:=List.getElem_of_mem hx
 have:=h.2.2.1 j (by rw [← h.1];exact hj)
 rw [List.getD_eq_getElem?_getD,List.getElem?_eq_getElem hj] at this
 simp only [Option.getD_some,e2] at this
 exact (aC.lt this g e).2.2
end Go.Proofs.Ytceonklhlpkfgaa
