/-
  The program's recursive solver.
-/
import Derived.Test.YtiadchinhofieaaGreatZfE10
import Derived.Test.YtiadchinhofieaaGreatZfE9
import Derived.Test.YtiadchinhofieaaGreatZfCe
import Derived.Test.YtiadchinhofieaaGreatZfFc
namespace Go.Proofs.YtiadchinhofieaaGreat
set_option linter.unusedVariables false
set_option linter.unusedSimpArgs false
open Go.RowKit
theorem ut {P : PG.Gm} {n : Nat} (hf : PG.Fin P n) {S : Nat → Prop} (hS : ∀ v,S v → v < n) (ht : PG.Total P S) {i : Int} (hi : i = 0 ∨ i = 1) (v : Nat) : PG.Won P (1 - i) S v ↔ PG.Diff S (PG.Won P i S) v:=by
 refine ⟨fun h=>?_,fun ⟨h,h'⟩=>?_⟩
 · have hv:=PG.won_in h
   refine ⟨hv,?_⟩
   rcases hi with rfl|rfl
   · exact (PG.won_not hf hS ht hv).1 h
   · exact fun h1=>(PG.won_not hf hS ht hv).1 h1 h
 · rcases hi with rfl|rfl
   · exact (PG.won_not hf hS ht h).2 h'
   · exact Classical.byContradiction fun h0=>h' ((PG.won_not hf hS ht h).2 h0)
end Go.Proofs.YtiadchinhofieaaGreat
