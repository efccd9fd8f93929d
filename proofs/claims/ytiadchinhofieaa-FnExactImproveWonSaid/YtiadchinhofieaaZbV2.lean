/-
  The union of two sets.
-/
import Derived.Test.YtiadchinhofieaaZbV1
import Derived.Test.YtiadchinhofieaaZbShelf2
import Derived.Test.YtiadchinhofieaaZbBs
import Derived.Test.YtiadchinhofieaaZbCe
namespace Go.Proofs.Ytiadchinhofieaa
set_option linter.unusedVariables false
set_option linter.unusedSimpArgs false
open Go.RowKit
theorem il {p : Int → Prop} {xs : List Int} (hx : xs.Pairwise (· < ·)) : ∀ k,k ≤ xs.length → (dS p xs k).Pairwise (· < ·)
 | 0, _ => List.Pairwise.nil
 | k + 1, hk => by
   by_cases h : p (gi xs k)
   · rw [eC h,List.pairwise_append]
     refine ⟨il hx k (by omega),by simp,fun x hx' y hy=>?_⟩
     obtain ⟨j,h1,h2,_⟩:=(eY k (by omega)).1 hx'
     rw [List.mem_singleton.1 hy,← h2]
     have h3:=List.pairwise_iff_getElem.1 hx j k (by omega) (by omega) h1
     rwa [← eJ (by omega : j < xs.length),← eJ (by omega : k < xs.length)] at h3
   · rw [fv h];exact il hx k (by omega)
theorem fS {p : Int → Prop} {xs : List Int} {x : Int} : x ∈ dS p xs xs.length ↔ x ∈ xs ∧ p x:=by
 rw [eY _ (Nat.le_refl _)]
 constructor
 · rintro ⟨j,h1,h2,h3⟩;exact ⟨h2 ▸ dz h1,h3⟩
 · rintro ⟨h1,h2⟩
   obtain ⟨j,h3,h4⟩:=eK h1
   exact ⟨j,h3,h4,h2⟩
end Go.Proofs.Ytiadchinhofieaa
