/-
  The part of a game with these vertices, renumbered; its winners where the rest is attracted to what a player wins by loops.
-/
import Derived.Test.YtiadchinhofieaaZeD5
import Derived.Test.YtiadchinhofieaaZeBs
namespace Go.Proofs.Ytiadchinhofieaa
set_option linter.unusedVariables false
set_option linter.unusedSimpArgs false
open Go.RowKit
end Go.Proofs.Ytiadchinhofieaa
namespace Go.Proofs.Ytiadchinhofieaa
set_option linter.unusedVariables false
set_option linter.unusedSimpArgs false
open Go.RowKit
theorem nC {xs : List Int} {m : Int} (hp : xs.Pairwise (· < ·)) (hb : ∀ x,x ∈ xs → 0 ≤ x ∧ x < m) : cL xs m:=fun k hk=>by
 have h1:=hb _ (cG hk)
 refine ⟨h1.1,h1.2,fun h0=>?_⟩
 have h3:=List.pairwise_iff_getElem.1 hp (k - 1) k (by omega) hk (by omega)
 rwa [← cT (by omega : k - 1 < xs.length),← cT hk] at h3
theorem gT {p : Int → Prop} {xs : List Int} (hx : xs.Pairwise (· < ·)) : ∀ k,k ≤ xs.length → (d7 p xs k).Pairwise (· < ·)
 | 0, _ => List.Pairwise.nil
 | k + 1, hk => by
   by_cases h : p (gi xs k)
   · rw [dC h,List.pairwise_append]
     refine ⟨gT hx k (by omega),by simp,fun x hx' y hy=>?_⟩
     obtain ⟨j,h1,h2,_⟩:=(gS k (by omega)).1 hx'
     rw [List.mem_singleton.1 hy,← h2]
     have h3:=List.pairwise_iff_getElem.1 hx j k (by omega) (by omega) h1
     rwa [← cT (by omega : j < xs.length),← cT (by omega : k < xs.length)] at h3
   · rw [eK h];exact gT hx k (by omega)
theorem gU {p : Int → Prop} {xs : List Int} {x : Int} : x ∈ d7 p xs xs.length ↔ x ∈ xs ∧ p x:=by
 rw [gS _ (Nat.le_refl _)]
 constructor
 · rintro ⟨j,h1,h2,h3⟩;exact ⟨h2 ▸ cG h1,h3⟩
 · rintro ⟨h1,h2⟩
   obtain ⟨j,h3,h4⟩:=cZ h1
   exact ⟨j,h3,h4,h2⟩
theorem l8 {xs : List Int} (h : xs.Pairwise (· < ·)) {i j : Nat} (hj : j < xs.length) (hij : i < j) : gi xs i < gi xs j:=by
 have:=List.pairwise_iff_getElem.1 h i j (by omega) hj hij
 rwa [← cT (by omega : i < xs.length),← cT hj] at this
end Go.Proofs.Ytiadchinhofieaa
