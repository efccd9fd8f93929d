/-
  The part of a game with these vertices, renumbered; its winners where the rest is attracted to what a player wins by loops.
-/
import Derived.Test.YtiadchinhofieaaZcD5
import Derived.Test.YtiadchinhofieaaZcBs
namespace Go.Proofs.Ytiadchinhofieaa
set_option linter.unusedVariables false
set_option linter.unusedSimpArgs false
open Go.RowKit
end Go.Proofs.Ytiadchinhofieaa
namespace Go.Proofs.Ytiadchinhofieaa
set_option linter.unusedVariables false
set_option linter.unusedSimpArgs false
open Go.RowKit
theorem pt {xs : List Int} {m : Int} (hp : xs.Pairwise (· < ·)) (hb : ∀ x,x ∈ xs → 0 ≤ x ∧ x < m) : cS xs m:=fun k hk=>by
 have h1:=hb _ (cE hk)
 refine ⟨h1.1,h1.2,fun h0=>?_⟩
 have h3:=List.pairwise_iff_getElem.1 hp (k - 1) k (by omega) hk (by omega)
 rwa [← c9 (by omega : k - 1 < xs.length),← c9 hk] at h3
theorem iP {p : Int → Prop} {xs : List Int} (hx : xs.Pairwise (· < ·)) : ∀ k,k ≤ xs.length → (d9 p xs k).Pairwise (· < ·)
 | 0, _ => List.Pairwise.nil
 | k + 1, hk => by
   by_cases h : p (gi xs k)
   · rw [dF h,List.pairwise_append]
     refine ⟨iP hx k (by omega),by simp,fun x hx' y hy=>?_⟩
     obtain ⟨j,h1,h2,_⟩:=(iO k (by omega)).1 hx'
     rw [List.mem_singleton.1 hy,← h2]
     have h3:=List.pairwise_iff_getElem.1 hx j k (by omega) (by omega) h1
     rwa [← c9 (by omega : j < xs.length),← c9 (by omega : k < xs.length)] at h3
   · rw [fp h];exact iP hx k (by omega)
theorem gL {p : Int → Prop} {xs : List Int} {x : Int} : x ∈ d9 p xs xs.length ↔ x ∈ xs ∧ p x:=by
 rw [iO _ (Nat.le_refl _)]
 constructor
 · rintro ⟨j,h1,h2,h3⟩;exact ⟨h2 ▸ cE h1,h3⟩
 · rintro ⟨h1,h2⟩
   obtain ⟨j,h3,h4⟩:=da h1
   exact ⟨j,h3,h4,h2⟩
theorem lE {xs : List Int} (h : xs.Pairwise (· < ·)) {i j : Nat} (hj : j < xs.length) (hij : i < j) : gi xs i < gi xs j:=by
 have:=List.pairwise_iff_getElem.1 h i j (by omega) hj hij
 rwa [← c9 (by omega : i < xs.length),← c9 hj] at this
theorem ro {g : Pa} (v u : Nat) : (pgP g).E v u ↔ v < g.prio.length ∧ u < g.prio.length ∧ (u : Int) ∈ gr g.ar.nxt v:=by
 rw [rg]
 refine ⟨fun ⟨h1,h2,t,h3,h4⟩=>⟨h1,h2,h4 ▸ cE h3⟩,fun ⟨h1,h2,h3⟩=>⟨h1,h2,?_⟩⟩
 obtain ⟨t,h4,h5⟩:=da h3
 exact ⟨t,h4,h5⟩
end Go.Proofs.Ytiadchinhofieaa
