/-
  Attraction by ranks: the program's ranks, and what they mean.
-/
import Derived.Test.YtlodllmpndflcaaZoE8
import Derived.Test.YtlodllmpndflcaaZoCe
import Derived.Test.YtlodllmpndflcaaZoKf
import Derived.Test.YtlodllmpndflcaaZoG3
namespace Go.Proofs.Ytlodllmpndflcaa
set_option linter.unusedVariables false
set_option linter.unusedSimpArgs false
open Go.RowKit
end Go.Proofs.Ytlodllmpndflcaa
namespace Go.Proofs.Ytlodllmpndflcaa
set_option linter.unusedVariables false
set_option linter.unusedSimpArgs false
open Go.RowKit
theorem eG {p : Int → Prop} {xs : List Int} {x : Int} : ∀ k,k ≤ xs.length → (x ∈ da p xs k ↔ ∃ j,j < k ∧ gi xs j = x ∧ p x)
 | 0, _ => ⟨fun h => (by cases h), fun ⟨j, h, _⟩ => absurd h (Nat.not_lt_zero _)⟩
 | k + 1, hk => by
   have ih:=eG (p:=p) (xs:=xs) (x:=x) k (by omega)
   by_cases h : p (gi xs k)
   · rw [dv h,List.mem_append,ih,List.mem_singleton]
     constructor
     · rintro (⟨j,h1,h2⟩|rfl)
       · exact ⟨j,by omega,h2⟩
       · exact ⟨k,by omega,rfl,h⟩
     · rintro ⟨j,h1,h2,h3⟩
       rcases Nat.lt_or_ge j k with h'|h'
       · exact .inl ⟨j,h',h2,h3⟩
       · rw [show j = k by omega] at h2;exact .inr h2.symm
   · rw [d7 h,ih]
     constructor
     · rintro ⟨j,h1,h2⟩;exact ⟨j,by omega,h2⟩
     · rintro ⟨j,h1,h2,h3⟩
       rcases Nat.lt_or_ge j k with h'|h'
       · exact ⟨j,h',h2,h3⟩
       · rw [show j = k by omega] at h2;exact absurd (h2 ▸ h3) h
end Go.Proofs.Ytlodllmpndflcaa
