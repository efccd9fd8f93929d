/-
  The program's recursive solver.
-/
import Derived.Test.YtfaefmabjjndeaaZmE10
import Derived.Test.YtfaefmabjjndeaaZmE9
import Derived.Test.YtfaefmabjjndeaaZmCe
import Derived.Test.YtfaefmabjjndeaaZmFc
namespace Go.Proofs.Ytfaefmabjjndeaa
set_option linter.unusedVariables false
set_option linter.unusedSimpArgs false
open Go.RowKit
attribute [local irreducible] aG cP Aw Le
theorem tS {p q : Nat → Prop} : ∀ {k : Nat},(∀ t,t < k → q t → p t) → num q k ≤ num p k:=by
 intro k
 induction k with
 | zero => intro _; exact Nat.le_refl _
 | succ k ih =>
   intro h
   have:=ih fun t ht=>h t (by omega)
   by_cases hq : q k
   · rw [dk hq,dk (h k (by omega) hq)];omega
   · rw [dK hq]
     by_cases hp : p k
     · rw [dk hp];omega
     · rw [dK hp];exact this
theorem tT {P : PG.Gm} {n : Nat} (hf : PG.Fin P n) {S : Nat → Prop} (hS : ∀ v,S v → v < n) (ht : PG.Total P S) {i : Int} (hi : i = 0 ∨ i = 1) (v : Nat) : PG.Won P (1 - i) S v ↔ PG.Diff S (PG.Won P i S) v:=by
 refine ⟨fun h=>?_,fun ⟨h,h'⟩=>?_⟩
 · have hv:=PG.won_in h
   refine ⟨hv,?_⟩
   rcases hi with rfl|rfl
   · exact (PG.won_not hf hS ht hv).1 h
   · exact fun h1=>(PG.won_not hf hS ht hv).1 h1 h
 · rcases hi with rfl|rfl
   · exact (PG.won_not hf hS ht h).2 h'
   · exact Classical.byContradiction fun h0=>h' ((PG.won_not hf hS ht h).2 h0)
end Go.Proofs.Ytfaefmabjjndeaa
