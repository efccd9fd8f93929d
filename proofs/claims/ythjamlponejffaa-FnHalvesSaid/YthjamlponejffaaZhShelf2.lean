/-
  The library's compaction, reversal, deletion on a slice of numbers that the call owns; rising lists.
-/
import Derived.Test.YthjamlponejffaaZhCb
import Derived.Shelf.SortM.Plain
import Derived.Shelf.SortM.SortNone
import Derived.Shelf.SlicesE.Compact
import Derived.Shelf.SlicesE.Reverse
import Derived.Shelf.SlicesE.Kit
import Derived.Ground.SlgmProg
import Derived.Ground.SlgnProg
import Derived.Shelf.SlicesE.Delete
namespace Go.Proofs.Ythjamlponejffaa
set_option linter.unusedVariables false
set_option linter.unusedSimpArgs false
open Go.RowKit Go.Sort Go.Shelf
end Go.Proofs.Ythjamlponejffaa
namespace Go.Proofs.Ythjamlponejffaa
set_option linter.unusedVariables false
set_option linter.unusedSimpArgs false
open Go.RowKit Go.Sort Go.Shelf Go.Lib
theorem oy : ∀ (xs ys : List Int),xs.Pairwise (· < ·) → ys.Pairwise (· < ·) → (∀ x,x ∈ xs ↔ x ∈ ys) → xs = ys:=by
 intro xs
 induction xs with
 | nil =>
   intro ys _ _ h
   cases ys with
   | nil => rfl
   | cons y ys => exact absurd ((h y).2 List.mem_cons_self) (by simp)
 | cons x xs ih =>
   intro ys hx hy h
   cases ys with
   | nil => exact absurd ((h x).1 List.mem_cons_self) (by simp)
   | cons y ys =>
     obtain ⟨hx1,hx2⟩:=List.pairwise_cons.1 hx
     obtain ⟨hy1,hy2⟩:=List.pairwise_cons.1 hy
     have e : x = y:=by
      have h1:=(h x).1 List.mem_cons_self
      have h2:=(h y).2 List.mem_cons_self
      rcases List.mem_cons.1 h1 with h1|h1
      · exact h1
      · rcases List.mem_cons.1 h2 with h2|h2
        · exact h2.symm
        · have:=hy1 x h1;have:=hx1 y h2;omega
     subst e
     rw [ih ys hx2 hy2 fun z=>?_]
     constructor
     · intro hz
       have h3:=hx1 z hz
       rcases List.mem_cons.1 ((h z).1 (List.mem_cons_of_mem _ hz)) with e|h4
       · omega
       · exact h4
     · intro hz
       have h3:=hy1 z hz
       rcases List.mem_cons.1 ((h z).2 (List.mem_cons_of_mem _ hz)) with e|h4
       · omega
       · exact h4
theorem uI (p : Nat → Prop) (k : Nat) : (lst p k).Pairwise (· < ·):=by
 induction k with
 | zero => simp [lst]
 | succ k ih =>
   by_cases h : p k
   · rw [dw h,List.pairwise_append]
     refine ⟨ih,by simp,fun x hx y hy=>?_⟩
     obtain ⟨v,h1,_,rfl⟩:=cW.1 hx
     simp at hy
     omega
   · rw [d9 h];exact ih
theorem pD {xs : List Int} {n : Nat} (h : xs.Pairwise (· < ·)) (hb : ∀ x ∈ xs,0 ≤ x ∧ x < n) : xs = lst (fun v=>(v : Int) ∈ xs) n :=
 oy _ _ h (uI _ _) fun x=>by
  rw [cW]
  constructor
  · intro hx;have:=hb x hx;exact ⟨x.toNat,by omega,by rw [Int.toNat_of_nonneg this.1];exact hx,by omega⟩
  · rintro ⟨v,_,h2,rfl⟩;exact h2
end Go.Proofs.Ythjamlponejffaa
