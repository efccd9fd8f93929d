/-
  The won vertices, on the reference's side.
-/
import Derived.Test.YtfaefmabjjndeaaZtD4
import Derived.Test.YtfaefmabjjndeaaZtE13
namespace Go.Proofs.Ytfaefmabjjndeaa
set_option linter.unusedVariables false
set_option linter.unusedSimpArgs false
open Go.RowKit
attribute [local irreducible] FunSpec CallR Aw Le
def atL (xs : List Int) (x : Int) : List Int:=lstB (tabb xs.length fun v=>gi xs v == x) xs.length
theorem mem_atL {xs : List Int} {x z : Int} : z ∈ atL xs x ↔ ∃ v,v < xs.length ∧ z = (v : Int) ∧ gi xs v = x:=by
  unfold atL
  rw [mem_lstB]
  constructor
  · rintro ⟨v,h1,h2,h3⟩
    rw [gb_tabb _ h1] at h3
    exact ⟨v,h1,h2,by simpa using h3⟩
  · rintro ⟨v,h1,h2,h3⟩
    exact ⟨v,h1,h2,by rw [gb_tabb _ h1];simpa using h3⟩
theorem isSet_lstB {bs : List Bool} : ∀ k : Nat,IsSet (lstB bs k) k:=by
  intro k
  induction k with
  | zero => exact fun j hj => absurd hj (Nat.not_lt_zero _)
  | succ k ih =>
    rw [lstB]
    have hw : IsSet (lstB bs k) ((k + 1 : Nat) : Int):=fun j hj=>by have:=ih j hj;exact ⟨this.1,by omega,this.2.2⟩
    split
    · intro j hj
      have hj' : j < (lstB bs k).length + 1:=by simpa using hj
      rw [gi_snoc]
      by_cases e : j < (lstB bs k).length
      · rw [if_pos e]
        obtain ⟨a,b,c⟩:=hw j e
        refine ⟨a,b,fun h=>?_⟩
        rw [gi_snoc,if_pos (by omega)]
        exact c h
      · have e2 : j = (lstB bs k).length:=by omega
        rw [if_neg e,if_pos e2]
        refine ⟨by omega,by omega,fun h=>?_⟩
        rw [gi_snoc,if_pos (by omega)]
        have:=ih (j - 1) (by omega)
        omega
    · rw [List.append_nil];exact hw
theorem isSet_atL (xs : List Int) (x : Int) : IsSet (atL xs x) xs.length:=isSet_lstB _
end Go.Proofs.Ytfaefmabjjndeaa
