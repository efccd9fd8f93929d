/-
  The reference's recursive solver.
-/
import Derived.Test.YtfaefmabjjndeaaZtE8
import Derived.Test.YtfaefmabjjndeaaZtCp
namespace Go.Proofs.Ytfaefmabjjndeaa
set_option linter.unusedVariables false
set_option linter.unusedSimpArgs false
open Go.RowKit
attribute [local irreducible] FunSpec CallR Aw Le
theorem gb_lt {bs : List Bool} {v : Nat} (h : gb bs v = true) : v < bs.length:=by
  rcases Nat.lt_or_ge v bs.length with h'|h'
  · exact h'
  · rw [gb,List.getD_eq_getElem?_getD,List.getElem?_eq_none h'] at h;cases h
theorem topM_neg {pr : List Int} {bs : List Bool} (hp : ∀ v,gb bs v = true → 0 ≤ gi pr v) : ∀ {k : Nat},topM pr bs k < 0 ↔ ∀ v,v < k → gb bs v = false:=by
  intro k
  induction k with
  | zero => exact ⟨fun _ v h => by omega, fun _ => by show (-1 : Int) < 0; omega⟩
  | succ k ih =>
    rw [topM]
    constructor
    · intro h v hv
      split at h
      · rename_i hb;have:=hp k hb;omega
      · rename_i hb
        rcases Nat.lt_or_ge v k with h'|h'
        · exact ih.1 h v h'
        · have : v = k:=by omega
          subst this;simpa using hb
    · intro h
      rw [if_neg (by rw [h k (by omega)];exact Bool.noConfusion)]
      exact ih.2 fun v hv=>h v (by omega)
theorem topM_le {pr : List Int} {bs : List Bool} : ∀ {k : Nat},(∀ v,v < k → gb bs v = true → gi pr v ≤ topM pr bs k) ∧ (topM pr bs k = -1 ∨ ∃ v,v < k ∧ gb bs v = true ∧ gi pr v = topM pr bs k):=by
  intro k
  induction k with
  | zero => exact ⟨fun v h => by omega, .inl rfl⟩
  | succ k ih =>
    rw [topM]
    split
    · rename_i hb
      refine ⟨fun v hv h=>?_,?_⟩
      · rcases Nat.lt_or_ge v k with h'|h'
        · have:=ih.1 v h' h;omega
        · have : v = k:=by omega
          subst this;omega
      · rcases ih.2 with h|⟨v,h1,h2,h3⟩
        · by_cases hc : topM pr bs k ≤ gi pr k
          · exact .inr ⟨k,by omega,hb,by omega⟩
          · exact .inl (by omega)
        · by_cases hc : topM pr bs k ≤ gi pr k
          · exact .inr ⟨k,by omega,hb,by omega⟩
          · exact .inr ⟨v,by omega,h2,by omega⟩
    · rename_i hb
      refine ⟨fun v hv h=>?_,ih.2.imp id fun ⟨v,a,b⟩=>⟨v,by omega,b⟩⟩
      rcases Nat.lt_or_ge v k with h'|h'
      · exact ih.1 v h' h
      · have : v = k:=by omega
        subst this;exact absurd h hb
theorem less_iff {inn out rest : List Bool} {n : Nat} {X : Nat → Prop} (hi : inn.length = n) (ho : out = mks n X) (hr : rest = tabb inn.length fun i=>gb inn i && !gb out i) : ∀ v,gb rest v = true ↔ PG.Diff (fun v=>gb inn v = true) X v:=by
  intro v
  rcases Nat.lt_or_ge v n with h|h
  · rw [hr,gb_tabb _ (by omega),ho,gb_mks _ h,Bool.and_eq_true,Bool.not_eq_true']
    exact and_congr Iff.rfl tf_ne
  · refine ⟨fun h'=>?_,fun h'=>?_⟩
    · have:=gb_lt h';rw [hr,tabb_len] at this;omega
    · have:=gb_lt h'.1;omega
theorem less_eq {inn out rest : List Bool} {n : Nat} {X : Nat → Prop} (hi : inn.length = n) (ho : out = mks n X) (hr : rest = tabb inn.length fun i=>gb inn i && !gb out i) : (fun v=>gb rest v = true) = PG.Diff (fun v=>gb inn v = true) X:=funext fun v=>propext (less_iff hi ho hr v)
end Go.Proofs.Ytfaefmabjjndeaa
