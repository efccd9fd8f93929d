/-
  Traps: the vertices by which a set is none.
-/
import Derived.Test.YtfaefmabjjndeaaZtE13
import Derived.Test.YtfaefmabjjndeaaZtG3
namespace Go.Proofs.Ytfaefmabjjndeaa
set_option linter.unusedVariables false
set_option linter.unusedSimpArgs false
open Go.RowKit
attribute [local irreducible] FunSpec CallR Aw Le
theorem filt_nil {p : Int → Prop} {xs : List Int} : ∀ k,k ≤ xs.length → (filt p xs k = [] ↔ ∀ j,j < k → ¬ p (gi xs j)):=by
  intro k
  induction k with
  | zero => intro _; exact ⟨fun _ j h => absurd h (Nat.not_lt_zero _), fun _ => rfl⟩
  | succ k ih =>
    intro hk
    by_cases h : p (gi xs k)
    · rw [filt_yes h]
      exact ⟨fun e=>absurd e (by simp),fun e=>absurd h (e k (by omega))⟩
    · rw [filt_no h,ih (by omega)]
      exact ⟨fun e=>all_succ e h,fun e j hj=>e j (by omega)⟩
theorem bnd_set {xs : List Int} {n : Nat} (h : IsSet xs n) : Bnd xs n:=fun k hk=>⟨(h k hk).1,(h k hk).2.1⟩
theorem lstB_nil {bs : List Bool} : ∀ k,lstB bs k = [] ↔ ∀ v,v < k → ¬ gb bs v = true:=by
  intro k
  induction k with
  | zero => exact ⟨fun _ v h => absurd h (Nat.not_lt_zero _), fun _ => rfl⟩
  | succ k ih =>
    rw [lstB]
    by_cases h : gb bs k = true
    · rw [if_pos h]
      exact ⟨fun e=>absurd e (by simp),fun e=>absurd h (e k (by omega))⟩
    · rw [if_neg h,List.append_nil,ih]
      exact ⟨fun e=>all_succ e h,fun e v hv=>e v (by omega)⟩
theorem wonL_nil {g : Pa} (hg : PaOk g) {xs : List Int} (hx : GameIn g.ar xs) {i : Int} (hi : i = 0 ∨ i = 1) : (wonL g xs (1 - i)).length = 0 ↔ ∀ v : Nat,(v : Int) ∈ xs → PG.Won (pgP g) i (fun v=>(v : Int) ∈ xs) v:=by
  have hl:=hg.len
  have hB:=bnd_set hx.1
  have hS : ∀ v : Nat,(v : Int) ∈ xs → v < g.prio.length:=fun v hv=>by
    obtain ⟨k,hk,e⟩:=mem_gi hv
    have:=hB k hk;omega
  rw [List.length_eq_zero_iff,wonL,lstB_nil]
  have hn:=fun v=>won_not' (P:=pgP g) fin_P hS (total_in hg hx) hi v
  constructor
  · intro h v hv
    have h1:=h v (hS v hv)
    rw [gb_mks _ (hS v hv),tf_eq,hn] at h1
    exact Classical.byContradiction fun h2=>h1 ⟨hv,h2⟩
  · intro h v hv
    rw [gb_mks _ hv,tf_eq,hn]
    exact fun h1=>h1.2 (h v h1.1)
end Go.Proofs.Ytfaefmabjjndeaa
