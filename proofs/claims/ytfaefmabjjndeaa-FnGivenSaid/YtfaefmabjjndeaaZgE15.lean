/-
  Traps: the vertices by which a set is none.
-/
import Derived.Test.YtfaefmabjjndeaaZgE13
import Derived.Test.YtfaefmabjjndeaaZgG3
namespace Go.Proofs.Ytfaefmabjjndeaa
set_option linter.unusedVariables false
set_option linter.unusedSimpArgs false
open Go.RowKit
attribute [local irreducible] aG cO Aw Le
theorem rZ {p : Int → Prop} {xs : List Int} : ∀ k,k ≤ xs.length → (i9 p xs k = [] ↔ ∀ j,j < k → ¬ p (gi xs j)):=by
 intro k
 induction k with
 | zero => intro _; exact ⟨fun _ j h => absurd h (Nat.not_lt_zero _), fun _ => rfl⟩
 | succ k ih =>
   intro hk
   by_cases h : p (gi xs k)
   · rw [fJ h]
     exact ⟨fun e=>absurd e (by simp),fun e=>absurd h (e k (by omega))⟩
   · rw [g0 h,ih (by omega)]
     exact ⟨fun e=>dG e h,fun e j hj=>e j (by omega)⟩
theorem tM {xs : List Int} {n : Nat} (h : cI xs n) : Bnd xs n:=fun k hk=>⟨(h k hk).1,(h k hk).2.1⟩
theorem r6 {bs : List Bool} : ∀ k,c7 bs k = [] ↔ ∀ v,v < k → ¬ gb bs v = true:=by
 intro k
 induction k with
 | zero => exact ⟨fun _ v h => absurd h (Nat.not_lt_zero _), fun _ => rfl⟩
 | succ k ih =>
   rw [c7]
   by_cases h : gb bs k = true
   · rw [if_pos h]
     exact ⟨fun e=>absurd e (by simp),fun e=>absurd h (e k (by omega))⟩
   · rw [if_neg h,List.append_nil,ih]
     exact ⟨fun e=>dG e h,fun e v hv=>e v (by omega)⟩
theorem r7 {g : Pa} (hg : PaOk g) {xs : List Int} (hx : kp g.ar xs) {i : Int} (hi : i = 0 ∨ i = 1) : (fW g xs (1 - i)).length = 0 ↔ ∀ v : Nat,(v : Int) ∈ xs → PG.Won (pgP g) i (fun v=>(v : Int) ∈ xs) v:=by
 have hl:=hg.len
 have hB:=tM hx.1
 have hS : ∀ v : Nat,(v : Int) ∈ xs → v < g.prio.length:=fun v hv=>by
  obtain ⟨k,hk,e⟩:=dc hv
  have:=hB k hk;omega
 rw [List.length_eq_zero_iff,fW,r6]
 have hn:=fun v=>ku (P:=pgP g) kw hS (kv hg hx) hi v
 constructor
 · intro h v hv
   have h1:=h v (hS v hv)
   rw [dY _ (hS v hv),gw,hn] at h1
   exact Classical.byContradiction fun h2=>h1 ⟨hv,h2⟩
 · intro h v hv
   rw [dY _ hv,gw,hn]
   exact fun h1=>h1.2 (h v h1.1)
end Go.Proofs.Ytfaefmabjjndeaa
