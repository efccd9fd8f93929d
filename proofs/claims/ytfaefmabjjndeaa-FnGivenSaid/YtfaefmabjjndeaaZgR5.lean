/-
  Right answers: the program's side.
-/
import Derived.Test.YtfaefmabjjndeaaZgR3
namespace Go.Proofs.Ytfaefmabjjndeaa
set_option linter.unusedVariables false
set_option linter.unusedSimpArgs false
open Go.RowKit
attribute [local irreducible] aG cO Aw Le
theorem gu {a b : Int} (h : (a == b) = false) : a ≠ b:=by simpa using h
theorem tS {g : Pa} {W P : List Int} {k : Nat} (hl : W.length = g.prio.length) (hk : k < W.length) (h : ¬ gZ g W P k) : ¬ lB g W P:=fun e=>h (e.2 k (by omega))
theorem oD {n : Nat} {xs : List Int} {u : Int} (h0 : 0 ≤ u) (h1 : u < n) : gb (mks n fun v=>(v : Int) ∈ xs) u.toNat = true ↔ u ∈ xs:=by
 rw [uY h0 h1];exact gw
theorem t9 {n : Nat} {xs : List Int} {u : Int} (h0 : 0 ≤ u) (h1 : u < n) (h : gb (mks n fun v=>(v : Int) ∈ xs) u.toNat = false) : u ∉ xs:=fun hm=>by
 rw [(oD h0 h1).2 hm] at h;cases h
end Go.Proofs.Ytfaefmabjjndeaa
