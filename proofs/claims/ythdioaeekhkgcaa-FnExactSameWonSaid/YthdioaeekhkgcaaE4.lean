/-
  Subgames and queries: the program's guards.
-/
import Derived.Test.YthdioaeekhkgcaaE3
namespace Go.Proofs.Ythdioaeekhkgcaa
set_option linter.unusedVariables false
set_option linter.unusedSimpArgs false
open Go.RowKit

/-- A set in which everyone has somewhere to go. -/
def GameIn (a : Ar) (xs : List Int) : Prop := IsSet xs a.own.length ∧ ∀ k, k < xs.length → ∃ i, i < (gr a.nxt (gi xs k).toNat).length ∧ gi (gr a.nxt (gi xs k).toNat) i ∈ xs
def QueryIs (g : Pa) (xs : List Int) (who d mine yours : Int) : Prop := GameIn g.ar xs ∧ (who = 0 ∨ who = 1) ∧ 0 ≤ d ∧ d ≤ 41 ∧ d.tmod 2 = who ∧ topTo g.prio xs xs.length ≤ d ∧ 0 ≤ mine ∧ mine ≤ 12 ∧ 0 ≤ yours ∧ yours ≤ 12
theorem gb_mem {n : Nat} {xs : List Int} {u : Int} (h0 : 0 ≤ u) (h1 : u < n) : gb (mks n fun v => (v : Int) ∈ xs) u.toNat = tf (u ∈ xs) := by
  rw [gb_mks _ (by omega)]
  exact tf_congr (by rw [Int.toNat_of_nonneg h0])
theorem if_and {p q : Prop} {A B : Prop} (hp : p) : (p ∧ q ↔ q) := ⟨fun h => h.2, fun h => ⟨hp, h⟩⟩
def AskIs (g : Pa) (xs : List Int) (who d mine yours : Int) : Prop := Small g ∧ QueryIs g xs who d mine yours
end Go.Proofs.Ythdioaeekhkgcaa
