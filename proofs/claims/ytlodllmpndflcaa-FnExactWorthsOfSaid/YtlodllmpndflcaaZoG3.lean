/-
  Small functions: marks of a set; the vertices of a trap.
-/
import Derived.Test.YtlodllmpndflcaaZoCe
import Derived.Test.YtlodllmpndflcaaZoFc
namespace Go.Proofs.Ytlodllmpndflcaa
set_option linter.unusedVariables false
set_option linter.unusedSimpArgs false
open Go.RowKit
theorem eE {Q : Nat → Prop} {k : Nat} (h : ∀ i,i < k → Q i) (hk : Q k) : ∀ i,i < k + 1 → Q i:=fun i hi=>by
 rcases Nat.lt_or_ge i k with h'|h'
 · exact h i h'
 · have : i = k:=by omega
   subst this;exact hk
theorem b9 {a b : Int} (h : (a != b) = false) : a = b:=by simpa using h
theorem rR {a b : Int} (h : (a != b) = true) : a ≠ b:=by simpa using h
end Go.Proofs.Ytlodllmpndflcaa
namespace Go.Proofs.Ytlodllmpndflcaa
set_option linter.unusedVariables false
set_option linter.unusedSimpArgs false
open Go.RowKit
theorem cV (xs : List Int) (x : Int) : ba Try.prog 54 [.c (.I xs),.c (.int .i64 x)] [] (fun _=>.c (.bool (tf (x ∈ xs)))) :=
 ec Try.func54 rfl rfl (u:=.bool _) (fun O w=>.bool _) fun φ hp w vs h=>by
  obtain ⟨a,b,rfl,h1,h2⟩:=rO h
  obtain rfl:=ce h2
  obtain ⟨sa,n,c,rfl,hI⟩:=i9 (cJ h1)
  exact (ki sa n c xs x w hI).mono fun e w' ⟨he,hw⟩=>⟨he,by rw [← hw];exact Below.refl _ _⟩
theorem g9 (xs : List Int) (x : Int) : ba Try.prog 52 [.c (.I xs),.c (.int .i64 x)] [] (fun _=>.c (.bool (tf (x ∈ xs)))) :=
 ec Try.func52 rfl rfl (u:=.bool _) (fun O w=>.bool _) fun φ hp w vs h=>by
  obtain ⟨a,b,rfl,h1,h2⟩:=rO h
  obtain rfl:=ce h2
  obtain ⟨sa,n,c,rfl,hI⟩:=i9 (cJ h1)
  exact (lc sa n c xs x w hI).mono fun e w' ⟨he,hw⟩=>⟨he,by rw [← hw];exact Below.refl _ _⟩
end Go.Proofs.Ytlodllmpndflcaa
namespace Go.Proofs.Ytlodllmpndflcaa
set_option linter.unusedVariables false
set_option linter.unusedSimpArgs false
open Go.RowKit
end Go.Proofs.Ytlodllmpndflcaa
