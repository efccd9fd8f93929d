/-
  Less, and part of, on the reference's side.
-/
import Derived.Test.YtfaefmabjjndeaaZmD3
import Derived.Test.YtfaefmabjjndeaaZmE15
namespace Go.Proofs.Ytfaefmabjjndeaa
set_option linter.unusedVariables false
set_option linter.unusedSimpArgs false
open Go.RowKit
theorem nk (xs : List Int) (x : Int) : aG Try.prog 86 [.c (.I xs),.c (.int .i64 x)] [] (fun _=>.c (.bool (tf (x ∈ xs)))) :=
 gD Try.func86 rfl rfl (u:=.bool _) (fun O w=>.bool _) fun φ hp w vs h=>by
  obtain ⟨a,b,rfl,h1,h2⟩:=xd h
  obtain rfl:=dn h2
  obtain ⟨sa,n,c,rfl,hI⟩:=pH (dQ h1)
  exact (rf sa n c xs x w hI).mono fun e w' ⟨he,hw⟩=>⟨he,by rw [← hw];exact Below.refl _ _⟩
end Go.Proofs.Ytfaefmabjjndeaa
