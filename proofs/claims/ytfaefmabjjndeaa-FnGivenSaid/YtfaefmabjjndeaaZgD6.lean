/-
  Less, and part of, on the reference's side.
-/
import Derived.Test.YtfaefmabjjndeaaZgD3
import Derived.Test.YtfaefmabjjndeaaZgE15
namespace Go.Proofs.Ytfaefmabjjndeaa
set_option linter.unusedVariables false
set_option linter.unusedSimpArgs false
open Go.RowKit
theorem po (xs : List Int) (x : Int) : aG Try.prog 86 [.c (.I xs),.c (.int .i64 x)] [] (fun _=>.c (.bool (tf (x ∈ xs)))) :=
 e9 Try.func86 rfl rfl (u:=.bool _) (fun O w=>.bool _) fun φ hp w vs h=>by
  obtain ⟨a,b,rfl,h1,h2⟩:=rC h
  obtain rfl:=dm h2
  obtain ⟨sa,n,c,rfl,hI⟩:=ma (d4 h1)
  exact (px sa n c xs x w hI).mono fun e w' ⟨he,hw⟩=>⟨he,by rw [← hw];exact Below.refl _ _⟩
end Go.Proofs.Ytfaefmabjjndeaa
