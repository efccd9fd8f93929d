/-
  Less, and part of, on the reference's side.
-/
import Derived.Test.YtfaefmabjjndeaaZtD2
import Derived.Test.YtfaefmabjjndeaaZtE15
namespace Go.Proofs.Ytfaefmabjjndeaa
set_option linter.unusedVariables false
set_option linter.unusedSimpArgs false
open Go.RowKit
theorem l1Has_f (xs : List Int) (x : Int) : FunSpec Try.prog 86 [.c (.I xs),.c (.int .i64 x)] [] (fun _=>.c (.bool (tf (x ∈ xs)))) :=
  spec_of Try.func86 rfl rfl (u:=.bool _) (fun O w=>.bool _) fun φ hp w vs h=>by
    obtain ⟨a,b,rfl,h1,h2⟩:=avs2 h
    obtain rfl:=avc_int h2
    obtain ⟨sa,n,c,rfl,hI⟩:=is_I (avc_c h1)
    exact (l1Has_any sa n c xs x w hI).mono fun e w' ⟨he,hw⟩=>⟨he,by rw [← hw];exact Below.refl _ _⟩
end Go.Proofs.Ytfaefmabjjndeaa
