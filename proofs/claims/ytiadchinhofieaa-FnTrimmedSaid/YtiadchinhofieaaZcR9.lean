/-
  Plays: the program's side.
-/
import Derived.Test.YtiadchinhofieaaZcR7
import Derived.Test.YtiadchinhofieaaZcR6
namespace Go.Proofs.Ytiadchinhofieaa
set_option linter.unusedVariables false
set_option linter.unusedSimpArgs false
open Go.RowKit
attribute [local irreducible] aq ci Aw Le
theorem sX (xs : List Int) (x : Int) : aq Try.prog 105 [.c (.I xs),.c (.int .i64 x)] [] (fun _=>.c (.int .i64 (idx xs x))) :=
 fC Try.func105 rfl rfl (u:=.int .i64 _) (fun O w=>.int _ _) fun φ hp w vs h=>by
  obtain ⟨a,b,rfl,h1,h2⟩:=uv h
  obtain rfl:=cH h2
  obtain ⟨sa,n,c,rfl,hI⟩:=ny (du h1)
  exact (kf sa n c xs x w hI).mono fun e w' ⟨he,hw⟩=>⟨he,by rw [← hw];exact Below.refl _ _⟩
end Go.Proofs.Ytiadchinhofieaa
