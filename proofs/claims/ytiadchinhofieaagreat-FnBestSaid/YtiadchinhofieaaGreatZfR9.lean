/-
  Plays: the program's side.
-/
import Derived.Test.YtiadchinhofieaaGreatZfR7
import Derived.Test.YtiadchinhofieaaGreatZfR6
namespace Go.Proofs.YtiadchinhofieaaGreat
set_option linter.unusedVariables false
set_option linter.unusedSimpArgs false
open Go.RowKit
theorem xg (a : Ar) : aO Tryz.prog 57 [arA a] [] (fun _=>.c (.bool (tf (ArOk a)))) :=
 eG Tryz.func57 rfl rfl (u:=.bool _) (fun O w=>.bool _) fun φ hp w vs h=>by
  obtain ⟨v,rfl,h1⟩:=sJ h
  exact (mU v a w (Ak h1)).mono fun e w' h=>h
def lR (a : Ar) (who : Int) (ps : List Int) : Prop:=ps.length = a.own.length ∧ ∀ v,v < ps.length → gi ps v = -1 ∨ gi a.own v = who ∧ gi ps v ∈ gr a.nxt v
theorem xh (xs : List Int) (x : Int) : aO Tryz.prog 65 [.c (.I xs),.c (.int .i64 x)] [] (fun _=>.c (.int .i64 (idx xs x))) :=
 eG Tryz.func65 rfl rfl (u:=.int .i64 _) (fun O w=>.int _ _) fun φ hp w vs h=>by
  obtain ⟨a,b,rfl,h1,h2⟩:=uc h
  obtain rfl:=cK h2
  obtain ⟨sa,n,c,rfl,hI⟩:=ny (du h1)
  exact (jP sa n c xs x w hI).mono fun e w' ⟨he,hw⟩=>⟨he,by rw [← hw];exact Below.refl _ _⟩
theorem vz (f : Nat → Nat) (k : Nat) : dW f (k + 1) = dW f k ++ [(f k : Int)]:=gZ _ _
end Go.Proofs.YtiadchinhofieaaGreat
