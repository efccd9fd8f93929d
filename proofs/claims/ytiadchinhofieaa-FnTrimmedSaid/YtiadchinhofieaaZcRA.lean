/-
  Plays: the reference's side.
-/
import Derived.Test.YtiadchinhofieaaZcD3
import Derived.Test.YtiadchinhofieaaZcE15
import Derived.Test.YtiadchinhofieaaZcR9
namespace Go.Proofs.Ytiadchinhofieaa
set_option linter.unusedVariables false
set_option linter.unusedSimpArgs false
open Go.RowKit
theorem oz (xs : List Int) (x : Int) : aq Try.prog 79 [.c (.I xs),.c (.int .i64 x)] [] (fun _=>.c (.bool (tf (x ∈ xs)))) :=
 fC Try.func79 rfl rfl (u:=.bool _) (fun O w=>.bool _) fun φ hp w vs h=>by
  obtain ⟨a,b,rfl,h1,h2⟩:=uv h
  obtain rfl:=cH h2
  obtain ⟨sa,n,c,rfl,hI⟩:=ny (du h1)
  exact (oJ sa n c xs x w hI).mono fun e w' ⟨he,hw⟩=>⟨he,by rw [← hw];exact Below.refl _ _⟩
end Go.Proofs.Ytiadchinhofieaa
namespace Go.Proofs.Ytiadchinhofieaa
set_option linter.unusedVariables false
set_option linter.unusedSimpArgs false
open Go.RowKit
attribute [local irreducible] aq ci Aw Le
theorem py (a : Ar) (x : Int) (hvx : iM a.own.length x) (hl : a.own.length ≤ 1048576) : aq Try.prog 78 [arA a,.c (.int .i64 x)] [] (fun _=>.c (.bool true)):=by
 have c1:=qO x 0 ((a.own.length : Int) - 1)
 rw [aH (show (0 : Int) ≤ x ∧ x ≤ (a.own.length : Int) - 1 by unfold iM at hvx;omega)] at c1
 (refine bh aG Try.func78 rfl rfl (by kernel_rfl) fun hp0 ν hX hN=>?_;simp only [cx,Nat.reduceAdd])
 (repeat' (first|(with_reducible first|(apply hK;clear hK K)|refine stZ ?_|refine aM rfl ?_|((first|apply ae|apply af);clear ae X af Y))|(with_reducible refine aP ?_;first|refine aN rfl ?_|refine aO rfl ?_)|((with_reducible first|((first|refine aS ?_|refine aT ?_);intro K hK)|(refine az ?_;intro X Y ae af)|refine aA ?_);simp (disch:=first|decide|omega|(simp only [List.length_cons,List.length_nil];omega)) only [go_sem,↓am hN,ao hN,reduceIte,reduceCtorEq,Nat.reduceAdd,Nat.reduceLT,Nat.reduceLeDiff,Nat.reduceEqDiff,Nat.reduceSub])|(with_reducible refine And.intro (fun h=>?_) (fun h=>?_) <;> try (exfalso;omega))|(with_reducible refine aR aG hN ?_)|(refine bE c1 ?_ rfl (fun _=>rfl) ?_)|(with_reducible first|exact aV|refine aJ ?_ ?_|exact cF _|refine bv ?_|exact bz _|exact bR _ _|refine bQ ?_|exact bt _)|exact bw hN rfl rfl|(refine bP hN rfl ?_;first|exact aZ _|exact a8 _)|exact bu rfl rfl rfl|(simp only [ba,List.map_nil])|(with_reducible refine bo ?_)|(with_reducible refine And.intro ?_ ?_)|(refine ak ?_;omega)|(exact aQ hN (by decide))))
 (refine dd (.inr rfl) (by first|rfl|(simp (disch:=first|decide|omega|(simp only [List.length_cons,List.length_nil];omega)) only [bK,bS,bV,bY,go_sem,beq_self_eq_true,↓au,↓am hN,ao hN,reduceIte,reduceCtorEq,Nat.reduceAdd,Nat.reduceLT,Nat.reduceLeDiff,Nat.reduceEqDiff,Nat.reduceSub];rfl)) ?_)
 rfl
end Go.Proofs.Ytiadchinhofieaa
