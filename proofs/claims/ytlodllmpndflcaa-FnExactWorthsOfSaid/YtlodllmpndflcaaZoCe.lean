/-
  The reference's games with links both ways: what its functions return.
-/
import Derived.Test.YtlodllmpndflcaaZoFc
import Derived.Test.YtlodllmpndflcaaZoCg
import Derived.Test.YtlodllmpndflcaaZoCb
import Derived.Test.YtlodllmpndflcaaZoSd
namespace Go.Proofs.Ytlodllmpndflcaa
set_option linter.unusedVariables false
set_option linter.unusedSimpArgs false
open Go.RowKit
end Go.Proofs.Ytlodllmpndflcaa
namespace Go.Proofs.Ytlodllmpndflcaa
set_option linter.unusedVariables false
set_option linter.unusedSimpArgs false
open Go.RowKit
end Go.Proofs.Ytlodllmpndflcaa
namespace Go.Proofs.Ytlodllmpndflcaa
set_option linter.unusedVariables false
set_option linter.unusedSimpArgs false
open Go.RowKit
attribute [local irreducible] ba cM Aw Le
theorem tq {φ : Nat → Loc} {hp : Hp} {w : World} {a : AV} {vs : List Value} (h : AVs φ hp w [a] vs) : ∃ v,vs = [v] ∧ AVC φ hp w a v:=by
 match vs,h with
 | [v], .cons h .nil => exact ⟨v, rfl, h⟩
theorem rO {φ : Nat → Loc} {hp : Hp} {w : World} {a b : AV} {vs : List Value} (h : AVs φ hp w [a,b] vs) : ∃ v u,vs = [v,u] ∧ AVC φ hp w a v ∧ AVC φ hp w b u:=by
 match vs,h with
 | [v, u], .cons h (.cons k .nil) => exact ⟨v, u, rfl, h, k⟩
theorem wX {φ : Nat → Loc} {hp : Hp} {w : World} {a b c : AV} {vs : List Value} (h : AVs φ hp w [a,b,c] vs) : ∃ v u x,vs = [v,u,x] ∧ AVC φ hp w a v ∧ AVC φ hp w b u ∧ AVC φ hp w c x:=by
 match vs,h with
 | [v, u, x], .cons h (.cons k (.cons l .nil)) => exact ⟨v, u, x, rfl, h, k, l⟩
theorem qe (x lo hi : Int) : ba Try.prog 60 [.c (.int .i64 x),.c (.int .i64 lo),.c (.int .i64 hi)] [] (fun _=>.c (.bool (tf (lo ≤ x ∧ x ≤ hi)))) :=
 ec Try.func60 rfl rfl (u:=.bool _) (fun O w=>.bool _) fun φ hp w vs h=>by
  obtain ⟨a,b,c,rfl,h1,h2,h3⟩:=wX h
  obtain rfl:=ce h1
  obtain rfl:=ce h2
  obtain rfl:=ce h3
  exact (la x lo hi w).mono fun e w' ⟨he,hw⟩=>⟨he,by rw [← hw];exact Below.refl _ _⟩
theorem qf (g : Pa) : ba Try.prog 37 [paA g] [] (fun _=>.c (.bool (tf (PaOk g)))) :=
 ec Try.func37 rfl rfl (u:=.bool _) (fun O w=>.bool _) fun φ hp w vs h=>by
  obtain ⟨a,rfl,h1⟩:=tq h
  exact sF a g w (vd h1)
theorem qg (g : Pa) : ba Try.prog 45 [paA g] [] (fun _=>.c (.bool (tf (PaOk g)))) :=
 ec Try.func45 rfl rfl (u:=.bool _) (fun O w=>.bool _) fun φ hp w vs h=>by
  obtain ⟨a,rfl,h1⟩:=tq h
  exact (sG a g w (vd h1)).mono fun e w' h=>h
theorem nx (a : Ar) : ba Try.prog 59 [arA a] [] (fun _=>.c (.bool (tf (ArOk a)))) :=
 ec Try.func59 rfl rfl (u:=.bool _) (fun O w=>.bool _) fun φ hp w vs h=>by
  obtain ⟨v,rfl,h1⟩:=tq h
  exact (kj v a w (wU h1)).mono fun e w' h=>h
theorem lF (g : Pa) : ba Try.prog 21 [paA g] [] (fun _=>.c (.bool (tf (dU g)))):=by
 (refine bA aF Try.func21 rfl rfl (by kernel_rfl) fun hp0 ν hX hN=>?_;simp only [cg,Nat.reduceAdd])
 (repeat' (first|(with_reducible first|(apply hK;clear hK K)|refine stZ ?_|refine aO rfl ?_|((first|apply ae|apply af);clear ae X af Y))|(with_reducible refine aR ?_;first|refine aP rfl ?_|refine aQ rfl ?_)|(with_reducible refine bi ?_;first|refine aM rfl rfl rfl rfl ?_|refine bh rfl rfl rfl ?_|refine bz rfl rfl rfl rfl ?_)|((first|(with_reducible first|((first|refine aU ?_|refine aV ?_);intro K hK)|(refine aC ?_;intro X Y ae af)|refine aD ?_)|(with_reducible refine bi ?_;refine aN rfl rfl fun X Y ae af=>?_));simp (disch:=first|decide|omega|(simp only [List.length_cons,List.length_nil];omega)) only [go_sem,↓aj hN,an hN,reduceIte,reduceCtorEq,Nat.reduceAdd,Nat.reduceLT,Nat.reduceLeDiff,Nat.reduceEqDiff,Nat.reduceSub])|(with_reducible refine And.intro (fun h=>?_) (fun h=>?_) <;> try (exfalso;omega))|(with_reducible refine aT aF hN ?_)|(refine aE (qf ?_) ?_ rfl (fun _=>rfl) ?_)|(with_reducible first|exact am|refine ah ?_ ?_|exact aZ _|refine ay ?_|exact ax _|exact aI _ _|refine aH ?_|exact au _)|exact az hN rfl rfl|(refine aG hN rfl ?_;first|exact aJ _|exact aK _)|exact aw rfl rfl rfl|(simp only [aY,List.map_nil])|(with_reducible refine bm ?_)|(with_reducible refine And.intro ?_ ?_)|(refine ak ?_;omega)|(exact aS hN (by decide))))
 all_goals (refine bT (.inr rfl) (by first|rfl|(simp (disch:=first|decide|omega|(simp only [List.length_cons,List.length_nil];omega)) only [bR,bU,bX,bY,go_sem,beq_self_eq_true,↓aW,↓aj hN,an hN,reduceIte,reduceCtorEq,Nat.reduceAdd,Nat.reduceLT,Nat.reduceLeDiff,Nat.reduceEqDiff,Nat.reduceSub];rfl)) ?_)
 · exact congrArg C.bool (fY ⟨fun h'=>⟨by assumption,by omega⟩,fun h'=>by have:=h'.2;omega⟩)
 · exact congrArg C.bool (ao fun h'=>absurd h'.1 (by assumption)).symm
theorem qi (g : Pa) : ba Try.prog 30 [paA g] [] (fun _=>.c (.bool (tf (dU g)))):=by
 (refine bA aF Try.func30 rfl rfl (by kernel_rfl) fun hp0 ν hX hN=>?_;simp only [cg,Nat.reduceAdd])
 (repeat' (first|(with_reducible first|(apply hK;clear hK K)|refine stZ ?_|refine aO rfl ?_|((first|apply ae|apply af);clear ae X af Y))|(with_reducible refine aR ?_;first|refine aP rfl ?_|refine aQ rfl ?_)|(with_reducible refine bi ?_;first|refine aM rfl rfl rfl rfl ?_|refine bh rfl rfl rfl ?_|refine bz rfl rfl rfl rfl ?_)|((first|(with_reducible first|((first|refine aU ?_|refine aV ?_);intro K hK)|(refine aC ?_;intro X Y ae af)|refine aD ?_)|(with_reducible refine bi ?_;refine aN rfl rfl fun X Y ae af=>?_));simp (disch:=first|decide|omega|(simp only [List.length_cons,List.length_nil];omega)) only [go_sem,↓aj hN,an hN,reduceIte,reduceCtorEq,Nat.reduceAdd,Nat.reduceLT,Nat.reduceLeDiff,Nat.reduceEqDiff,Nat.reduceSub])|(with_reducible refine And.intro (fun h=>?_) (fun h=>?_) <;> try (exfalso;omega))|(with_reducible refine aT aF hN ?_)|(refine aE (qg ?_) ?_ rfl (fun _=>rfl) ?_)|(with_reducible first|exact am|refine ah ?_ ?_|exact aZ _|refine ay ?_|exact ax _|exact aI _ _|refine aH ?_|exact au _)|exact az hN rfl rfl|(refine aG hN rfl ?_;first|exact aJ _|exact aK _)|exact aw rfl rfl rfl|(simp only [aY,List.map_nil])|(with_reducible refine bm ?_)|(with_reducible refine And.intro ?_ ?_)|(refine ak ?_;omega)|(exact aS hN (by decide))))
 all_goals (refine bT (.inr rfl) (by first|rfl|(simp (disch:=first|decide|omega|(simp only [List.length_cons,List.length_nil];omega)) only [bR,bU,bX,bY,go_sem,beq_self_eq_true,↓aW,↓aj hN,an hN,reduceIte,reduceCtorEq,Nat.reduceAdd,Nat.reduceLT,Nat.reduceLeDiff,Nat.reduceEqDiff,Nat.reduceSub];rfl)) ?_)
 · exact congrArg C.bool (cQ ⟨fun h'=>⟨h',by omega⟩,fun h'=>h'.1⟩)
 · exact congrArg C.bool (ao fun h'=>by have:=h'.2;omega).symm
theorem tt (a : Ar) : ba Try.prog 58 [arA a] [] (fun _=>.c (.int .i64 a.own.length)):=by
 (refine bA aF Try.func58 rfl rfl (by kernel_rfl) fun hp0 ν hX hN=>?_;simp only [cg,Nat.reduceAdd])
 (repeat' (first|(with_reducible first|(apply hK;clear hK K)|refine stZ ?_|refine aO rfl ?_|((first|apply ae|apply af);clear ae X af Y))|(with_reducible refine aR ?_;first|refine aP rfl ?_|refine aQ rfl ?_)|((with_reducible first|((first|refine aU ?_|refine aV ?_);intro K hK)|(refine aC ?_;intro X Y ae af)|refine aD ?_);simp (disch:=first|decide|omega|(simp only [List.length_cons,List.length_nil];omega)) only [go_sem,↓aj hN,an hN,reduceIte,reduceCtorEq,Nat.reduceAdd,Nat.reduceLT,Nat.reduceLeDiff,Nat.reduceEqDiff,Nat.reduceSub])|(with_reducible refine And.intro (fun h=>?_) (fun h=>?_) <;> try (exfalso;omega))|(with_reducible refine aT aF hN ?_)|(with_reducible refine And.intro ?_ ?_)|(refine ak ?_;omega)|(exact aS hN (by decide))))
 (refine bT (.inr rfl) (by first|rfl|(simp (disch:=first|decide|omega|(simp only [List.length_cons,List.length_nil];omega)) only [bR,bU,bX,bY,go_sem,beq_self_eq_true,↓aW,↓aj hN,an hN,reduceIte,reduceCtorEq,Nat.reduceAdd,Nat.reduceLT,Nat.reduceLeDiff,Nat.reduceEqDiff,Nat.reduceSub];rfl)) ?_)
 rfl
end Go.Proofs.Ytlodllmpndflcaa
namespace Go.Proofs.Ytlodllmpndflcaa
set_option linter.unusedVariables false
set_option linter.unusedSimpArgs false
open Go.RowKit
end Go.Proofs.Ytlodllmpndflcaa
namespace Go.Proofs.Ytlodllmpndflcaa
set_option linter.unusedVariables false
set_option linter.unusedSimpArgs false
open Go.RowKit
end Go.Proofs.Ytlodllmpndflcaa
namespace Go.Proofs.Ytlodllmpndflcaa
set_option linter.unusedVariables false
set_option linter.unusedSimpArgs false
open Go.RowKit
end Go.Proofs.Ytlodllmpndflcaa
