/-
  The reference's games with links both ways: what its functions return.
-/
import Derived.Test.YtiadchinhofieaaZbFc
import Derived.Test.YtiadchinhofieaaZbCg
import Derived.Test.YtiadchinhofieaaZbCb
import Derived.Test.YtiadchinhofieaaZbSd
namespace Go.Proofs.Ytiadchinhofieaa
set_option linter.unusedVariables false
set_option linter.unusedSimpArgs false
open Go.RowKit
attribute [local irreducible] bp cR Aw Le
end Go.Proofs.Ytiadchinhofieaa
namespace Go.Proofs.Ytiadchinhofieaa
set_option linter.unusedVariables false
set_option linter.unusedSimpArgs false
open Go.RowKit
end Go.Proofs.Ytiadchinhofieaa
namespace Go.Proofs.Ytiadchinhofieaa
set_option linter.unusedVariables false
set_option linter.unusedSimpArgs false
open Go.RowKit
attribute [local irreducible] bp cR Aw Le
theorem th {φ : Nat → Loc} {hp : Hp} {w : World} {a : AV} {vs : List Value} (h : AVs φ hp w [a] vs) : ∃ v,vs = [v] ∧ AVC φ hp w a v:=by
 match vs,h with
 | [v], .cons h .nil => exact ⟨v, rfl, h⟩
theorem tj {φ : Nat → Loc} {hp : Hp} {w : World} {a b : AV} {vs : List Value} (h : AVs φ hp w [a,b] vs) : ∃ v u,vs = [v,u] ∧ AVC φ hp w a v ∧ AVC φ hp w b u:=by
 match vs,h with
 | [v, u], .cons h (.cons k .nil) => exact ⟨v, u, rfl, h, k⟩
theorem yj {φ : Nat → Loc} {hp : Hp} {w : World} {a b c : AV} {vs : List Value} (h : AVs φ hp w [a,b,c] vs) : ∃ v u x,vs = [v,u,x] ∧ AVC φ hp w a v ∧ AVC φ hp w b u ∧ AVC φ hp w c x:=by
 match vs,h with
 | [v, u, x], .cons h (.cons k (.cons l .nil)) => exact ⟨v, u, x, rfl, h, k, l⟩
theorem rx (x lo hi : Int) : bp Try.prog 99 [.c (.int .i64 x),.c (.int .i64 lo),.c (.int .i64 hi)] [] (fun _=>.c (.bool (tf (lo ≤ x ∧ x ≤ hi)))) :=
 eS Try.func99 rfl rfl (u:=.bool _) (fun O w=>.bool _) fun φ hp w vs h=>by
  obtain ⟨a,b,c,rfl,h1,h2,h3⟩:=yj h
  obtain rfl:=cZ h1
  obtain rfl:=cZ h2
  obtain rfl:=cZ h3
  exact (mC x lo hi w).mono fun e w' ⟨he,hw⟩=>⟨he,by rw [← hw];exact Below.refl _ _⟩
theorem ry (g : Pa) : bp Try.prog 61 [paA g] [] (fun _=>.c (.bool (tf (PaOk g)))) :=
 eS Try.func61 rfl rfl (u:=.bool _) (fun O w=>.bool _) fun φ hp w vs h=>by
  obtain ⟨a,rfl,h1⟩:=th h
  exact ug a g w (wX h1)
theorem rz (g : Pa) : bp Try.prog 59 [paA g] [] (fun _=>.c (.bool (tf (PaOk g)))) :=
 eS Try.func59 rfl rfl (u:=.bool _) (fun O w=>.bool _) fun φ hp w vs h=>by
  obtain ⟨a,rfl,h1⟩:=th h
  exact (uh a g w (wX h1)).mono fun e w' h=>h
theorem oY (a : Ar) : bp Try.prog 77 [arA a] [] (fun _=>.c (.bool (tf (ArOk a)))) :=
 eS Try.func77 rfl rfl (u:=.bool _) (fun O w=>.bool _) fun φ hp w vs h=>by
  obtain ⟨v,rfl,h1⟩:=th h
  exact (lO v a w (wW h1)).mono fun e w' h=>h
theorem fN (g : Pa) : bp Try.prog 84 [paA g] [] (fun _=>.c (.bool (tf (dE g)))):=by
 (refine bU aH Try.func84 rfl rfl (by kernel_rfl) fun hp0 ν hX hN=>?_;simp only [cJ,Nat.reduceAdd])
 (repeat' (first|(with_reducible first|(refine hK _ _ ?_;clear hK K)|(refine aa _ ?_;clear aa K)|refine aY ?_|refine bF ?_|refine aR ?_|refine ay ?_|refine ax ?_|refine bG ?_|refine aD ?_|refine aS ?_|refine bH ?_|refine aT ?_|refine aU rfl ?_|refine aZ ?_|refine aV ?_|refine bI ?_|refine aW ?_|refine aC ?_|refine n_k ?_|refine aX ?_|(refine ae ?_;clear ae X af Y)|(refine af ?_;clear ae X af Y))|(with_reducible refine be ?_;first|refine bc rfl ?_|refine bd rfl ?_)|(with_reducible refine aQ ?_;first|refine az rfl rfl rfl rfl ?_|refine aF rfl rfl rfl ?_|refine bh rfl rfl rfl rfl ?_)|((first|(with_reducible first|refine bf rfl rfl fun K hK=>?_|refine bg rfl rfl fun K aa=>?_|refine aE fun X Y ae af=>?_|refine aG ?_)|(with_reducible refine aQ ?_;refine bo rfl rfl fun X Y ae af=>?_));simp (disch:=first|decide|omega|(simp only [List.length_cons,List.length_nil];omega)) only [go_sem,beq_self_eq_true,↓ag,↓ak hN,an hN,reduceIte,reduceCtorEq,Nat.reduceAdd,Nat.reduceLT,Nat.reduceLeDiff,Nat.reduceEqDiff,Nat.reduceSub])|(with_reducible refine And.intro (fun h=>?_) (fun h=>?_) <;> try (exfalso;omega))|(with_reducible refine ba aH hN rfl ?_ ?_;kernel_rfl)|(refine aK (ry ?_) ?_ rfl (fun _=>rfl) ?_)|(with_reducible first|exact am|refine ah ?_ ?_|exact bA _|refine au ?_|exact aq _|exact aN _ _|refine aM ?_|exact ao _)|exact aw hN rfl rfl|(refine aL hN rfl ?_;first|exact aI _|exact aJ _)|exact ap rfl rfl rfl|(simp only [bE,List.map_nil])|(with_reducible refine bC ?_)|(with_reducible refine And.intro ?_ ?_)|(refine aj ?_;omega)|(exact bi hN (by decide))))
 all_goals (refine cI (.inr rfl) (by first|rfl|(simp (disch:=first|decide|omega|(simp only [List.length_cons,List.length_nil];omega)) only [cy,cB,cD,cE,go_sem,beq_self_eq_true,↓ag,↓ak hN,an hN,reduceIte,reduceCtorEq,Nat.reduceAdd,Nat.reduceLT,Nat.reduceLeDiff,Nat.reduceEqDiff,Nat.reduceSub];rfl)) ?_)
 · exact congrArg C.bool (iD ⟨fun h'=>⟨by assumption,by omega⟩,fun h'=>by have:=h'.2;omega⟩)
 · exact congrArg C.bool (aB fun h'=>absurd h'.1 (by assumption)).symm
theorem gL (g : Pa) : bp Try.prog 80 [paA g] [] (fun _=>.c (.bool (tf (dE g)))):=by
 (refine bU aH Try.func80 rfl rfl (by kernel_rfl) fun hp0 ν hX hN=>?_;simp only [cJ,Nat.reduceAdd])
 (repeat' (first|(with_reducible first|(refine hK _ _ ?_;clear hK K)|(refine aa _ ?_;clear aa K)|refine aY ?_|refine bF ?_|refine aR ?_|refine ay ?_|refine ax ?_|refine bG ?_|refine aD ?_|refine aS ?_|refine bH ?_|refine aT ?_|refine aU rfl ?_|refine aZ ?_|refine aV ?_|refine bI ?_|refine aW ?_|refine aC ?_|refine n_k ?_|refine aX ?_|(refine ae ?_;clear ae X af Y)|(refine af ?_;clear ae X af Y))|(with_reducible refine be ?_;first|refine bc rfl ?_|refine bd rfl ?_)|(with_reducible refine aQ ?_;first|refine az rfl rfl rfl rfl ?_|refine aF rfl rfl rfl ?_|refine bh rfl rfl rfl rfl ?_)|((first|(with_reducible first|refine bf rfl rfl fun K hK=>?_|refine bg rfl rfl fun K aa=>?_|refine aE fun X Y ae af=>?_|refine aG ?_)|(with_reducible refine aQ ?_;refine bo rfl rfl fun X Y ae af=>?_));simp (disch:=first|decide|omega|(simp only [List.length_cons,List.length_nil];omega)) only [go_sem,beq_self_eq_true,↓ag,↓ak hN,an hN,reduceIte,reduceCtorEq,Nat.reduceAdd,Nat.reduceLT,Nat.reduceLeDiff,Nat.reduceEqDiff,Nat.reduceSub])|(with_reducible refine And.intro (fun h=>?_) (fun h=>?_) <;> try (exfalso;omega))|(with_reducible refine ba aH hN rfl ?_ ?_;kernel_rfl)|(refine aK (rz ?_) ?_ rfl (fun _=>rfl) ?_)|(with_reducible first|exact am|refine ah ?_ ?_|exact bA _|refine au ?_|exact aq _|exact aN _ _|refine aM ?_|exact ao _)|exact aw hN rfl rfl|(refine aL hN rfl ?_;first|exact aI _|exact aJ _)|exact ap rfl rfl rfl|(simp only [bE,List.map_nil])|(with_reducible refine bC ?_)|(with_reducible refine And.intro ?_ ?_)|(refine aj ?_;omega)|(exact bi hN (by decide))))
 all_goals (refine cI (.inr rfl) (by first|rfl|(simp (disch:=first|decide|omega|(simp only [List.length_cons,List.length_nil];omega)) only [cy,cB,cD,cE,go_sem,beq_self_eq_true,↓ag,↓ak hN,an hN,reduceIte,reduceCtorEq,Nat.reduceAdd,Nat.reduceLT,Nat.reduceLeDiff,Nat.reduceEqDiff,Nat.reduceSub];rfl)) ?_)
 · exact congrArg C.bool (dM ⟨fun h'=>⟨h',by omega⟩,fun h'=>h'.1⟩)
 · exact congrArg C.bool (aB fun h'=>by have:=h'.2;omega).symm
theorem uX (a : Ar) : bp Try.prog 104 [arA a] [] (fun _=>.c (.int .i64 a.own.length)):=by
 (refine bU aH Try.func104 rfl rfl (by kernel_rfl) fun hp0 ν hX hN=>?_;simp only [cJ,Nat.reduceAdd])
 (repeat' (first|(with_reducible first|(refine hK _ _ ?_;clear hK K)|(refine aa _ ?_;clear aa K)|refine aY ?_|refine bF ?_|refine aR ?_|refine ay ?_|refine ax ?_|refine bG ?_|refine aD ?_|refine aS ?_|refine bH ?_|refine aT ?_|refine aU rfl ?_|refine aZ ?_|refine aV ?_|refine bI ?_|refine aW ?_|refine aC ?_|refine n_k ?_|refine aX ?_|(refine ae ?_;clear ae X af Y)|(refine af ?_;clear ae X af Y))|(with_reducible refine be ?_;first|refine bc rfl ?_|refine bd rfl ?_)|(with_reducible refine aQ ?_;first|refine az rfl rfl rfl rfl ?_|refine aF rfl rfl rfl ?_|refine bh rfl rfl rfl rfl ?_)|((first|(with_reducible first|refine bf rfl rfl fun K hK=>?_|refine bg rfl rfl fun K aa=>?_|refine aE fun X Y ae af=>?_|refine aG ?_));simp (disch:=first|decide|omega|(simp only [List.length_cons,List.length_nil];omega)) only [go_sem,beq_self_eq_true,↓ag,↓ak hN,an hN,reduceIte,reduceCtorEq,Nat.reduceAdd,Nat.reduceLT,Nat.reduceLeDiff,Nat.reduceEqDiff,Nat.reduceSub])|(with_reducible refine And.intro (fun h=>?_) (fun h=>?_) <;> try (exfalso;omega))|(with_reducible refine ba aH hN rfl ?_ ?_;kernel_rfl)|(with_reducible refine And.intro ?_ ?_)|(refine aj ?_;omega)|(exact bi hN (by decide))))
 (refine cI (.inr rfl) (by first|rfl|(simp (disch:=first|decide|omega|(simp only [List.length_cons,List.length_nil];omega)) only [cy,cB,cD,cE,go_sem,beq_self_eq_true,↓ag,↓ak hN,an hN,reduceIte,reduceCtorEq,Nat.reduceAdd,Nat.reduceLT,Nat.reduceLeDiff,Nat.reduceEqDiff,Nat.reduceSub];rfl)) ?_)
 rfl
end Go.Proofs.Ytiadchinhofieaa
namespace Go.Proofs.Ytiadchinhofieaa
set_option linter.unusedVariables false
set_option linter.unusedSimpArgs false
open Go.RowKit
attribute [local irreducible] bp cR Aw Le
theorem oc (x : Int) : bp Try.prog 147 [.c (.int .i64 x)] [] (fun _=>.c (.bool (x == 0 || x == 1))):=by
 (refine bU aH Try.func147 rfl rfl (by kernel_rfl) fun hp0 ν hX hN=>?_;simp only [cJ,Nat.reduceAdd])
 (repeat' (first|(with_reducible first|(refine hK _ _ ?_;clear hK K)|(refine aa _ ?_;clear aa K)|refine aY ?_|refine bF ?_|refine aR ?_|refine ay ?_|refine ax ?_|refine bG ?_|refine aD ?_|refine aS ?_|refine bH ?_|refine aT ?_|refine aU rfl ?_|refine aZ ?_|refine aV ?_|refine bI ?_|refine aW ?_|refine aC ?_|refine n_k ?_|refine aX ?_|(refine ae ?_;clear ae X af Y)|(refine af ?_;clear ae X af Y))|(with_reducible refine be ?_;first|refine bc rfl ?_|refine bd rfl ?_)|(with_reducible refine aQ ?_;first|refine az rfl rfl rfl rfl ?_|refine aF rfl rfl rfl ?_|refine bh rfl rfl rfl rfl ?_)|((first|(with_reducible first|refine bf rfl rfl fun K hK=>?_|refine bg rfl rfl fun K aa=>?_|refine aE fun X Y ae af=>?_|refine aG ?_)|(with_reducible refine aQ ?_;refine bo rfl rfl fun X Y ae af=>?_));simp (disch:=first|decide|omega|(simp only [List.length_cons,List.length_nil];omega)) only [go_sem,beq_self_eq_true,↓ag,↓ak hN,an hN,reduceIte,reduceCtorEq,Nat.reduceAdd,Nat.reduceLT,Nat.reduceLeDiff,Nat.reduceEqDiff,Nat.reduceSub])|(with_reducible refine And.intro (fun h=>?_) (fun h=>?_) <;> try (exfalso;omega))|(with_reducible refine ba aH hN rfl ?_ ?_;kernel_rfl)|(with_reducible refine And.intro ?_ ?_)|(refine aj ?_;omega)|(exact bi hN (by decide))))
 all_goals (refine cI (.inr rfl) (by first|rfl|(simp (disch:=first|decide|omega|(simp only [List.length_cons,List.length_nil];omega)) only [cy,cB,cD,cE,go_sem,beq_self_eq_true,↓ag,↓ak hN,an hN,reduceIte,reduceCtorEq,Nat.reduceAdd,Nat.reduceLT,Nat.reduceLeDiff,Nat.reduceEqDiff,Nat.reduceSub];rfl)) ?_)
 all_goals simp [*]
end Go.Proofs.Ytiadchinhofieaa
namespace Go.Proofs.Ytiadchinhofieaa
set_option linter.unusedVariables false
set_option linter.unusedSimpArgs false
open Go.RowKit
end Go.Proofs.Ytiadchinhofieaa
namespace Go.Proofs.Ytiadchinhofieaa
set_option linter.unusedVariables false
set_option linter.unusedSimpArgs false
open Go.RowKit
end Go.Proofs.Ytiadchinhofieaa
