/-
  The reference's games with links both ways: what its functions return.
-/
import Derived.Test.YtfaefmabjjndeaaZwFc
import Derived.Test.YtfaefmabjjndeaaZwCg
import Derived.Test.YtfaefmabjjndeaaZwCb
import Derived.Test.YtfaefmabjjndeaaZwSd
namespace Go.Proofs.Ytfaefmabjjndeaa
set_option linter.unusedVariables false
set_option linter.unusedSimpArgs false
open Go.RowKit
attribute [local irreducible] aN cA Aw Le
end Go.Proofs.Ytfaefmabjjndeaa
namespace Go.Proofs.Ytfaefmabjjndeaa
set_option linter.unusedVariables false
set_option linter.unusedSimpArgs false
open Go.RowKit
end Go.Proofs.Ytfaefmabjjndeaa
namespace Go.Proofs.Ytfaefmabjjndeaa
set_option linter.unusedVariables false
set_option linter.unusedSimpArgs false
open Go.RowKit
attribute [local irreducible] aN cA Aw Le
theorem qa {φ : Nat → Loc} {hp : Hp} {w : World} {a : AV} {vs : List Value} (h : AVs φ hp w [a] vs) : ∃ v,vs = [v] ∧ AVC φ hp w a v:=by
 match vs,h with
 | [v], .cons h .nil => exact ⟨v, rfl, h⟩
theorem oA {φ : Nat → Loc} {hp : Hp} {w : World} {a b : AV} {vs : List Value} (h : AVs φ hp w [a,b] vs) : ∃ v u,vs = [v,u] ∧ AVC φ hp w a v ∧ AVC φ hp w b u:=by
 match vs,h with
 | [v, u], .cons h (.cons k .nil) => exact ⟨v, u, rfl, h, k⟩
theorem q9 {φ : Nat → Loc} {hp : Hp} {w : World} {a b c : AV} {vs : List Value} (h : AVs φ hp w [a,b,c] vs) : ∃ v u x,vs = [v,u,x] ∧ AVC φ hp w a v ∧ AVC φ hp w b u ∧ AVC φ hp w c x:=by
 match vs,h with
 | [v, u, x], .cons h (.cons k (.cons l .nil)) => exact ⟨v, u, x, rfl, h, k, l⟩
theorem j7 (x lo hi : Int) : aN Try.prog 83 [.c (.int .i64 x),.c (.int .i64 lo),.c (.int .i64 hi)] [] (fun _=>.c (.bool (tf (lo ≤ x ∧ x ≤ hi)))) :=
 e8 Try.func83 rfl rfl (u:=.bool _) (fun O w=>.bool _) fun φ hp w vs h=>by
  obtain ⟨a,b,c,rfl,h1,h2,h3⟩:=q9 h
  obtain rfl:=cK h1
  obtain rfl:=cK h2
  obtain rfl:=cK h3
  exact (ja x lo hi w).mono fun e w' ⟨he,hw⟩=>⟨he,by rw [← hw];exact Below.refl _ _⟩
theorem nf (xs : List Int) (m : Int) : aN Try.prog 100 [.c (.I xs),.c (.int .i64 m)] [] (fun _=>.c (.bool (tf (bX xs m)))) :=
 e8 Try.func100 rfl rfl (u:=.bool _) (fun O w=>.bool _) fun φ hp w vs h=>by
  obtain ⟨a,b,rfl,h1,h2⟩:=oA h
  obtain rfl:=cK h2
  obtain ⟨sa,n,c,rfl,hI⟩:=li (dn h1)
  exact (fL sa n c xs m w hI).mono fun e w' ⟨he,hw⟩=>⟨he,by rw [← hw];exact Below.refl _ _⟩
theorem mf (g : Pa) : aN Try.prog 72 [paA g] [] (fun _=>.c (.bool (tf (PaOk g)))) :=
 e8 Try.func72 rfl rfl (u:=.bool _) (fun O w=>.bool _) fun φ hp w vs h=>by
  obtain ⟨a,rfl,h1⟩:=qa h
  exact nH a g w (pX h1)
theorem mg (g : Pa) : aN Try.prog 59 [paA g] [] (fun _=>.c (.bool (tf (PaOk g)))) :=
 e8 Try.func59 rfl rfl (u:=.bool _) (fun O w=>.bool _) fun φ hp w vs h=>by
  obtain ⟨a,rfl,h1⟩:=qa h
  exact (nI a g w (pX h1)).mono fun e w' h=>h
theorem ng (xs : List Int) (m : Int) (h0 : 0 ≤ m) (h1 : m ≤ 1048576) : aN Try.prog 185 [.c (.I xs),.c (.int .i64 m)] [] (fun _=>.c (.bool (tf (bX xs m)))) :=
 e8 Try.func185 rfl rfl (u:=.bool _) (fun O w=>.bool _) fun φ hp w vs h=>by
  obtain ⟨a,b,rfl,h1,h2⟩:=oA h
  obtain rfl:=cK h2
  obtain ⟨sa,n,c,rfl,hI⟩:=li (dn h1)
  exact (fM sa n c xs m w hI h0 (by omega)).mono fun e w' h=>h.bb
theorem nh (xs : List Int) (m : Int) : aN Try.prog 135 [.c (.I xs),.c (.int .i64 m)] [] (fun _=>.c (.bool (tf ((0 ≤ m ∧ m ≤ 256) ∧ bX xs m)))):=by
 by_cases hm : 0 ≤ m ∧ m ≤ 256
 · rw [show tf ((0 ≤ m ∧ m ≤ 256) ∧ bX xs m) = tf (bX xs m) from dC ⟨fun h=>h.2,fun h=>⟨hm,h⟩⟩]
   obtain ⟨m0,m1⟩:=hm
   (refine bL aL Try.func135 rfl rfl (by kernel_rfl) fun hp0 ν hX hN=>?_;simp only [cW,Nat.reduceAdd])
   (repeat' (first|(with_reducible first|(refine hK _ _ ?_;clear hK K)|(refine aa _ ?_;clear aa K)|refine bf ?_|refine bQ ?_|refine aZ ?_|refine aE ?_|refine aD ?_|refine bR ?_|refine aP ?_|refine a8 ?_|refine bS ?_|refine a9 ?_|refine ba rfl ?_|refine bg ?_|refine bc ?_|refine bT ?_|refine bd ?_|refine aO ?_|refine n_k ?_|refine be ?_|(refine ae ?_;clear ae X af Y)|(refine af ?_;clear ae X af Y))|(with_reducible refine bm ?_;first|refine bi rfl ?_|refine bj rfl ?_)|(with_reducible refine aU ?_;first|refine aF rfl rfl rfl rfl ?_|refine aR rfl rfl rfl ?_|refine bp rfl rfl rfl rfl ?_)|((first|(with_reducible first|refine bn rfl rfl fun K hK=>?_|refine bo rfl rfl fun K aa=>?_|refine aQ fun X Y ae af=>?_|refine aS ?_)|(with_reducible refine aU ?_;refine aM rfl rfl fun X Y ae af=>?_));simp (disch:=first|decide|omega|(simp only [List.length_cons,List.length_nil];omega)) only [go_sem,beq_self_eq_true,↓aj,↓ah hN,au hN,reduceIte,reduceCtorEq,Nat.reduceAdd,Nat.reduceLT,Nat.reduceLeDiff,Nat.reduceEqDiff,Nat.reduceSub])|(with_reducible refine And.intro (fun h=>?_) (fun h=>?_) <;> try (exfalso;omega))|(with_reducible refine bh aL hN rfl ?_ ?_;kernel_rfl)|(refine aA (j7 ?_ ?_ ?_) ?_ rfl (fun _=>rfl) ?_)|(refine aA (ng xs m m0 (by omega)) ?_ rfl (fun _=>rfl) ?_)|(with_reducible first|exact ak|refine ag ?_ ?_|exact aW _|refine ay ?_|exact ap _|exact aI _ _|refine aH ?_|exact am _)|exact az hN rfl rfl|(refine aG hN rfl ?_;first|exact aB _|exact aC _)|exact ao rfl rfl rfl|(simp only [aK,List.map_nil])|(with_reducible refine bz ?_)|(with_reducible refine And.intro ?_ ?_)|(refine aw ?_;omega)|(exact br hN (by decide))))
   all_goals (refine cB (.inr rfl) (by first|rfl|(simp (disch:=first|decide|omega|(simp only [List.length_cons,List.length_nil];omega)) only [cn,cx,cC,cJ,go_sem,beq_self_eq_true,↓aj,↓ah hN,au hN,reduceIte,reduceCtorEq,Nat.reduceAdd,Nat.reduceLT,Nat.reduceLeDiff,Nat.reduceEqDiff,Nat.reduceSub];rfl)) ?_)
   all_goals rfl
 · rw [ax (fun h=>hm h.1)]
   (refine bL aL Try.func135 rfl rfl (by kernel_rfl) fun hp0 ν hX hN=>?_;simp only [cW,Nat.reduceAdd])
   (repeat' (first|(with_reducible first|(refine hK _ _ ?_;clear hK K)|(refine aa _ ?_;clear aa K)|refine bf ?_|refine bQ ?_|refine aZ ?_|refine aE ?_|refine aD ?_|refine bR ?_|refine aP ?_|refine a8 ?_|refine bS ?_|refine a9 ?_|refine ba rfl ?_|refine bg ?_|refine bc ?_|refine bT ?_|refine bd ?_|refine aO ?_|refine n_k ?_|refine be ?_|(refine ae ?_;clear ae X af Y)|(refine af ?_;clear ae X af Y))|(with_reducible refine bm ?_;first|refine bi rfl ?_|refine bj rfl ?_)|(with_reducible refine aU ?_;first|refine aF rfl rfl rfl rfl ?_|refine aR rfl rfl rfl ?_|refine bp rfl rfl rfl rfl ?_)|((first|(with_reducible first|refine bn rfl rfl fun K hK=>?_|refine bo rfl rfl fun K aa=>?_|refine aQ fun X Y ae af=>?_|refine aS ?_)|(with_reducible refine aU ?_;refine aM rfl rfl fun X Y ae af=>?_));simp (disch:=first|decide|omega|(simp only [List.length_cons,List.length_nil];omega)) only [go_sem,beq_self_eq_true,↓aj,↓ah hN,au hN,reduceIte,reduceCtorEq,Nat.reduceAdd,Nat.reduceLT,Nat.reduceLeDiff,Nat.reduceEqDiff,Nat.reduceSub])|(with_reducible refine And.intro (fun h=>?_) (fun h=>?_) <;> try (exfalso;omega))|(with_reducible refine bh aL hN rfl ?_ ?_;kernel_rfl)|(refine aA (j7 ?_ ?_ ?_) ?_ rfl (fun _=>rfl) ?_)|(with_reducible first|exact ak|refine ag ?_ ?_|exact aW _|refine ay ?_|exact ap _|exact aI _ _|refine aH ?_|exact am _)|exact az hN rfl rfl|(refine aG hN rfl ?_;first|exact aB _|exact aC _)|exact ao rfl rfl rfl|(simp only [aK,List.map_nil])|(with_reducible refine bz ?_)|(with_reducible refine And.intro ?_ ?_)|(refine aw ?_;omega)|(exact br hN (by decide))))
   all_goals (refine cB (.inr rfl) (by first|rfl|(simp (disch:=first|decide|omega|(simp only [List.length_cons,List.length_nil];omega)) only [cn,cx,cC,cJ,go_sem,beq_self_eq_true,↓aj,↓ah hN,au hN,reduceIte,reduceCtorEq,Nat.reduceAdd,Nat.reduceLT,Nat.reduceLeDiff,Nat.reduceEqDiff,Nat.reduceSub];rfl)) ?_)
   all_goals first|rfl|(exfalso;omega)
theorem mj (g : Pa) : aN Try.prog 108 [paA g] [] (fun _=>.c (.bool (tf (gf g)))):=by
 (refine bL aL Try.func108 rfl rfl (by kernel_rfl) fun hp0 ν hX hN=>?_;simp only [cW,Nat.reduceAdd])
 (repeat' (first|(with_reducible first|(refine hK _ _ ?_;clear hK K)|(refine aa _ ?_;clear aa K)|refine bf ?_|refine bQ ?_|refine aZ ?_|refine aE ?_|refine aD ?_|refine bR ?_|refine aP ?_|refine a8 ?_|refine bS ?_|refine a9 ?_|refine ba rfl ?_|refine bg ?_|refine bc ?_|refine bT ?_|refine bd ?_|refine aO ?_|refine n_k ?_|refine be ?_|(refine ae ?_;clear ae X af Y)|(refine af ?_;clear ae X af Y))|(with_reducible refine bm ?_;first|refine bi rfl ?_|refine bj rfl ?_)|(with_reducible refine aU ?_;first|refine aF rfl rfl rfl rfl ?_|refine aR rfl rfl rfl ?_|refine bp rfl rfl rfl rfl ?_)|((first|(with_reducible first|refine bn rfl rfl fun K hK=>?_|refine bo rfl rfl fun K aa=>?_|refine aQ fun X Y ae af=>?_|refine aS ?_)|(with_reducible refine aU ?_;refine aM rfl rfl fun X Y ae af=>?_));simp (disch:=first|decide|omega|(simp only [List.length_cons,List.length_nil];omega)) only [go_sem,beq_self_eq_true,↓aj,↓ah hN,au hN,reduceIte,reduceCtorEq,Nat.reduceAdd,Nat.reduceLT,Nat.reduceLeDiff,Nat.reduceEqDiff,Nat.reduceSub])|(with_reducible refine And.intro (fun h=>?_) (fun h=>?_) <;> try (exfalso;omega))|(with_reducible refine bh aL hN rfl ?_ ?_;kernel_rfl)|(refine aA (mf ?_) ?_ rfl (fun _=>rfl) ?_)|(with_reducible first|exact ak|refine ag ?_ ?_|exact aW _|refine ay ?_|exact ap _|exact aI _ _|refine aH ?_|exact am _)|exact az hN rfl rfl|(refine aG hN rfl ?_;first|exact aB _|exact aC _)|exact ao rfl rfl rfl|(simp only [aK,List.map_nil])|(with_reducible refine bz ?_)|(with_reducible refine And.intro ?_ ?_)|(refine aw ?_;omega)|(exact br hN (by decide))))
 all_goals (refine cB (.inr rfl) (by first|rfl|(simp (disch:=first|decide|omega|(simp only [List.length_cons,List.length_nil];omega)) only [cn,cx,cC,cJ,go_sem,beq_self_eq_true,↓aj,↓ah hN,au hN,reduceIte,reduceCtorEq,Nat.reduceAdd,Nat.reduceLT,Nat.reduceLeDiff,Nat.reduceEqDiff,Nat.reduceSub];rfl)) ?_)
 · exact congrArg C.bool (fT ⟨fun h'=>⟨by assumption,by omega⟩,fun h'=>by have:=h'.2;omega⟩)
 · exact congrArg C.bool (ax fun h'=>absurd h'.1 (by assumption)).symm
theorem ml (g : Pa) : aN Try.prog 175 [paA g] [] (fun _=>.c (.bool (tf (gf g)))):=by
 (refine bL aL Try.func175 rfl rfl (by kernel_rfl) fun hp0 ν hX hN=>?_;simp only [cW,Nat.reduceAdd])
 (repeat' (first|(with_reducible first|(refine hK _ _ ?_;clear hK K)|(refine aa _ ?_;clear aa K)|refine bf ?_|refine bQ ?_|refine aZ ?_|refine aE ?_|refine aD ?_|refine bR ?_|refine aP ?_|refine a8 ?_|refine bS ?_|refine a9 ?_|refine ba rfl ?_|refine bg ?_|refine bc ?_|refine bT ?_|refine bd ?_|refine aO ?_|refine n_k ?_|refine be ?_|(refine ae ?_;clear ae X af Y)|(refine af ?_;clear ae X af Y))|(with_reducible refine bm ?_;first|refine bi rfl ?_|refine bj rfl ?_)|(with_reducible refine aU ?_;first|refine aF rfl rfl rfl rfl ?_|refine aR rfl rfl rfl ?_|refine bp rfl rfl rfl rfl ?_)|((first|(with_reducible first|refine bn rfl rfl fun K hK=>?_|refine bo rfl rfl fun K aa=>?_|refine aQ fun X Y ae af=>?_|refine aS ?_)|(with_reducible refine aU ?_;refine aM rfl rfl fun X Y ae af=>?_));simp (disch:=first|decide|omega|(simp only [List.length_cons,List.length_nil];omega)) only [go_sem,beq_self_eq_true,↓aj,↓ah hN,au hN,reduceIte,reduceCtorEq,Nat.reduceAdd,Nat.reduceLT,Nat.reduceLeDiff,Nat.reduceEqDiff,Nat.reduceSub])|(with_reducible refine And.intro (fun h=>?_) (fun h=>?_) <;> try (exfalso;omega))|(with_reducible refine bh aL hN rfl ?_ ?_;kernel_rfl)|(refine aA (mg ?_) ?_ rfl (fun _=>rfl) ?_)|(with_reducible first|exact ak|refine ag ?_ ?_|exact aW _|refine ay ?_|exact ap _|exact aI _ _|refine aH ?_|exact am _)|exact az hN rfl rfl|(refine aG hN rfl ?_;first|exact aB _|exact aC _)|exact ao rfl rfl rfl|(simp only [aK,List.map_nil])|(with_reducible refine bz ?_)|(with_reducible refine And.intro ?_ ?_)|(refine aw ?_;omega)|(exact br hN (by decide))))
 all_goals (refine cB (.inr rfl) (by first|rfl|(simp (disch:=first|decide|omega|(simp only [List.length_cons,List.length_nil];omega)) only [cn,cx,cC,cJ,go_sem,beq_self_eq_true,↓aj,↓ah hN,au hN,reduceIte,reduceCtorEq,Nat.reduceAdd,Nat.reduceLT,Nat.reduceLeDiff,Nat.reduceEqDiff,Nat.reduceSub];rfl)) ?_)
 · exact congrArg C.bool (dC ⟨fun h'=>⟨h',by omega⟩,fun h'=>h'.1⟩)
 · exact congrArg C.bool (ax fun h'=>by have:=h'.2;omega).symm
theorem j8 (a : Ar) : aN Try.prog 160 [arA a] [] (fun _=>.c (.int .i64 a.own.length)):=by
 (refine bL aL Try.func160 rfl rfl (by kernel_rfl) fun hp0 ν hX hN=>?_;simp only [cW,Nat.reduceAdd])
 (repeat' (first|(with_reducible first|(refine hK _ _ ?_;clear hK K)|(refine aa _ ?_;clear aa K)|refine bf ?_|refine bQ ?_|refine aZ ?_|refine aE ?_|refine aD ?_|refine bR ?_|refine aP ?_|refine a8 ?_|refine bS ?_|refine a9 ?_|refine ba rfl ?_|refine bg ?_|refine bc ?_|refine bT ?_|refine bd ?_|refine aO ?_|refine n_k ?_|refine be ?_|(refine ae ?_;clear ae X af Y)|(refine af ?_;clear ae X af Y))|(with_reducible refine bm ?_;first|refine bi rfl ?_|refine bj rfl ?_)|(with_reducible refine aU ?_;first|refine aF rfl rfl rfl rfl ?_|refine aR rfl rfl rfl ?_|refine bp rfl rfl rfl rfl ?_)|((first|(with_reducible first|refine bn rfl rfl fun K hK=>?_|refine bo rfl rfl fun K aa=>?_|refine aQ fun X Y ae af=>?_|refine aS ?_));simp (disch:=first|decide|omega|(simp only [List.length_cons,List.length_nil];omega)) only [go_sem,beq_self_eq_true,↓aj,↓ah hN,au hN,reduceIte,reduceCtorEq,Nat.reduceAdd,Nat.reduceLT,Nat.reduceLeDiff,Nat.reduceEqDiff,Nat.reduceSub])|(with_reducible refine And.intro (fun h=>?_) (fun h=>?_) <;> try (exfalso;omega))|(with_reducible refine bh aL hN rfl ?_ ?_;kernel_rfl)|(with_reducible refine And.intro ?_ ?_)|(refine aw ?_;omega)|(exact br hN (by decide))))
 (refine cB (.inr rfl) (by first|rfl|(simp (disch:=first|decide|omega|(simp only [List.length_cons,List.length_nil];omega)) only [cn,cx,cC,cJ,go_sem,beq_self_eq_true,↓aj,↓ah hN,au hN,reduceIte,reduceCtorEq,Nat.reduceAdd,Nat.reduceLT,Nat.reduceLeDiff,Nat.reduceEqDiff,Nat.reduceSub];rfl)) ?_)
 rfl
theorem ni (a : Ar) (x : Int) : aN Try.prog 96 [arA a,.c (.int .i64 x)] [] (fun _=>.c (.bool (tf (eO a.own.length x)))):=by
 (refine bL aL Try.func96 rfl rfl (by kernel_rfl) fun hp0 ν hX hN=>?_;simp only [cW,Nat.reduceAdd])
 (repeat' (first|(with_reducible first|(refine hK _ _ ?_;clear hK K)|(refine aa _ ?_;clear aa K)|refine bf ?_|refine bQ ?_|refine aZ ?_|refine aE ?_|refine aD ?_|refine bR ?_|refine aP ?_|refine a8 ?_|refine bS ?_|refine a9 ?_|refine ba rfl ?_|refine bg ?_|refine bc ?_|refine bT ?_|refine bd ?_|refine aO ?_|refine n_k ?_|refine be ?_|(refine ae ?_;clear ae X af Y)|(refine af ?_;clear ae X af Y))|(with_reducible refine bm ?_;first|refine bi rfl ?_|refine bj rfl ?_)|(with_reducible refine aU ?_;first|refine aF rfl rfl rfl rfl ?_|refine aR rfl rfl rfl ?_|refine bp rfl rfl rfl rfl ?_)|((first|(with_reducible first|refine bn rfl rfl fun K hK=>?_|refine bo rfl rfl fun K aa=>?_|refine aQ fun X Y ae af=>?_|refine aS ?_)|(with_reducible refine aU ?_;refine aM rfl rfl fun X Y ae af=>?_));simp (disch:=first|decide|omega|(simp only [List.length_cons,List.length_nil];omega)) only [go_sem,beq_self_eq_true,↓aj,↓ah hN,au hN,reduceIte,reduceCtorEq,Nat.reduceAdd,Nat.reduceLT,Nat.reduceLeDiff,Nat.reduceEqDiff,Nat.reduceSub])|(with_reducible refine And.intro (fun h=>?_) (fun h=>?_) <;> try (exfalso;omega))|(with_reducible refine bh aL hN rfl ?_ ?_;kernel_rfl)|(refine aA (j8 ?_) ?_ rfl (fun _=>rfl) ?_)|(with_reducible first|exact ak|refine ag ?_ ?_|exact aW _|refine ay ?_|exact ap _|exact aI _ _|refine aH ?_|exact am _)|exact az hN rfl rfl|(refine aG hN rfl ?_;first|exact aB _|exact aC _)|exact ao rfl rfl rfl|(simp only [aK,List.map_nil])|(with_reducible refine bz ?_)|(with_reducible refine And.intro ?_ ?_)|(refine aw ?_;omega)|(exact br hN (by decide))))
 all_goals (refine cB (.inr rfl) (by first|rfl|(simp (disch:=first|decide|omega|(simp only [List.length_cons,List.length_nil];omega)) only [cn,cx,cC,cJ,go_sem,beq_self_eq_true,↓aj,↓ah hN,au hN,reduceIte,reduceCtorEq,Nat.reduceAdd,Nat.reduceLT,Nat.reduceLeDiff,Nat.reduceEqDiff,Nat.reduceSub];rfl)) ?_)
 · exact congrArg C.bool (fT ⟨fun h'=>⟨by omega,by omega⟩,fun h'=>h'.2⟩)
 · exact congrArg C.bool (ax fun h'=>by have:=h'.1;omega).symm
end Go.Proofs.Ytfaefmabjjndeaa
namespace Go.Proofs.Ytfaefmabjjndeaa
set_option linter.unusedVariables false
set_option linter.unusedSimpArgs false
open Go.RowKit
attribute [local irreducible] aN cA Aw Le
end Go.Proofs.Ytfaefmabjjndeaa
namespace Go.Proofs.Ytfaefmabjjndeaa
set_option linter.unusedVariables false
set_option linter.unusedSimpArgs false
open Go.RowKit
end Go.Proofs.Ytfaefmabjjndeaa
namespace Go.Proofs.Ytfaefmabjjndeaa
set_option linter.unusedVariables false
set_option linter.unusedSimpArgs false
open Go.RowKit
end Go.Proofs.Ytfaefmabjjndeaa
