/-
  The reference's games with links both ways: what its functions return.
-/
import Derived.Test.YtiadchinhofieaaZqFc
import Derived.Test.YtiadchinhofieaaZqCg
import Derived.Test.YtiadchinhofieaaZqCb
import Derived.Test.YtiadchinhofieaaZqSd
namespace Go.Proofs.Ytiadchinhofieaa
set_option linter.unusedVariables false
set_option linter.unusedSimpArgs false
open Go.RowKit
attribute [local irreducible] bt cU Aw Le
end Go.Proofs.Ytiadchinhofieaa
namespace Go.Proofs.Ytiadchinhofieaa
set_option linter.unusedVariables false
set_option linter.unusedSimpArgs false
open Go.RowKit
end Go.Proofs.Ytiadchinhofieaa
namespace Go.Proofs.Ytiadchinhofieaa
set_option linter.unusedVariables false
set_option linter.unusedSimpArgs false
open Go.RowKit
attribute [local irreducible] bt cU Aw Le
theorem uL {φ : Nat → Loc} {hp : Hp} {w : World} {a : AV} {vs : List Value} (h : AVs φ hp w [a] vs) : ∃ v,vs = [v] ∧ AVC φ hp w a v:=by
 match vs,h with
 | [v], .cons h .nil => exact ⟨v, rfl, h⟩
theorem sR {φ : Nat → Loc} {hp : Hp} {w : World} {a b : AV} {vs : List Value} (h : AVs φ hp w [a,b] vs) : ∃ v u,vs = [v,u] ∧ AVC φ hp w a v ∧ AVC φ hp w b u:=by
 match vs,h with
 | [v, u], .cons h (.cons k .nil) => exact ⟨v, u, rfl, h, k⟩
theorem zD {φ : Nat → Loc} {hp : Hp} {w : World} {a b c : AV} {vs : List Value} (h : AVs φ hp w [a,b,c] vs) : ∃ v u x,vs = [v,u,x] ∧ AVC φ hp w a v ∧ AVC φ hp w b u ∧ AVC φ hp w c x:=by
 match vs,h with
 | [v, u, x], .cons h (.cons k (.cons l .nil)) => exact ⟨v, u, x, rfl, h, k, l⟩
theorem iQ (x lo hi : Int) : bt Try.prog 99 [.c (.int .i64 x),.c (.int .i64 lo),.c (.int .i64 hi)] [] (fun _=>.c (.bool (tf (lo ≤ x ∧ x ≤ hi)))) :=
 eX Try.func99 rfl rfl (u:=.bool _) (fun O w=>.bool _) fun φ hp w vs h=>by
  obtain ⟨a,b,c,rfl,h1,h2,h3⟩:=zD h
  obtain rfl:=cW h1
  obtain rfl:=cW h2
  obtain rfl:=cW h3
  exact (nl x lo hi w).mono fun e w' ⟨he,hw⟩=>⟨he,by rw [← hw];exact Below.refl _ _⟩
theorem sS (g : Pa) : bt Try.prog 61 [paA g] [] (fun _=>.c (.bool (tf (PaOk g)))) :=
 eX Try.func61 rfl rfl (u:=.bool _) (fun O w=>.bool _) fun φ hp w vs h=>by
  obtain ⟨a,rfl,h1⟩:=uL h
  exact vN a g w (yp h1)
theorem sT (g : Pa) : bt Try.prog 59 [paA g] [] (fun _=>.c (.bool (tf (PaOk g)))) :=
 eX Try.func59 rfl rfl (u:=.bool _) (fun O w=>.bool _) fun φ hp w vs h=>by
  obtain ⟨a,rfl,h1⟩:=uL h
  exact (vO a g w (yp h1)).mono fun e w' h=>h
theorem qg (a : Ar) : bt Try.prog 77 [arA a] [] (fun _=>.c (.bool (tf (ArOk a)))) :=
 eX Try.func77 rfl rfl (u:=.bool _) (fun O w=>.bool _) fun φ hp w vs h=>by
  obtain ⟨v,rfl,h1⟩:=uL h
  exact (mo v a w (yn h1)).mono fun e w' h=>h
theorem uM (xs : List Int) (m : Int) (h0 : 0 ≤ m) (h1 : m ≤ 1048576) : bt Try.prog 120 [.c (.I xs),.c (.int .i64 m)] [] (fun _=>.c (.bool (tf (cT xs m)))) :=
 eX Try.func120 rfl rfl (u:=.bool _) (fun O w=>.bool _) fun φ hp w vs h=>by
  obtain ⟨a,b,rfl,h1,h2⟩:=sR h
  obtain rfl:=cW h2
  obtain ⟨sa,n,c,rfl,hI⟩:=mN (dT h1)
  exact (jC sa n c xs m w hI h0 (by omega)).mono fun e w' h=>h.bb
theorem qi (xs : List Int) (m : Int) : bt Try.prog 98 [.c (.I xs),.c (.int .i64 m)] [] (fun _=>.c (.bool (tf ((0 ≤ m ∧ m ≤ 256) ∧ cT xs m)))):=by
 by_cases hm : 0 ≤ m ∧ m ≤ 256
 · rw [show tf ((0 ≤ m ∧ m ≤ 256) ∧ cT xs m) = tf (cT xs m) from c7 ⟨fun h=>h.2,fun h=>⟨hm,h⟩⟩]
   obtain ⟨m0,m1⟩:=hm
   (refine bR aG Try.func98 rfl rfl (by kernel_rfl) fun hp0 ν hX hN=>?_;simp only [cI,Nat.reduceAdd])
   (repeat' (first|(with_reducible first|(refine hK _ _ ?_;clear hK K)|(refine aa _ ?_;clear aa K)|refine bd ?_|refine bG ?_|refine aV ?_|refine az ?_|refine ay ?_|refine bH ?_|refine aI ?_|refine aW ?_|refine bI ?_|refine aX ?_|refine aY rfl ?_|refine be ?_|refine aZ ?_|refine bJ ?_|refine ba ?_|refine aH ?_|refine n_k ?_|refine bc ?_|(refine ae ?_;clear ae X af Y)|(refine af ?_;clear ae X af Y))|(with_reducible refine bi ?_;first|refine bg rfl ?_|refine bh rfl ?_)|(with_reducible refine aQ ?_;first|refine aA rfl rfl rfl rfl ?_|refine aK rfl rfl rfl ?_|refine bn rfl rfl rfl rfl ?_)|((first|(with_reducible first|refine bj rfl rfl fun K hK=>?_|refine bm rfl rfl fun K aa=>?_|refine aJ fun X Y ae af=>?_|refine aL ?_)|(with_reducible refine aQ ?_;refine aT rfl rfl fun X Y ae af=>?_));simp (disch:=first|decide|omega|(simp only [List.length_cons,List.length_nil];omega)) only [go_sem,beq_self_eq_true,↓ag,↓ak hN,ao hN,reduceIte,reduceCtorEq,Nat.reduceAdd,Nat.reduceLT,Nat.reduceLeDiff,Nat.reduceEqDiff,Nat.reduceSub])|(with_reducible refine And.intro (fun h=>?_) (fun h=>?_) <;> try (exfalso;omega))|(with_reducible refine bf aG hN rfl ?_ ?_;kernel_rfl)|(refine aD (iQ ?_ ?_ ?_) ?_ rfl (fun _=>rfl) ?_)|(refine aD (uM xs m m0 (by omega)) ?_ rfl (fun _=>rfl) ?_)|(with_reducible first|exact am|refine ah ?_ ?_|exact br _|refine aw ?_|exact au _|exact aO _ _|refine aN ?_|exact ap _)|exact ax hN rfl rfl|(refine aM hN rfl ?_;first|exact aE _|exact aF _)|exact aq rfl rfl rfl|(simp only [bE,List.map_nil])|(with_reducible refine bD ?_)|(with_reducible refine And.intro ?_ ?_)|(refine aj ?_;omega)|(exact bo hN (by decide))))
   all_goals (refine cJ (.inr rfl) (by first|rfl|(simp (disch:=first|decide|omega|(simp only [List.length_cons,List.length_nil];omega)) only [cB,cC,cD,cE,go_sem,beq_self_eq_true,↓ag,↓ak hN,ao hN,reduceIte,reduceCtorEq,Nat.reduceAdd,Nat.reduceLT,Nat.reduceLeDiff,Nat.reduceEqDiff,Nat.reduceSub];rfl)) ?_)
   all_goals rfl
 · rw [aC (fun h=>hm h.1)]
   (refine bR aG Try.func98 rfl rfl (by kernel_rfl) fun hp0 ν hX hN=>?_;simp only [cI,Nat.reduceAdd])
   (repeat' (first|(with_reducible first|(refine hK _ _ ?_;clear hK K)|(refine aa _ ?_;clear aa K)|refine bd ?_|refine bG ?_|refine aV ?_|refine az ?_|refine ay ?_|refine bH ?_|refine aI ?_|refine aW ?_|refine bI ?_|refine aX ?_|refine aY rfl ?_|refine be ?_|refine aZ ?_|refine bJ ?_|refine ba ?_|refine aH ?_|refine n_k ?_|refine bc ?_|(refine ae ?_;clear ae X af Y)|(refine af ?_;clear ae X af Y))|(with_reducible refine bi ?_;first|refine bg rfl ?_|refine bh rfl ?_)|(with_reducible refine aQ ?_;first|refine aA rfl rfl rfl rfl ?_|refine aK rfl rfl rfl ?_|refine bn rfl rfl rfl rfl ?_)|((first|(with_reducible first|refine bj rfl rfl fun K hK=>?_|refine bm rfl rfl fun K aa=>?_|refine aJ fun X Y ae af=>?_|refine aL ?_)|(with_reducible refine aQ ?_;refine aT rfl rfl fun X Y ae af=>?_));simp (disch:=first|decide|omega|(simp only [List.length_cons,List.length_nil];omega)) only [go_sem,beq_self_eq_true,↓ag,↓ak hN,ao hN,reduceIte,reduceCtorEq,Nat.reduceAdd,Nat.reduceLT,Nat.reduceLeDiff,Nat.reduceEqDiff,Nat.reduceSub])|(with_reducible refine And.intro (fun h=>?_) (fun h=>?_) <;> try (exfalso;omega))|(with_reducible refine bf aG hN rfl ?_ ?_;kernel_rfl)|(refine aD (iQ ?_ ?_ ?_) ?_ rfl (fun _=>rfl) ?_)|(with_reducible first|exact am|refine ah ?_ ?_|exact br _|refine aw ?_|exact au _|exact aO _ _|refine aN ?_|exact ap _)|exact ax hN rfl rfl|(refine aM hN rfl ?_;first|exact aE _|exact aF _)|exact aq rfl rfl rfl|(simp only [bE,List.map_nil])|(with_reducible refine bD ?_)|(with_reducible refine And.intro ?_ ?_)|(refine aj ?_;omega)|(exact bo hN (by decide))))
   all_goals (refine cJ (.inr rfl) (by first|rfl|(simp (disch:=first|decide|omega|(simp only [List.length_cons,List.length_nil];omega)) only [cB,cC,cD,cE,go_sem,beq_self_eq_true,↓ag,↓ak hN,ao hN,reduceIte,reduceCtorEq,Nat.reduceAdd,Nat.reduceLT,Nat.reduceLeDiff,Nat.reduceEqDiff,Nat.reduceSub];rfl)) ?_)
   all_goals first|rfl|(exfalso;omega)
theorem gg (g : Pa) : bt Try.prog 84 [paA g] [] (fun _=>.c (.bool (tf (dG g)))):=by
 (refine bR aG Try.func84 rfl rfl (by kernel_rfl) fun hp0 ν hX hN=>?_;simp only [cI,Nat.reduceAdd])
 (repeat' (first|(with_reducible first|(refine hK _ _ ?_;clear hK K)|(refine aa _ ?_;clear aa K)|refine bd ?_|refine bG ?_|refine aV ?_|refine az ?_|refine ay ?_|refine bH ?_|refine aI ?_|refine aW ?_|refine bI ?_|refine aX ?_|refine aY rfl ?_|refine be ?_|refine aZ ?_|refine bJ ?_|refine ba ?_|refine aH ?_|refine n_k ?_|refine bc ?_|(refine ae ?_;clear ae X af Y)|(refine af ?_;clear ae X af Y))|(with_reducible refine bi ?_;first|refine bg rfl ?_|refine bh rfl ?_)|(with_reducible refine aQ ?_;first|refine aA rfl rfl rfl rfl ?_|refine aK rfl rfl rfl ?_|refine bn rfl rfl rfl rfl ?_)|((first|(with_reducible first|refine bj rfl rfl fun K hK=>?_|refine bm rfl rfl fun K aa=>?_|refine aJ fun X Y ae af=>?_|refine aL ?_)|(with_reducible refine aQ ?_;refine aT rfl rfl fun X Y ae af=>?_));simp (disch:=first|decide|omega|(simp only [List.length_cons,List.length_nil];omega)) only [go_sem,beq_self_eq_true,↓ag,↓ak hN,ao hN,reduceIte,reduceCtorEq,Nat.reduceAdd,Nat.reduceLT,Nat.reduceLeDiff,Nat.reduceEqDiff,Nat.reduceSub])|(with_reducible refine And.intro (fun h=>?_) (fun h=>?_) <;> try (exfalso;omega))|(with_reducible refine bf aG hN rfl ?_ ?_;kernel_rfl)|(refine aD (sS ?_) ?_ rfl (fun _=>rfl) ?_)|(with_reducible first|exact am|refine ah ?_ ?_|exact br _|refine aw ?_|exact au _|exact aO _ _|refine aN ?_|exact ap _)|exact ax hN rfl rfl|(refine aM hN rfl ?_;first|exact aE _|exact aF _)|exact aq rfl rfl rfl|(simp only [bE,List.map_nil])|(with_reducible refine bD ?_)|(with_reducible refine And.intro ?_ ?_)|(refine aj ?_;omega)|(exact bo hN (by decide))))
 all_goals (refine cJ (.inr rfl) (by first|rfl|(simp (disch:=first|decide|omega|(simp only [List.length_cons,List.length_nil];omega)) only [cB,cC,cD,cE,go_sem,beq_self_eq_true,↓ag,↓ak hN,ao hN,reduceIte,reduceCtorEq,Nat.reduceAdd,Nat.reduceLT,Nat.reduceLeDiff,Nat.reduceEqDiff,Nat.reduceSub];rfl)) ?_)
 · exact congrArg C.bool (g6 ⟨fun h'=>⟨by assumption,by omega⟩,fun h'=>by have:=h'.2;omega⟩)
 · exact congrArg C.bool (aC fun h'=>absurd h'.1 (by assumption)).symm
theorem g7 (g : Pa) : bt Try.prog 80 [paA g] [] (fun _=>.c (.bool (tf (dG g)))):=by
 (refine bR aG Try.func80 rfl rfl (by kernel_rfl) fun hp0 ν hX hN=>?_;simp only [cI,Nat.reduceAdd])
 (repeat' (first|(with_reducible first|(refine hK _ _ ?_;clear hK K)|(refine aa _ ?_;clear aa K)|refine bd ?_|refine bG ?_|refine aV ?_|refine az ?_|refine ay ?_|refine bH ?_|refine aI ?_|refine aW ?_|refine bI ?_|refine aX ?_|refine aY rfl ?_|refine be ?_|refine aZ ?_|refine bJ ?_|refine ba ?_|refine aH ?_|refine n_k ?_|refine bc ?_|(refine ae ?_;clear ae X af Y)|(refine af ?_;clear ae X af Y))|(with_reducible refine bi ?_;first|refine bg rfl ?_|refine bh rfl ?_)|(with_reducible refine aQ ?_;first|refine aA rfl rfl rfl rfl ?_|refine aK rfl rfl rfl ?_|refine bn rfl rfl rfl rfl ?_)|((first|(with_reducible first|refine bj rfl rfl fun K hK=>?_|refine bm rfl rfl fun K aa=>?_|refine aJ fun X Y ae af=>?_|refine aL ?_)|(with_reducible refine aQ ?_;refine aT rfl rfl fun X Y ae af=>?_));simp (disch:=first|decide|omega|(simp only [List.length_cons,List.length_nil];omega)) only [go_sem,beq_self_eq_true,↓ag,↓ak hN,ao hN,reduceIte,reduceCtorEq,Nat.reduceAdd,Nat.reduceLT,Nat.reduceLeDiff,Nat.reduceEqDiff,Nat.reduceSub])|(with_reducible refine And.intro (fun h=>?_) (fun h=>?_) <;> try (exfalso;omega))|(with_reducible refine bf aG hN rfl ?_ ?_;kernel_rfl)|(refine aD (sT ?_) ?_ rfl (fun _=>rfl) ?_)|(with_reducible first|exact am|refine ah ?_ ?_|exact br _|refine aw ?_|exact au _|exact aO _ _|refine aN ?_|exact ap _)|exact ax hN rfl rfl|(refine aM hN rfl ?_;first|exact aE _|exact aF _)|exact aq rfl rfl rfl|(simp only [bE,List.map_nil])|(with_reducible refine bD ?_)|(with_reducible refine And.intro ?_ ?_)|(refine aj ?_;omega)|(exact bo hN (by decide))))
 all_goals (refine cJ (.inr rfl) (by first|rfl|(simp (disch:=first|decide|omega|(simp only [List.length_cons,List.length_nil];omega)) only [cB,cC,cD,cE,go_sem,beq_self_eq_true,↓ag,↓ak hN,ao hN,reduceIte,reduceCtorEq,Nat.reduceAdd,Nat.reduceLT,Nat.reduceLeDiff,Nat.reduceEqDiff,Nat.reduceSub];rfl)) ?_)
 · exact congrArg C.bool (c7 ⟨fun h'=>⟨h',by omega⟩,fun h'=>h'.1⟩)
 · exact congrArg C.bool (aC fun h'=>by have:=h'.2;omega).symm
theorem sU (a : Ar) : bt Try.prog 104 [arA a] [] (fun _=>.c (.int .i64 a.own.length)):=by
 (refine bR aG Try.func104 rfl rfl (by kernel_rfl) fun hp0 ν hX hN=>?_;simp only [cI,Nat.reduceAdd])
 (repeat' (first|(with_reducible first|(refine hK _ _ ?_;clear hK K)|(refine aa _ ?_;clear aa K)|refine bd ?_|refine bG ?_|refine aV ?_|refine az ?_|refine ay ?_|refine bH ?_|refine aI ?_|refine aW ?_|refine bI ?_|refine aX ?_|refine aY rfl ?_|refine be ?_|refine aZ ?_|refine bJ ?_|refine ba ?_|refine aH ?_|refine n_k ?_|refine bc ?_|(refine ae ?_;clear ae X af Y)|(refine af ?_;clear ae X af Y))|(with_reducible refine bi ?_;first|refine bg rfl ?_|refine bh rfl ?_)|(with_reducible refine aQ ?_;first|refine aA rfl rfl rfl rfl ?_|refine aK rfl rfl rfl ?_|refine bn rfl rfl rfl rfl ?_)|((first|(with_reducible first|refine bj rfl rfl fun K hK=>?_|refine bm rfl rfl fun K aa=>?_|refine aJ fun X Y ae af=>?_|refine aL ?_));simp (disch:=first|decide|omega|(simp only [List.length_cons,List.length_nil];omega)) only [go_sem,beq_self_eq_true,↓ag,↓ak hN,ao hN,reduceIte,reduceCtorEq,Nat.reduceAdd,Nat.reduceLT,Nat.reduceLeDiff,Nat.reduceEqDiff,Nat.reduceSub])|(with_reducible refine And.intro (fun h=>?_) (fun h=>?_) <;> try (exfalso;omega))|(with_reducible refine bf aG hN rfl ?_ ?_;kernel_rfl)|(with_reducible refine And.intro ?_ ?_)|(refine aj ?_;omega)|(exact bo hN (by decide))))
 (refine cJ (.inr rfl) (by first|rfl|(simp (disch:=first|decide|omega|(simp only [List.length_cons,List.length_nil];omega)) only [cB,cC,cD,cE,go_sem,beq_self_eq_true,↓ag,↓ak hN,ao hN,reduceIte,reduceCtorEq,Nat.reduceAdd,Nat.reduceLT,Nat.reduceLeDiff,Nat.reduceEqDiff,Nat.reduceSub];rfl)) ?_)
 rfl
theorem qj (a : Ar) (x : Int) : bt Try.prog 62 [arA a,.c (.int .i64 x)] [] (fun _=>.c (.bool (tf (ff a.own.length x)))):=by
 (refine bR aG Try.func62 rfl rfl (by kernel_rfl) fun hp0 ν hX hN=>?_;simp only [cI,Nat.reduceAdd])
 (repeat' (first|(with_reducible first|(refine hK _ _ ?_;clear hK K)|(refine aa _ ?_;clear aa K)|refine bd ?_|refine bG ?_|refine aV ?_|refine az ?_|refine ay ?_|refine bH ?_|refine aI ?_|refine aW ?_|refine bI ?_|refine aX ?_|refine aY rfl ?_|refine be ?_|refine aZ ?_|refine bJ ?_|refine ba ?_|refine aH ?_|refine n_k ?_|refine bc ?_|(refine ae ?_;clear ae X af Y)|(refine af ?_;clear ae X af Y))|(with_reducible refine bi ?_;first|refine bg rfl ?_|refine bh rfl ?_)|(with_reducible refine aQ ?_;first|refine aA rfl rfl rfl rfl ?_|refine aK rfl rfl rfl ?_|refine bn rfl rfl rfl rfl ?_)|((first|(with_reducible first|refine bj rfl rfl fun K hK=>?_|refine bm rfl rfl fun K aa=>?_|refine aJ fun X Y ae af=>?_|refine aL ?_)|(with_reducible refine aQ ?_;refine aT rfl rfl fun X Y ae af=>?_));simp (disch:=first|decide|omega|(simp only [List.length_cons,List.length_nil];omega)) only [go_sem,beq_self_eq_true,↓ag,↓ak hN,ao hN,reduceIte,reduceCtorEq,Nat.reduceAdd,Nat.reduceLT,Nat.reduceLeDiff,Nat.reduceEqDiff,Nat.reduceSub])|(with_reducible refine And.intro (fun h=>?_) (fun h=>?_) <;> try (exfalso;omega))|(with_reducible refine bf aG hN rfl ?_ ?_;kernel_rfl)|(refine aD (sU ?_) ?_ rfl (fun _=>rfl) ?_)|(with_reducible first|exact am|refine ah ?_ ?_|exact br _|refine aw ?_|exact au _|exact aO _ _|refine aN ?_|exact ap _)|exact ax hN rfl rfl|(refine aM hN rfl ?_;first|exact aE _|exact aF _)|exact aq rfl rfl rfl|(simp only [bE,List.map_nil])|(with_reducible refine bD ?_)|(with_reducible refine And.intro ?_ ?_)|(refine aj ?_;omega)|(exact bo hN (by decide))))
 all_goals (refine cJ (.inr rfl) (by first|rfl|(simp (disch:=first|decide|omega|(simp only [List.length_cons,List.length_nil];omega)) only [cB,cC,cD,cE,go_sem,beq_self_eq_true,↓ag,↓ak hN,ao hN,reduceIte,reduceCtorEq,Nat.reduceAdd,Nat.reduceLT,Nat.reduceLeDiff,Nat.reduceEqDiff,Nat.reduceSub];rfl)) ?_)
 · exact congrArg C.bool (g6 ⟨fun h'=>⟨by omega,by omega⟩,fun h'=>h'.2⟩)
 · exact congrArg C.bool (aC fun h'=>by have:=h'.1;omega).symm
end Go.Proofs.Ytiadchinhofieaa
namespace Go.Proofs.Ytiadchinhofieaa
set_option linter.unusedVariables false
set_option linter.unusedSimpArgs false
open Go.RowKit
attribute [local irreducible] bt cU Aw Le
end Go.Proofs.Ytiadchinhofieaa
namespace Go.Proofs.Ytiadchinhofieaa
set_option linter.unusedVariables false
set_option linter.unusedSimpArgs false
open Go.RowKit
end Go.Proofs.Ytiadchinhofieaa
namespace Go.Proofs.Ytiadchinhofieaa
set_option linter.unusedVariables false
set_option linter.unusedSimpArgs false
open Go.RowKit
end Go.Proofs.Ytiadchinhofieaa
