/-
  Dominions: the won region is one, and every one is a part of it.
-/
import Derived.Test.YtiadchinhofieaaZqG3
import Derived.Test.YtiadchinhofieaaZqE13
import Derived.Test.YtiadchinhofieaaZqE15
import Derived.Test.YtiadchinhofieaaZqD3
namespace Go.Proofs.Ytiadchinhofieaa
set_option linter.unusedVariables false
set_option linter.unusedSimpArgs false
open Go.RowKit
attribute [local irreducible] bt cU Aw Le
theorem vz (bs : List Int) (hl : bs.length ≤ 9223372036854775807) : bt Try.prog 25 [.c (.Y bs)] [] (fun _=>.c (.bool (decide ((bs.length : Int) > 4096)))):=by
 (refine bR aG Try.func25 rfl rfl (by kernel_rfl) fun hp0 ν hX hN=>?_;simp only [cI,Nat.reduceAdd])
 (repeat' (first|(with_reducible first|(refine hK _ _ ?_;clear hK K)|(refine aa _ ?_;clear aa K)|refine bd ?_|refine bG ?_|refine aV ?_|refine az ?_|refine ay ?_|refine bH ?_|refine aI ?_|refine aW ?_|refine bI ?_|refine aX ?_|refine aY rfl ?_|refine be ?_|refine aZ ?_|refine bJ ?_|refine ba ?_|refine aH ?_|refine n_k ?_|refine bc ?_|(refine ae ?_;clear ae X af Y)|(refine af ?_;clear ae X af Y))|(with_reducible refine bi ?_;first|refine bg rfl ?_|refine bh rfl ?_)|(with_reducible refine aQ ?_;first|refine aA rfl rfl rfl rfl ?_|refine aK rfl rfl rfl ?_|refine bn rfl rfl rfl rfl ?_)|((first|(with_reducible first|refine bj rfl rfl fun K hK=>?_|refine bm rfl rfl fun K aa=>?_|refine aJ fun X Y ae af=>?_|refine aL ?_));simp (disch:=first|decide|omega|(simp only [List.length_cons,List.length_nil];omega)) only [go_sem,beq_self_eq_true,↓ag,↓ak hN,ao hN,reduceIte,reduceCtorEq,Nat.reduceAdd,Nat.reduceLT,Nat.reduceLeDiff,Nat.reduceEqDiff,Nat.reduceSub])|(with_reducible refine And.intro (fun h=>?_) (fun h=>?_) <;> try (exfalso;omega))|(with_reducible refine bf aG hN rfl ?_ ?_;kernel_rfl)|(with_reducible refine And.intro ?_ ?_)|(refine aj ?_;omega)|(exact bo hN (by decide))))
 (refine cJ (.inr rfl) (by first|rfl|(simp (disch:=first|decide|omega|(simp only [List.length_cons,List.length_nil];omega)) only [cB,cC,cD,cE,go_sem,beq_self_eq_true,↓ag,↓ak hN,ao hN,reduceIte,reduceCtorEq,Nat.reduceAdd,Nat.reduceLT,Nat.reduceLeDiff,Nat.reduceEqDiff,Nat.reduceSub];rfl)) ?_)
 rfl
theorem pt (xs ys : List Int) (hl : xs.length ≤ 1048576) : bt Try.prog 56 [.c (.I xs),.c (.I ys)] [] (fun _=>.c (.bool (tf (xs = ys)))):=by
 (refine bR aG Try.func56 rfl rfl (by kernel_rfl) fun hp0 ν hX hN=>?_;simp only [cI,Nat.reduceAdd])
 (repeat' (first|(with_reducible first|(refine hK _ _ ?_;clear hK K)|(refine aa _ ?_;clear aa K)|(refine ab _ _ _ ?_;clear ab K)|(refine ac _ _ ?_;clear ac K)|refine bd ?_|refine bG ?_|refine aV ?_|refine az ?_|refine ay ?_|refine bH ?_|refine aI ?_|refine aW ?_|refine bI ?_|refine aX ?_|refine aY rfl ?_|refine be ?_|refine aZ ?_|refine bJ ?_|refine ba ?_|refine aH ?_|refine n_k ?_|refine bc ?_|(refine ae ?_;clear ae X af Y)|(refine af ?_;clear ae X af Y))|(with_reducible refine bi ?_;first|refine bg rfl ?_|refine bh rfl ?_)|(with_reducible refine aQ ?_;first|refine aA rfl rfl rfl rfl ?_|refine aK rfl rfl rfl ?_|refine bn rfl rfl rfl rfl ?_)|(with_reducible refine bF ?_;first|refine aS rfl rfl rfl rfl ?_|refine bC rfl rfl rfl ?_|refine bV rfl rfl rfl rfl ?_|refine bW hN (by apply Exists.intro;apply And.intro;(repeat' (first|apply FtI.nil|apply FI.nil|apply FI.cons|apply FtI.cons));kernel_rfl) ?_)|((first|(with_reducible first|refine bj rfl rfl fun K hK=>?_|refine bT rfl rfl fun K ab=>?_|refine bm rfl rfl fun K aa=>?_|refine bU rfl rfl fun K ac=>?_|refine aJ fun X Y ae af=>?_|refine aL ?_));simp (disch:=first|decide|omega|(simp only [List.length_cons,List.length_nil];omega)) only [go_sem,beq_self_eq_true,↓ag,↓ak hN,ao hN,reduceIte,reduceCtorEq,Nat.reduceAdd,Nat.reduceLT,Nat.reduceLeDiff,Nat.reduceEqDiff,Nat.reduceSub])|(with_reducible refine And.intro (fun h=>?_) (fun h=>?_) <;> try (exfalso;omega))|(with_reducible refine bf aG hN rfl ?_ ?_;kernel_rfl)|(with_reducible refine aU aG hN rfl ?_ ?_ ?_ ?_;(kernel_rfl);(kernel_rfl);(kernel_rfl))|(with_reducible refine And.intro ?_ ?_)|(refine aj ?_;omega)|(exact bo hN (by decide))))
 · have hne : ¬ ((xs.length : Int) = ys.length):=by assumption
   (refine cJ (.inr rfl) (by first|rfl|(simp (disch:=first|decide|omega|(simp only [List.length_cons,List.length_nil];omega)) only [cB,cC,cD,cE,go_sem,beq_self_eq_true,↓ag,↓ak hN,ao hN,reduceIte,reduceCtorEq,Nat.reduceAdd,Nat.reduceLT,Nat.reduceLeDiff,Nat.reduceEqDiff,Nat.reduceSub];rfl)) ?_)
   exact congrArg C.bool (aC fun e=>hne (by rw [e])).symm
 have hlen : xs.length = ys.length := by have h0 : ((xs.length : Int) != ys.length) = false := by assumption
                                         have : (xs.length : Int) = ys.length:=by simpa using h0
                                         omega
 (refine cR (fun (k : Nat)=>(tmL [(5,.c (.int .i64 k)),(0,.c (.I xs)),(1,.c (.I ys))],hpL hp0 ν [])) (fun (k : Nat)=>k ≤ xs.length ∧ ∀ j,j < k → gi xs j = gi ys j) (fun (k : Nat)=>xs.length - k) ⟨0,?_,co hX hN [] ?_ ?_⟩ ?_;(repeat' (first|(with_reducible first|exact cf _|exact cg|exact ci|refine cj ?_ ?_|refine ck ?_ ?_|exact bv _|exact cc _|exact aR _|rfl|exact bM _ _|refine bx ?_|exact ce _|refine bQ ?_)|refine cm rfl ?_ ?_|exact bN hN _ rfl rfl rfl|exact bO hN _ rfl rfl rfl|exact bz hN _ rfl rfl rfl (Or.inr rfl)|(refine bP hN _ rfl rfl (by first|exact Or.inr rfl|exact Or.inl rfl) ?_;first|exact aE _|exact aF _)|refine bA hN rfl ?_|refine bB hN rfl rfl ?_|exact bw hN _ rfl rfl|exact bu hN rfl rfl rfl rfl|(with_reducible first|refine bL ?_|refine bZ ?_|refine b7 ?_|refine b8 ?_|refine b9 ?_|refine bY ?_)));(try (any_goals (first|(with_reducible rfl)|(refine aj ?_;omega)))))
 · exact ⟨Nat.zero_le _,fun j hj=>absurd hj (Nat.not_lt_zero _)⟩
 rintro k ⟨hk,ho⟩
 (repeat' (first|(with_reducible first|(refine hK _ _ ?_;clear hK K)|(refine aa _ ?_;clear aa K)|(refine ab _ _ _ ?_;clear ab K)|(refine ac _ _ ?_;clear ac K)|refine bd ?_|refine bG ?_|refine aV ?_|refine az ?_|refine ay ?_|refine bH ?_|refine aI ?_|refine aW ?_|refine bI ?_|refine aX ?_|refine aY rfl ?_|refine be ?_|refine aZ ?_|refine bJ ?_|refine ba ?_|refine aH ?_|refine n_k ?_|refine bc ?_|(refine ae ?_;clear ae X af Y)|(refine af ?_;clear ae X af Y))|(with_reducible refine bi ?_;first|refine bg rfl ?_|refine bh rfl ?_)|(with_reducible refine aQ ?_;first|refine aA rfl rfl rfl rfl ?_|refine aK rfl rfl rfl ?_|refine bn rfl rfl rfl rfl ?_)|(with_reducible refine bF ?_;first|refine aS rfl rfl rfl rfl ?_|refine bC rfl rfl rfl ?_|refine bV rfl rfl rfl rfl ?_|refine bW hN (by apply Exists.intro;apply And.intro;(repeat' (first|apply FtI.nil|apply FI.nil|apply FI.cons|apply FtI.cons));kernel_rfl) ?_)|((first|(with_reducible first|refine bj rfl rfl fun K hK=>?_|refine bT rfl rfl fun K ab=>?_|refine bm rfl rfl fun K aa=>?_|refine bU rfl rfl fun K ac=>?_|refine aJ fun X Y ae af=>?_|refine aL ?_));simp (disch:=first|decide|omega|(simp only [List.length_cons,List.length_nil];omega)) only [go_sem,beq_self_eq_true,↓ag,↓ak hN,ao hN,reduceIte,reduceCtorEq,Nat.reduceAdd,Nat.reduceLT,Nat.reduceLeDiff,Nat.reduceEqDiff,Nat.reduceSub])|(with_reducible refine And.intro (fun h=>?_) (fun h=>?_) <;> try (exfalso;omega))|(with_reducible refine bf aG hN rfl ?_ ?_;kernel_rfl)|(with_reducible refine aU aG hN rfl ?_ ?_ ?_ ?_;(kernel_rfl);(kernel_rfl);(kernel_rfl))|(with_reducible refine And.intro ?_ ?_)|(refine aj ?_;omega)|(exact bo hN (by decide))))
 · (refine cJ (.inr rfl) (by first|rfl|(simp (disch:=first|decide|omega|(simp only [List.length_cons,List.length_nil];omega)) only [cB,cC,cD,cE,go_sem,beq_self_eq_true,↓ag,↓ak hN,ao hN,reduceIte,reduceCtorEq,Nat.reduceAdd,Nat.reduceLT,Nat.reduceLeDiff,Nat.reduceEqDiff,Nat.reduceSub];rfl)) ?_)
   exact congrArg C.bool (aC fun e=>(by assumption : ¬ gi xs k = gi ys k) (by rw [e])).symm
 · have h0 : (gi xs k != gi ys k) = false:=by assumption
   (refine ⟨k + 1,⟨?_,?_⟩,co hX hN [] ?_ ?_⟩;(try any_goals dsimp only);(repeat' (first|(with_reducible first|exact cf _|exact cg|exact ci|refine cj ?_ ?_|refine ck ?_ ?_|exact bv _|exact cc _|exact aR _|rfl|exact bM _ _|refine bx ?_|exact ce _|refine bQ ?_)|refine cm rfl ?_ ?_|exact bN hN _ rfl rfl rfl|exact bO hN _ rfl rfl rfl|exact bz hN _ rfl rfl rfl (Or.inr rfl)|(refine bP hN _ rfl rfl (by first|exact Or.inr rfl|exact Or.inl rfl) ?_;first|exact aE _|exact aF _)|refine bA hN rfl ?_|refine bB hN rfl rfl ?_|exact bw hN _ rfl rfl|exact bu hN rfl rfl rfl rfl|(with_reducible first|refine bL ?_|refine bZ ?_|refine b7 ?_|refine b8 ?_|refine b9 ?_|refine bY ?_)));(try (any_goals (first|(with_reducible rfl)|(refine aj ?_;omega)))))
   exact ⟨by omega,eF ho (by simpa using h0)⟩
 · (refine cJ (.inr rfl) (by first|rfl|(simp (disch:=first|decide|omega|(simp only [List.length_cons,List.length_nil];omega)) only [cB,cC,cD,cE,go_sem,beq_self_eq_true,↓ag,↓ak hN,ao hN,reduceIte,reduceCtorEq,Nat.reduceAdd,Nat.reduceLT,Nat.reduceLeDiff,Nat.reduceEqDiff,Nat.reduceSub];rfl)) ?_)
   exact congrArg C.bool (aP ((sW hlen).2 fun j hj=>ho j (by omega))).symm
end Go.Proofs.Ytiadchinhofieaa
namespace Go.Proofs.Ytiadchinhofieaa
set_option linter.unusedVariables false
set_option linter.unusedSimpArgs false
open Go.RowKit
end Go.Proofs.Ytiadchinhofieaa
namespace Go.Proofs.Ytiadchinhofieaa
set_option linter.unusedVariables false
set_option linter.unusedSimpArgs false
open Go.RowKit
end Go.Proofs.Ytiadchinhofieaa
