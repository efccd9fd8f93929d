/-
  Dominions: the won region is one, and every one is a part of it.
-/
import Derived.Test.YtfaefmabjjndeaaZwG3
import Derived.Test.YtfaefmabjjndeaaZwE13
import Derived.Test.YtfaefmabjjndeaaZwE15
import Derived.Test.YtfaefmabjjndeaaZwD3
namespace Go.Proofs.Ytfaefmabjjndeaa
set_option linter.unusedVariables false
set_option linter.unusedSimpArgs false
open Go.RowKit
attribute [local irreducible] aN cA Aw Le
theorem qb (bs : List Int) (hl : bs.length ≤ 9223372036854775807) : aN Try.prog 15 [.c (.Y bs)] [] (fun _=>.c (.bool (decide ((bs.length : Int) > 4096)))):=by
 (refine bL aL Try.func15 rfl rfl (by kernel_rfl) fun hp0 ν hX hN=>?_;simp only [cW,Nat.reduceAdd])
 (repeat' (first|(with_reducible first|(refine hK _ _ ?_;clear hK K)|(refine aa _ ?_;clear aa K)|refine bf ?_|refine bQ ?_|refine aZ ?_|refine aE ?_|refine aD ?_|refine bR ?_|refine aP ?_|refine a8 ?_|refine bS ?_|refine a9 ?_|refine ba rfl ?_|refine bg ?_|refine bc ?_|refine bT ?_|refine bd ?_|refine aO ?_|refine n_k ?_|refine be ?_|(refine ae ?_;clear ae X af Y)|(refine af ?_;clear ae X af Y))|(with_reducible refine bm ?_;first|refine bi rfl ?_|refine bj rfl ?_)|(with_reducible refine aU ?_;first|refine aF rfl rfl rfl rfl ?_|refine aR rfl rfl rfl ?_|refine bp rfl rfl rfl rfl ?_)|((first|(with_reducible first|refine bn rfl rfl fun K hK=>?_|refine bo rfl rfl fun K aa=>?_|refine aQ fun X Y ae af=>?_|refine aS ?_));simp (disch:=first|decide|omega|(simp only [List.length_cons,List.length_nil];omega)) only [go_sem,beq_self_eq_true,↓aj,↓ah hN,au hN,reduceIte,reduceCtorEq,Nat.reduceAdd,Nat.reduceLT,Nat.reduceLeDiff,Nat.reduceEqDiff,Nat.reduceSub])|(with_reducible refine And.intro (fun h=>?_) (fun h=>?_) <;> try (exfalso;omega))|(with_reducible refine bh aL hN rfl ?_ ?_;kernel_rfl)|(with_reducible refine And.intro ?_ ?_)|(refine aw ?_;omega)|(exact br hN (by decide))))
 (refine cB (.inr rfl) (by first|rfl|(simp (disch:=first|decide|omega|(simp only [List.length_cons,List.length_nil];omega)) only [cn,cx,cC,cJ,go_sem,beq_self_eq_true,↓aj,↓ah hN,au hN,reduceIte,reduceCtorEq,Nat.reduceAdd,Nat.reduceLT,Nat.reduceLeDiff,Nat.reduceEqDiff,Nat.reduceSub];rfl)) ?_)
 rfl
theorem kd (xs ys : List Int) (hl : xs.length ≤ 1048576) : aN Try.prog 30 [.c (.I xs),.c (.I ys)] [] (fun _=>.c (.bool (tf (xs = ys)))):=by
 (refine bL aL Try.func30 rfl rfl (by kernel_rfl) fun hp0 ν hX hN=>?_;simp only [cW,Nat.reduceAdd])
 (repeat' (first|(with_reducible first|(refine hK _ _ ?_;clear hK K)|(refine aa _ ?_;clear aa K)|(refine ab _ _ _ ?_;clear ab K)|(refine ac _ _ ?_;clear ac K)|refine bf ?_|refine bQ ?_|refine aZ ?_|refine aE ?_|refine aD ?_|refine bR ?_|refine aP ?_|refine a8 ?_|refine bS ?_|refine a9 ?_|refine ba rfl ?_|refine bg ?_|refine bc ?_|refine bT ?_|refine bd ?_|refine aO ?_|refine n_k ?_|refine be ?_|(refine ae ?_;clear ae X af Y)|(refine af ?_;clear ae X af Y))|(with_reducible refine bm ?_;first|refine bi rfl ?_|refine bj rfl ?_)|(with_reducible refine aU ?_;first|refine aF rfl rfl rfl rfl ?_|refine aR rfl rfl rfl ?_|refine bp rfl rfl rfl rfl ?_)|(with_reducible refine bN ?_;first|refine bt rfl rfl rfl rfl ?_|refine bI rfl rfl rfl ?_|refine cg rfl rfl rfl rfl ?_|refine ci hN (by apply Exists.intro;apply And.intro;(repeat' (first|apply FtI.nil|apply FI.nil|apply FI.cons|apply FtI.cons));kernel_rfl) ?_)|((first|(with_reducible first|refine bn rfl rfl fun K hK=>?_|refine ce rfl rfl fun K ab=>?_|refine bo rfl rfl fun K aa=>?_|refine cf rfl rfl fun K ac=>?_|refine aQ fun X Y ae af=>?_|refine aS ?_));simp (disch:=first|decide|omega|(simp only [List.length_cons,List.length_nil];omega)) only [go_sem,beq_self_eq_true,↓aj,↓ah hN,au hN,reduceIte,reduceCtorEq,Nat.reduceAdd,Nat.reduceLT,Nat.reduceLeDiff,Nat.reduceEqDiff,Nat.reduceSub])|(with_reducible refine And.intro (fun h=>?_) (fun h=>?_) <;> try (exfalso;omega))|(with_reducible refine bh aL hN rfl ?_ ?_;kernel_rfl)|(with_reducible refine bu aL hN rfl ?_ ?_ ?_ ?_;(kernel_rfl);(kernel_rfl);(kernel_rfl))|(with_reducible refine And.intro ?_ ?_)|(refine aw ?_;omega)|(exact br hN (by decide))))
 · have hne : ¬ ((xs.length : Int) = ys.length):=by assumption
   (refine cB (.inr rfl) (by first|rfl|(simp (disch:=first|decide|omega|(simp only [List.length_cons,List.length_nil];omega)) only [cn,cx,cC,cJ,go_sem,beq_self_eq_true,↓aj,↓ah hN,au hN,reduceIte,reduceCtorEq,Nat.reduceAdd,Nat.reduceLT,Nat.reduceLeDiff,Nat.reduceEqDiff,Nat.reduceSub];rfl)) ?_)
   exact congrArg C.bool (ax fun e=>hne (by rw [e])).symm
 have hlen : xs.length = ys.length := by have h0 : ((xs.length : Int) != ys.length) = false := by assumption
                                         have : (xs.length : Int) = ys.length:=by simpa using h0
                                         omega
 (refine dY (fun (k : Nat)=>(tmL [(5,.c (.int .i64 k)),(0,.c (.I xs)),(1,.c (.I ys))],hpL hp0 ν [])) (fun (k : Nat)=>k ≤ xs.length ∧ ∀ j,j < k → gi xs j = gi ys j) (fun (k : Nat)=>xs.length - k) ⟨0,?_,cY hX hN [] ?_ ?_⟩ ?_;(repeat' (first|(with_reducible first|exact cO _|exact cP|exact cQ|refine cR ?_ ?_|refine cS ?_ ?_|exact bA _|exact cM _|exact aX _|rfl|exact bZ _ _|refine bC ?_|exact cN _|refine cc ?_)|refine cT rfl ?_ ?_|exact b7 hN _ rfl rfl rfl|exact b8 hN _ rfl rfl rfl|exact bD hN _ rfl rfl rfl (Or.inr rfl)|(refine b9 hN _ rfl rfl (by first|exact Or.inr rfl|exact Or.inl rfl) ?_;first|exact aB _|exact aC _)|refine bE hN rfl ?_|refine bF hN rfl rfl ?_|exact bB hN _ rfl rfl|exact bG hN rfl rfl rfl rfl|(with_reducible first|refine bY ?_|refine cF ?_|refine cG ?_|refine cH ?_|refine cI ?_|refine cj ?_)));(try (any_goals (first|(with_reducible rfl)|(refine aw ?_;omega)))))
 · exact ⟨Nat.zero_le _,fun j hj=>absurd hj (Nat.not_lt_zero _)⟩
 rintro k ⟨hk,ho⟩
 (repeat' (first|(with_reducible first|(refine hK _ _ ?_;clear hK K)|(refine aa _ ?_;clear aa K)|(refine ab _ _ _ ?_;clear ab K)|(refine ac _ _ ?_;clear ac K)|refine bf ?_|refine bQ ?_|refine aZ ?_|refine aE ?_|refine aD ?_|refine bR ?_|refine aP ?_|refine a8 ?_|refine bS ?_|refine a9 ?_|refine ba rfl ?_|refine bg ?_|refine bc ?_|refine bT ?_|refine bd ?_|refine aO ?_|refine n_k ?_|refine be ?_|(refine ae ?_;clear ae X af Y)|(refine af ?_;clear ae X af Y))|(with_reducible refine bm ?_;first|refine bi rfl ?_|refine bj rfl ?_)|(with_reducible refine aU ?_;first|refine aF rfl rfl rfl rfl ?_|refine aR rfl rfl rfl ?_|refine bp rfl rfl rfl rfl ?_)|(with_reducible refine bN ?_;first|refine bt rfl rfl rfl rfl ?_|refine bI rfl rfl rfl ?_|refine cg rfl rfl rfl rfl ?_|refine ci hN (by apply Exists.intro;apply And.intro;(repeat' (first|apply FtI.nil|apply FI.nil|apply FI.cons|apply FtI.cons));kernel_rfl) ?_)|((first|(with_reducible first|refine bn rfl rfl fun K hK=>?_|refine ce rfl rfl fun K ab=>?_|refine bo rfl rfl fun K aa=>?_|refine cf rfl rfl fun K ac=>?_|refine aQ fun X Y ae af=>?_|refine aS ?_));simp (disch:=first|decide|omega|(simp only [List.length_cons,List.length_nil];omega)) only [go_sem,beq_self_eq_true,↓aj,↓ah hN,au hN,reduceIte,reduceCtorEq,Nat.reduceAdd,Nat.reduceLT,Nat.reduceLeDiff,Nat.reduceEqDiff,Nat.reduceSub])|(with_reducible refine And.intro (fun h=>?_) (fun h=>?_) <;> try (exfalso;omega))|(with_reducible refine bh aL hN rfl ?_ ?_;kernel_rfl)|(with_reducible refine bu aL hN rfl ?_ ?_ ?_ ?_;(kernel_rfl);(kernel_rfl);(kernel_rfl))|(with_reducible refine And.intro ?_ ?_)|(refine aw ?_;omega)|(exact br hN (by decide))))
 · (refine cB (.inr rfl) (by first|rfl|(simp (disch:=first|decide|omega|(simp only [List.length_cons,List.length_nil];omega)) only [cn,cx,cC,cJ,go_sem,beq_self_eq_true,↓aj,↓ah hN,au hN,reduceIte,reduceCtorEq,Nat.reduceAdd,Nat.reduceLT,Nat.reduceLeDiff,Nat.reduceEqDiff,Nat.reduceSub];rfl)) ?_)
   exact congrArg C.bool (ax fun e=>(by assumption : ¬ gi xs k = gi ys k) (by rw [e])).symm
 · have h0 : (gi xs k != gi ys k) = false:=by assumption
   (refine ⟨k + 1,⟨?_,?_⟩,cY hX hN [] ?_ ?_⟩;(try any_goals dsimp only);(repeat' (first|(with_reducible first|exact cO _|exact cP|exact cQ|refine cR ?_ ?_|refine cS ?_ ?_|exact bA _|exact cM _|exact aX _|rfl|exact bZ _ _|refine bC ?_|exact cN _|refine cc ?_)|refine cT rfl ?_ ?_|exact b7 hN _ rfl rfl rfl|exact b8 hN _ rfl rfl rfl|exact bD hN _ rfl rfl rfl (Or.inr rfl)|(refine b9 hN _ rfl rfl (by first|exact Or.inr rfl|exact Or.inl rfl) ?_;first|exact aB _|exact aC _)|refine bE hN rfl ?_|refine bF hN rfl rfl ?_|exact bB hN _ rfl rfl|exact bG hN rfl rfl rfl rfl|(with_reducible first|refine bY ?_|refine cF ?_|refine cG ?_|refine cH ?_|refine cI ?_|refine cj ?_)));(try (any_goals (first|(with_reducible rfl)|(refine aw ?_;omega)))))
   exact ⟨by omega,fH ho (by simpa using h0)⟩
 · (refine cB (.inr rfl) (by first|rfl|(simp (disch:=first|decide|omega|(simp only [List.length_cons,List.length_nil];omega)) only [cn,cx,cC,cJ,go_sem,beq_self_eq_true,↓aj,↓ah hN,au hN,reduceIte,reduceCtorEq,Nat.reduceAdd,Nat.reduceLT,Nat.reduceLeDiff,Nat.reduceEqDiff,Nat.reduceSub];rfl)) ?_)
   exact congrArg C.bool (aJ ((mn hlen).2 fun j hj=>ho j (by omega))).symm
end Go.Proofs.Ytfaefmabjjndeaa
namespace Go.Proofs.Ytfaefmabjjndeaa
set_option linter.unusedVariables false
set_option linter.unusedSimpArgs false
open Go.RowKit
attribute [local irreducible] aN cA Aw Le
end Go.Proofs.Ytfaefmabjjndeaa
namespace Go.Proofs.Ytfaefmabjjndeaa
set_option linter.unusedVariables false
set_option linter.unusedSimpArgs false
open Go.RowKit
end Go.Proofs.Ytfaefmabjjndeaa
