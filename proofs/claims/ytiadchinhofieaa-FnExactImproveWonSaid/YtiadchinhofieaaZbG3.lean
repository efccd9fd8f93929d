/-
  Small functions: marks of a set; the vertices of a trap.
-/
import Derived.Test.YtiadchinhofieaaZbCe
import Derived.Test.YtiadchinhofieaaZbFc
namespace Go.Proofs.Ytiadchinhofieaa
set_option linter.unusedVariables false
set_option linter.unusedSimpArgs false
open Go.RowKit
attribute [local irreducible] bp cR Aw Le
theorem fj {Q : Nat → Prop} {k : Nat} (h : ∀ i,i < k → Q i) (hk : Q k) : ∀ i,i < k + 1 → Q i:=fun i hi=>by
 rcases Nat.lt_or_ge i k with h'|h'
 · exact h i h'
 · have : i = k:=by omega
   subst this;exact hk
theorem cN {a b : Int} (h : (a != b) = false) : a = b:=by simpa using h
theorem tp {a b : Int} (h : (a != b) = true) : a ≠ b:=by simpa using h
theorem m9 {xs ys : List Int} (hl : xs.length = ys.length) : xs = ys ↔ ∀ j,j < xs.length → gi xs j = gi ys j :=
 ⟨fun h j _=>by rw [h],fun h=>j3 hl h⟩
theorem tq (xs ys : List Int) (hl : xs.length ≤ 1048576) : bp Try.prog 106 [.c (.I xs),.c (.I ys)] [] (fun _=>.c (.bool (tf (xs = ys)))):=by
 (refine bU aH Try.func106 rfl rfl (by kernel_rfl) fun hp0 ν hX hN=>?_;simp only [cJ,Nat.reduceAdd])
 (repeat' (first|(with_reducible first|(refine hK _ _ ?_;clear hK K)|(refine aa _ ?_;clear aa K)|(refine ab _ _ _ ?_;clear ab K)|(refine ac _ _ ?_;clear ac K)|refine aY ?_|refine bF ?_|refine aR ?_|refine ay ?_|refine ax ?_|refine bG ?_|refine aD ?_|refine aS ?_|refine bH ?_|refine aT ?_|refine aU rfl ?_|refine aZ ?_|refine aV ?_|refine bI ?_|refine aW ?_|refine aC ?_|refine n_k ?_|refine aX ?_|(refine ae ?_;clear ae X af Y)|(refine af ?_;clear ae X af Y))|(with_reducible refine be ?_;first|refine bc rfl ?_|refine bd rfl ?_)|(with_reducible refine aQ ?_;first|refine az rfl rfl rfl rfl ?_|refine aF rfl rfl rfl ?_|refine bh rfl rfl rfl rfl ?_)|(with_reducible refine bP ?_;first|refine bj rfl rfl rfl rfl ?_|refine bB rfl rfl rfl ?_|refine bS rfl rfl rfl rfl ?_|refine bT hN (by apply Exists.intro;apply And.intro;(repeat' (first|apply FtI.nil|apply FI.nil|apply FI.cons|apply FtI.cons));kernel_rfl) ?_)|((first|(with_reducible first|refine bf rfl rfl fun K hK=>?_|refine bQ rfl rfl fun K ab=>?_|refine bg rfl rfl fun K aa=>?_|refine bR rfl rfl fun K ac=>?_|refine aE fun X Y ae af=>?_|refine aG ?_));simp (disch:=first|decide|omega|(simp only [List.length_cons,List.length_nil];omega)) only [go_sem,beq_self_eq_true,↓ag,↓ak hN,an hN,reduceIte,reduceCtorEq,Nat.reduceAdd,Nat.reduceLT,Nat.reduceLeDiff,Nat.reduceEqDiff,Nat.reduceSub])|(with_reducible refine And.intro (fun h=>?_) (fun h=>?_) <;> try (exfalso;omega))|(with_reducible refine ba aH hN rfl ?_ ?_;kernel_rfl)|(with_reducible refine bm aH hN rfl ?_ ?_ ?_ ?_;(kernel_rfl);(kernel_rfl);(kernel_rfl))|(with_reducible refine And.intro ?_ ?_)|(refine aj ?_;omega)|(exact bi hN (by decide))))
 · (refine cI (.inr rfl) (by first|rfl|(simp (disch:=first|decide|omega|(simp only [List.length_cons,List.length_nil];omega)) only [cy,cB,cD,cE,go_sem,beq_self_eq_true,↓ag,↓ak hN,an hN,reduceIte,reduceCtorEq,Nat.reduceAdd,Nat.reduceLT,Nat.reduceLeDiff,Nat.reduceEqDiff,Nat.reduceSub];rfl)) ?_)
   exact congrArg C.bool (aB fun e : xs = ys=>by have:=congrArg List.length e;omega).symm
 have hll : xs.length = ys.length:=by have:=bne_eq_false_iff_eq.1 (show ((xs.length : Int) != ys.length) = false by assumption);omega
 (refine cK (fun (k : Nat)=>(tmL [(13,.c (.int .i64 k)),(12,.c (.int .i64 xs.length)),(0,.c (.I xs)),(1,.c (.I ys))],hpL hp0 ν [])) (fun (k : Nat)=>k ≤ xs.length ∧ ∀ j,j < k → gi xs j = gi ys j) (fun (k : Nat)=>xs.length - k) ⟨0,?_,ce hX hN [] ?_ ?_⟩ ?_;(repeat' (first|(with_reducible first|exact cf _|exact cg|exact ci|refine cj ?_ ?_|refine ck ?_ ?_|exact bt _|exact b9 _|exact aP _|rfl|exact bK _ _|refine bv ?_|exact cc _|refine bO ?_)|refine cm rfl ?_ ?_|exact bL hN _ rfl rfl rfl|exact bM hN _ rfl rfl rfl|exact bw hN _ rfl rfl rfl (Or.inr rfl)|(refine bN hN _ rfl rfl (by first|exact Or.inr rfl|exact Or.inl rfl) ?_;first|exact aI _|exact aJ _)|refine bx hN rfl ?_|refine bz hN rfl rfl ?_|exact bu hN _ rfl rfl|exact br hN rfl rfl rfl rfl|(with_reducible first|refine bJ ?_|refine bX ?_|refine bY ?_|refine bZ ?_|refine b7 ?_|refine bW ?_)));(try (any_goals (first|(with_reducible rfl)|(refine aj ?_;omega)))))
 · exact ⟨Nat.zero_le _,fun j h=>by omega⟩
 rintro k ⟨hk,hq⟩
 (repeat' (first|(with_reducible first|(refine hK _ _ ?_;clear hK K)|(refine aa _ ?_;clear aa K)|(refine ab _ _ _ ?_;clear ab K)|(refine ac _ _ ?_;clear ac K)|refine aY ?_|refine bF ?_|refine aR ?_|refine ay ?_|refine ax ?_|refine bG ?_|refine aD ?_|refine aS ?_|refine bH ?_|refine aT ?_|refine aU rfl ?_|refine aZ ?_|refine aV ?_|refine bI ?_|refine aW ?_|refine aC ?_|refine n_k ?_|refine aX ?_|(refine ae ?_;clear ae X af Y)|(refine af ?_;clear ae X af Y))|(with_reducible refine be ?_;first|refine bc rfl ?_|refine bd rfl ?_)|(with_reducible refine aQ ?_;first|refine az rfl rfl rfl rfl ?_|refine aF rfl rfl rfl ?_|refine bh rfl rfl rfl rfl ?_)|(with_reducible refine bP ?_;first|refine bj rfl rfl rfl rfl ?_|refine bB rfl rfl rfl ?_|refine bS rfl rfl rfl rfl ?_|refine bT hN (by apply Exists.intro;apply And.intro;(repeat' (first|apply FtI.nil|apply FI.nil|apply FI.cons|apply FtI.cons));kernel_rfl) ?_)|((first|(with_reducible first|refine bf rfl rfl fun K hK=>?_|refine bQ rfl rfl fun K ab=>?_|refine bg rfl rfl fun K aa=>?_|refine bR rfl rfl fun K ac=>?_|refine aE fun X Y ae af=>?_|refine aG ?_));simp (disch:=first|decide|omega|(simp only [List.length_cons,List.length_nil];omega)) only [go_sem,beq_self_eq_true,↓ag,↓ak hN,an hN,reduceIte,reduceCtorEq,Nat.reduceAdd,Nat.reduceLT,Nat.reduceLeDiff,Nat.reduceEqDiff,Nat.reduceSub])|(with_reducible refine And.intro (fun h=>?_) (fun h=>?_) <;> try (exfalso;omega))|(with_reducible refine ba aH hN rfl ?_ ?_;kernel_rfl)|(with_reducible refine bm aH hN rfl ?_ ?_ ?_ ?_;(kernel_rfl);(kernel_rfl);(kernel_rfl))|(with_reducible refine And.intro ?_ ?_)|(refine aj ?_;omega)|(exact bi hN (by decide))))
 · (refine cI (.inr rfl) (by first|rfl|(simp (disch:=first|decide|omega|(simp only [List.length_cons,List.length_nil];omega)) only [cy,cB,cD,cE,go_sem,beq_self_eq_true,↓ag,↓ak hN,an hN,reduceIte,reduceCtorEq,Nat.reduceAdd,Nat.reduceLT,Nat.reduceLeDiff,Nat.reduceEqDiff,Nat.reduceSub];rfl)) ?_)
   have hne : ¬ gi xs k = gi ys k:=by assumption
   exact congrArg C.bool (aB fun e : xs = ys=>hne (by rw [e])).symm
 · (refine ⟨k + 1,⟨?_,?_⟩,ce hX hN [] ?_ ?_⟩;(try any_goals dsimp only);(repeat' (first|(with_reducible first|exact cf _|exact cg|exact ci|refine cj ?_ ?_|refine ck ?_ ?_|exact bt _|exact b9 _|exact aP _|rfl|exact bK _ _|refine bv ?_|exact cc _|refine bO ?_)|refine cm rfl ?_ ?_|exact bL hN _ rfl rfl rfl|exact bM hN _ rfl rfl rfl|exact bw hN _ rfl rfl rfl (Or.inr rfl)|(refine bN hN _ rfl rfl (by first|exact Or.inr rfl|exact Or.inl rfl) ?_;first|exact aI _|exact aJ _)|refine bx hN rfl ?_|refine bz hN rfl rfl ?_|exact bu hN _ rfl rfl|exact br hN rfl rfl rfl rfl|(with_reducible first|refine bJ ?_|refine bX ?_|refine bY ?_|refine bZ ?_|refine b7 ?_|refine bW ?_)));(try (any_goals (first|(with_reducible rfl)|(refine aj ?_;omega)))))
   have he : gi xs k = gi ys k:=bne_eq_false_iff_eq.1 (by assumption)
   refine ⟨by omega,fun j hj=>?_⟩
   rcases Nat.lt_or_ge j k with h|h
   · exact hq j h
   · have : j = k:=by omega
     subst this;exact he
 · (refine cI (.inr rfl) (by first|rfl|(simp (disch:=first|decide|omega|(simp only [List.length_cons,List.length_nil];omega)) only [cy,cB,cD,cE,go_sem,beq_self_eq_true,↓ag,↓ak hN,an hN,reduceIte,reduceCtorEq,Nat.reduceAdd,Nat.reduceLT,Nat.reduceLeDiff,Nat.reduceEqDiff,Nat.reduceSub];rfl)) ?_)
   exact congrArg C.bool (aO ((m9 hll).2 fun j hj=>hq j (by omega))).symm
theorem rB (xs ys : List Int) (hl : xs.length ≤ 1048576) : bp Try.prog 71 [.c (.I xs),.c (.I ys)] [] (fun _=>.c (.bool (tf (xs = ys)))):=by
 (refine bU aH Try.func71 rfl rfl (by kernel_rfl) fun hp0 ν hX hN=>?_;simp only [cJ,Nat.reduceAdd])
 (repeat' (first|(with_reducible first|(refine hK _ _ ?_;clear hK K)|(refine aa _ ?_;clear aa K)|(refine ab _ _ _ ?_;clear ab K)|(refine ac _ _ ?_;clear ac K)|refine aY ?_|refine bF ?_|refine aR ?_|refine ay ?_|refine ax ?_|refine bG ?_|refine aD ?_|refine aS ?_|refine bH ?_|refine aT ?_|refine aU rfl ?_|refine aZ ?_|refine aV ?_|refine bI ?_|refine aW ?_|refine aC ?_|refine n_k ?_|refine aX ?_|(refine ae ?_;clear ae X af Y)|(refine af ?_;clear ae X af Y))|(with_reducible refine be ?_;first|refine bc rfl ?_|refine bd rfl ?_)|(with_reducible refine aQ ?_;first|refine az rfl rfl rfl rfl ?_|refine aF rfl rfl rfl ?_|refine bh rfl rfl rfl rfl ?_)|(with_reducible refine bP ?_;first|refine bj rfl rfl rfl rfl ?_|refine bB rfl rfl rfl ?_|refine bS rfl rfl rfl rfl ?_|refine bT hN (by apply Exists.intro;apply And.intro;(repeat' (first|apply FtI.nil|apply FI.nil|apply FI.cons|apply FtI.cons));kernel_rfl) ?_)|((first|(with_reducible first|refine bf rfl rfl fun K hK=>?_|refine bQ rfl rfl fun K ab=>?_|refine bg rfl rfl fun K aa=>?_|refine bR rfl rfl fun K ac=>?_|refine aE fun X Y ae af=>?_|refine aG ?_));simp (disch:=first|decide|omega|(simp only [List.length_cons,List.length_nil];omega)) only [go_sem,beq_self_eq_true,↓ag,↓ak hN,an hN,reduceIte,reduceCtorEq,Nat.reduceAdd,Nat.reduceLT,Nat.reduceLeDiff,Nat.reduceEqDiff,Nat.reduceSub])|(with_reducible refine And.intro (fun h=>?_) (fun h=>?_) <;> try (exfalso;omega))|(with_reducible refine ba aH hN rfl ?_ ?_;kernel_rfl)|(with_reducible refine bm aH hN rfl ?_ ?_ ?_ ?_;(kernel_rfl);(kernel_rfl);(kernel_rfl))|(with_reducible refine And.intro ?_ ?_)|(refine aj ?_;omega)|(exact bi hN (by decide))))
 · (refine cI (.inr rfl) (by first|rfl|(simp (disch:=first|decide|omega|(simp only [List.length_cons,List.length_nil];omega)) only [cy,cB,cD,cE,go_sem,beq_self_eq_true,↓ag,↓ak hN,an hN,reduceIte,reduceCtorEq,Nat.reduceAdd,Nat.reduceLT,Nat.reduceLeDiff,Nat.reduceEqDiff,Nat.reduceSub];rfl)) ?_)
   exact congrArg C.bool (aB fun e : xs = ys=>by have:=congrArg List.length e;omega).symm
 have hll : xs.length = ys.length:=by have:=bne_eq_false_iff_eq.1 (show ((xs.length : Int) != ys.length) = false by assumption);omega
 (refine cK (fun (k : Nat)=>(tmL [(5,.c (.int .i64 k)),(0,.c (.I xs)),(1,.c (.I ys))],hpL hp0 ν [])) (fun (k : Nat)=>k ≤ xs.length ∧ ∀ j,j < k → gi xs j = gi ys j) (fun (k : Nat)=>xs.length - k) ⟨0,?_,ce hX hN [] ?_ ?_⟩ ?_;(repeat' (first|(with_reducible first|exact cf _|exact cg|exact ci|refine cj ?_ ?_|refine ck ?_ ?_|exact bt _|exact b9 _|exact aP _|rfl|exact bK _ _|refine bv ?_|exact cc _|refine bO ?_)|refine cm rfl ?_ ?_|exact bL hN _ rfl rfl rfl|exact bM hN _ rfl rfl rfl|exact bw hN _ rfl rfl rfl (Or.inr rfl)|(refine bN hN _ rfl rfl (by first|exact Or.inr rfl|exact Or.inl rfl) ?_;first|exact aI _|exact aJ _)|refine bx hN rfl ?_|refine bz hN rfl rfl ?_|exact bu hN _ rfl rfl|exact br hN rfl rfl rfl rfl|(with_reducible first|refine bJ ?_|refine bX ?_|refine bY ?_|refine bZ ?_|refine b7 ?_|refine bW ?_)));(try (any_goals (first|(with_reducible rfl)|(refine aj ?_;omega)))))
 · exact ⟨Nat.zero_le _,fun j h=>by omega⟩
 rintro k ⟨hk,hq⟩
 (repeat' (first|(with_reducible first|(refine hK _ _ ?_;clear hK K)|(refine aa _ ?_;clear aa K)|(refine ab _ _ _ ?_;clear ab K)|(refine ac _ _ ?_;clear ac K)|refine aY ?_|refine bF ?_|refine aR ?_|refine ay ?_|refine ax ?_|refine bG ?_|refine aD ?_|refine aS ?_|refine bH ?_|refine aT ?_|refine aU rfl ?_|refine aZ ?_|refine aV ?_|refine bI ?_|refine aW ?_|refine aC ?_|refine n_k ?_|refine aX ?_|(refine ae ?_;clear ae X af Y)|(refine af ?_;clear ae X af Y))|(with_reducible refine be ?_;first|refine bc rfl ?_|refine bd rfl ?_)|(with_reducible refine aQ ?_;first|refine az rfl rfl rfl rfl ?_|refine aF rfl rfl rfl ?_|refine bh rfl rfl rfl rfl ?_)|(with_reducible refine bP ?_;first|refine bj rfl rfl rfl rfl ?_|refine bB rfl rfl rfl ?_|refine bS rfl rfl rfl rfl ?_|refine bT hN (by apply Exists.intro;apply And.intro;(repeat' (first|apply FtI.nil|apply FI.nil|apply FI.cons|apply FtI.cons));kernel_rfl) ?_)|((first|(with_reducible first|refine bf rfl rfl fun K hK=>?_|refine bQ rfl rfl fun K ab=>?_|refine bg rfl rfl fun K aa=>?_|refine bR rfl rfl fun K ac=>?_|refine aE fun X Y ae af=>?_|refine aG ?_));simp (disch:=first|decide|omega|(simp only [List.length_cons,List.length_nil];omega)) only [go_sem,beq_self_eq_true,↓ag,↓ak hN,an hN,reduceIte,reduceCtorEq,Nat.reduceAdd,Nat.reduceLT,Nat.reduceLeDiff,Nat.reduceEqDiff,Nat.reduceSub])|(with_reducible refine And.intro (fun h=>?_) (fun h=>?_) <;> try (exfalso;omega))|(with_reducible refine ba aH hN rfl ?_ ?_;kernel_rfl)|(with_reducible refine bm aH hN rfl ?_ ?_ ?_ ?_;(kernel_rfl);(kernel_rfl);(kernel_rfl))|(with_reducible refine And.intro ?_ ?_)|(refine aj ?_;omega)|(exact bi hN (by decide))))
 · (refine cI (.inr rfl) (by first|rfl|(simp (disch:=first|decide|omega|(simp only [List.length_cons,List.length_nil];omega)) only [cy,cB,cD,cE,go_sem,beq_self_eq_true,↓ag,↓ak hN,an hN,reduceIte,reduceCtorEq,Nat.reduceAdd,Nat.reduceLT,Nat.reduceLeDiff,Nat.reduceEqDiff,Nat.reduceSub];rfl)) ?_)
   have hne : ¬ gi xs k = gi ys k:=by assumption
   exact congrArg C.bool (aB fun e : xs = ys=>hne (by rw [e])).symm
 · (refine ⟨k + 1,⟨?_,?_⟩,ce hX hN [] ?_ ?_⟩;(try any_goals dsimp only);(repeat' (first|(with_reducible first|exact cf _|exact cg|exact ci|refine cj ?_ ?_|refine ck ?_ ?_|exact bt _|exact b9 _|exact aP _|rfl|exact bK _ _|refine bv ?_|exact cc _|refine bO ?_)|refine cm rfl ?_ ?_|exact bL hN _ rfl rfl rfl|exact bM hN _ rfl rfl rfl|exact bw hN _ rfl rfl rfl (Or.inr rfl)|(refine bN hN _ rfl rfl (by first|exact Or.inr rfl|exact Or.inl rfl) ?_;first|exact aI _|exact aJ _)|refine bx hN rfl ?_|refine bz hN rfl rfl ?_|exact bu hN _ rfl rfl|exact br hN rfl rfl rfl rfl|(with_reducible first|refine bJ ?_|refine bX ?_|refine bY ?_|refine bZ ?_|refine b7 ?_|refine bW ?_)));(try (any_goals (first|(with_reducible rfl)|(refine aj ?_;omega)))))
   have he : gi xs k = gi ys k:=bne_eq_false_iff_eq.1 (by assumption)
   refine ⟨by omega,fun j hj=>?_⟩
   rcases Nat.lt_or_ge j k with h|h
   · exact hq j h
   · have : j = k:=by omega
     subst this;exact he
 · (refine cI (.inr rfl) (by first|rfl|(simp (disch:=first|decide|omega|(simp only [List.length_cons,List.length_nil];omega)) only [cy,cB,cD,cE,go_sem,beq_self_eq_true,↓ag,↓ak hN,an hN,reduceIte,reduceCtorEq,Nat.reduceAdd,Nat.reduceLT,Nat.reduceLeDiff,Nat.reduceEqDiff,Nat.reduceSub];rfl)) ?_)
   exact congrArg C.bool (aO ((m9 hll).2 fun j hj=>hq j (by omega))).symm
end Go.Proofs.Ytiadchinhofieaa
namespace Go.Proofs.Ytiadchinhofieaa
set_option linter.unusedVariables false
set_option linter.unusedSimpArgs false
open Go.RowKit
attribute [local irreducible] bp cR Aw Le
theorem dU (xs : List Int) (x : Int) : bp Try.prog 63 [.c (.I xs),.c (.int .i64 x)] [] (fun _=>.c (.bool (tf (x ∈ xs)))) :=
 eS Try.func63 rfl rfl (u:=.bool _) (fun O w=>.bool _) fun φ hp w vs h=>by
  obtain ⟨a,b,rfl,h1,h2⟩:=tj h
  obtain rfl:=cZ h2
  obtain ⟨sa,n,c,rfl,hI⟩:=m0 (dO h1)
  exact (lM sa n c xs x w hI).mono fun e w' ⟨he,hw⟩=>⟨he,by rw [← hw];exact Below.refl _ _⟩
theorem ju (xs : List Int) (x : Int) : bp Try.prog 135 [.c (.I xs),.c (.int .i64 x)] [] (fun _=>.c (.bool (tf (x ∈ xs)))) :=
 eS Try.func135 rfl rfl (u:=.bool _) (fun O w=>.bool _) fun φ hp w vs h=>by
  obtain ⟨a,b,rfl,h1,h2⟩:=tj h
  obtain rfl:=cZ h2
  obtain ⟨sa,n,c,rfl,hI⟩:=m0 (dO h1)
  exact (mD sa n c xs x w hI).mono fun e w' ⟨he,hw⟩=>⟨he,by rw [← hw];exact Below.refl _ _⟩
theorem rC (xs : List Int) (hl : xs.length ≤ 1048576) : bp Try.prog 109 [.c (.I xs)] [.arr 2 .yes (.I xs)] (fun ns=>.sl (ns.getD 0 0)):=by
 (refine bU aH Try.func109 rfl rfl (by kernel_rfl) fun hp0 ν hX hN=>?_;simp only [cJ,Nat.reduceAdd])
 (repeat' (first|(with_reducible first|(refine hK _ _ ?_;clear hK K)|(refine aa _ ?_;clear aa K)|refine aY ?_|refine bF ?_|refine aR ?_|refine ay ?_|refine ax ?_|refine bG ?_|refine aD ?_|refine aS ?_|refine bH ?_|refine aT ?_|refine aU rfl ?_|refine aZ ?_|refine aV ?_|refine bI ?_|refine aW ?_|refine aC ?_|refine n_k ?_|refine aX ?_|(refine ae ?_;clear ae X af Y)|(refine af ?_;clear ae X af Y))|(with_reducible refine be ?_;first|refine bc rfl ?_|refine bd rfl ?_)|(with_reducible refine aQ ?_;first|refine az rfl rfl rfl rfl ?_|refine aF rfl rfl rfl ?_|refine bh rfl rfl rfl rfl ?_)|((first|(with_reducible first|refine bf rfl rfl fun K hK=>?_|refine bg rfl rfl fun K aa=>?_|refine aE fun X Y ae af=>?_|refine aG ?_));simp (disch:=first|decide|omega|(simp only [List.length_cons,List.length_nil];omega)) only [go_sem,beq_self_eq_true,↓ag,↓ak hN,an hN,reduceIte,reduceCtorEq,Nat.reduceAdd,Nat.reduceLT,Nat.reduceLeDiff,Nat.reduceEqDiff,Nat.reduceSub])|(with_reducible refine And.intro (fun h=>?_) (fun h=>?_) <;> try (exfalso;omega))|(with_reducible refine ba aH hN rfl ?_ ?_;kernel_rfl)|(with_reducible refine And.intro ?_ ?_)|(refine aj ?_;omega)|(exact bi hN (by decide))))
 (refine c9 hN (i:=1) (.inr rfl) (by first|rfl|(simp (disch:=first|decide|omega|(simp only [List.length_cons,List.length_nil];omega)) only [cy,cB,cD,cE,go_sem,beq_self_eq_true,↓ag,↓ak hN,an hN,reduceIte,reduceCtorEq,Nat.reduceAdd,Nat.reduceLT,Nat.reduceLeDiff,Nat.reduceEqDiff,Nat.reduceSub];rfl)) rfl ?_ rfl)
 rfl
end Go.Proofs.Ytiadchinhofieaa
namespace Go.Proofs.Ytiadchinhofieaa
set_option linter.unusedVariables false
set_option linter.unusedSimpArgs false
open Go.RowKit
end Go.Proofs.Ytiadchinhofieaa
