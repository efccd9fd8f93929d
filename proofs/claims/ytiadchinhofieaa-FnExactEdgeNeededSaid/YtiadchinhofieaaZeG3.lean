/-
  Small functions: marks of a set; the vertices of a trap.
-/
import Derived.Test.YtiadchinhofieaaZeCe
import Derived.Test.YtiadchinhofieaaZeFc
namespace Go.Proofs.Ytiadchinhofieaa
set_option linter.unusedVariables false
set_option linter.unusedSimpArgs false
open Go.RowKit
attribute [local irreducible] aq ce Aw Le
theorem lk {a b : Int} (h : (a != b) = false) : a = b:=by simpa using h
theorem lm {xs ys : List Int} (hl : xs.length = ys.length) : xs = ys ↔ ∀ j,j < xs.length → gi xs j = gi ys j :=
 ⟨fun h j _=>by rw [h],fun h=>lp hl h⟩
theorem qW (xs ys : List Int) (hl : xs.length ≤ 1048576) : aq Try.prog 106 [.c (.I xs),.c (.I ys)] [] (fun _=>.c (.bool (tf (xs = ys)))):=by
 (refine be aF Try.func106 rfl rfl (by kernel_rfl) fun hp0 ν hX hN=>?_;simp only [bX,Nat.reduceAdd])
 (repeat' (first|(with_reducible first|(apply hK;clear hK K)|refine stZ ?_|refine aM rfl ?_|((first|apply ae|apply af);clear ae X af Y))|(with_reducible refine aP ?_;first|refine aN rfl ?_|refine aO rfl ?_)|(with_reducible refine ca ?_;refine cw hN ?_)|((with_reducible first|((first|refine aS ?_|refine cx ?_|refine aT ?_|refine cy ?_);intro K hK)|(refine ay ?_;intro X Y ae af)|refine az ?_);simp (disch:=first|decide|omega|(simp only [List.length_cons,List.length_nil];omega)) only [go_sem,↓ak hN,am hN,reduceIte,reduceCtorEq,Nat.reduceAdd,Nat.reduceLT,Nat.reduceLeDiff,Nat.reduceEqDiff,Nat.reduceSub])|(with_reducible refine And.intro (fun h=>?_) (fun h=>?_) <;> try (exfalso;omega))|(with_reducible refine aR aF hN ?_)|(with_reducible refine bF aF hN ?_)|(with_reducible refine And.intro ?_ ?_)|(refine ah ?_;omega)|(exact aQ hN (by decide))))
 · (refine cf (.inr rfl) (by first|rfl|(simp (disch:=first|decide|omega|(simp only [List.length_cons,List.length_nil];omega)) only [bI,bJ,bL,bN,go_sem,beq_self_eq_true,↓au,↓ak hN,am hN,reduceIte,reduceCtorEq,Nat.reduceAdd,Nat.reduceLT,Nat.reduceLeDiff,Nat.reduceEqDiff,Nat.reduceSub];rfl)) ?_)
   exact congrArg C.bool (ap fun e : xs = ys=>by have:=congrArg List.length e;omega).symm
 have hll : xs.length = ys.length:=by have:=bne_eq_false_iff_eq.1 (show ((xs.length : Int) != ys.length) = false by assumption);omega
 (refine b8 (fun (k : Nat)=>(tmL [(13,.c (.int .i64 k)),(12,.c (.int .i64 xs.length)),(0,.c (.I xs)),(1,.c (.I ys))],hpL hp0 ν [])) (fun (k : Nat)=>k ≤ xs.length ∧ ∀ j,j < k → gi xs j = gi ys j) (fun (k : Nat)=>xs.length - k) ⟨0,?_,bt hX hN [] ?_ ?_⟩ ?_;(repeat' (first|(with_reducible first|exact clZ|refine bu ?_ ?_|refine bv ?_ ?_|rfl|refine suZ ?_)|refine bw rfl ?_ ?_|exact aX hN _ rfl rfl rfl|exact aY hN _ rfl rfl rfl|exact aB hN _ rfl rfl rfl (Or.inr rfl)|(refine aU hN _ rfl rfl (by first|exact Or.inr rfl|exact Or.inl rfl) ?_;first|exact ba _|exact bc _)|refine aC hN rfl ?_|refine aD hN rfl rfl ?_|exact aA hN _ rfl rfl|exact aE hN rfl rfl rfl rfl|(with_reducible first|refine stZ ?_|refine aW ?_)));(try (any_goals (first|(with_reducible rfl)|(refine ah ?_;omega)))))
 · exact ⟨Nat.zero_le _,fun j h=>by omega⟩
 rintro k ⟨hk,hq⟩
 (repeat' (first|(with_reducible first|(apply hK;clear hK K)|refine stZ ?_|refine aM rfl ?_|((first|apply ae|apply af);clear ae X af Y))|(with_reducible refine aP ?_;first|refine aN rfl ?_|refine aO rfl ?_)|(with_reducible refine ca ?_;refine cw hN ?_)|((with_reducible first|((first|refine aS ?_|refine cx ?_|refine aT ?_|refine cy ?_);intro K hK)|(refine ay ?_;intro X Y ae af)|refine az ?_);simp (disch:=first|decide|omega|(simp only [List.length_cons,List.length_nil];omega)) only [go_sem,↓ak hN,am hN,reduceIte,reduceCtorEq,Nat.reduceAdd,Nat.reduceLT,Nat.reduceLeDiff,Nat.reduceEqDiff,Nat.reduceSub])|(with_reducible refine And.intro (fun h=>?_) (fun h=>?_) <;> try (exfalso;omega))|(with_reducible refine aR aF hN ?_)|(with_reducible refine bF aF hN ?_)|(with_reducible refine And.intro ?_ ?_)|(refine ah ?_;omega)|(exact aQ hN (by decide))))
 · (refine cf (.inr rfl) (by first|rfl|(simp (disch:=first|decide|omega|(simp only [List.length_cons,List.length_nil];omega)) only [bI,bJ,bL,bN,go_sem,beq_self_eq_true,↓au,↓ak hN,am hN,reduceIte,reduceCtorEq,Nat.reduceAdd,Nat.reduceLT,Nat.reduceLeDiff,Nat.reduceEqDiff,Nat.reduceSub];rfl)) ?_)
   have hne : ¬ gi xs k = gi ys k:=by assumption
   exact congrArg C.bool (ap fun e : xs = ys=>hne (by rw [e])).symm
 · (refine ⟨k + 1,⟨?_,?_⟩,bt hX hN [] ?_ ?_⟩;(try any_goals dsimp only);(repeat' (first|(with_reducible first|exact clZ|refine bu ?_ ?_|refine bv ?_ ?_|rfl|refine suZ ?_)|refine bw rfl ?_ ?_|exact aX hN _ rfl rfl rfl|exact aY hN _ rfl rfl rfl|exact aB hN _ rfl rfl rfl (Or.inr rfl)|(refine aU hN _ rfl rfl (by first|exact Or.inr rfl|exact Or.inl rfl) ?_;first|exact ba _|exact bc _)|refine aC hN rfl ?_|refine aD hN rfl rfl ?_|exact aA hN _ rfl rfl|exact aE hN rfl rfl rfl rfl|(with_reducible first|refine stZ ?_|refine aW ?_)));(try (any_goals (first|(with_reducible rfl)|(refine ah ?_;omega)))))
   have he : gi xs k = gi ys k:=bne_eq_false_iff_eq.1 (by assumption)
   refine ⟨by omega,fun j hj=>?_⟩
   rcases Nat.lt_or_ge j k with h|h
   · exact hq j h
   · have : j = k:=by omega
     subst this;exact he
 · (refine cf (.inr rfl) (by first|rfl|(simp (disch:=first|decide|omega|(simp only [List.length_cons,List.length_nil];omega)) only [bI,bJ,bL,bN,go_sem,beq_self_eq_true,↓au,↓ak hN,am hN,reduceIte,reduceCtorEq,Nat.reduceAdd,Nat.reduceLT,Nat.reduceLeDiff,Nat.reduceEqDiff,Nat.reduceSub];rfl)) ?_)
   exact congrArg C.bool (aH ((lm hll).2 fun j hj=>hq j (by omega))).symm
theorem px (xs ys : List Int) (hl : xs.length ≤ 1048576) : aq Try.prog 71 [.c (.I xs),.c (.I ys)] [] (fun _=>.c (.bool (tf (xs = ys)))):=by
 (refine be aF Try.func71 rfl rfl (by kernel_rfl) fun hp0 ν hX hN=>?_;simp only [bX,Nat.reduceAdd])
 (repeat' (first|(with_reducible first|(apply hK;clear hK K)|refine stZ ?_|refine aM rfl ?_|((first|apply ae|apply af);clear ae X af Y))|(with_reducible refine aP ?_;first|refine aN rfl ?_|refine aO rfl ?_)|(with_reducible refine ca ?_;refine cw hN ?_)|((with_reducible first|((first|refine aS ?_|refine cx ?_|refine aT ?_|refine cy ?_);intro K hK)|(refine ay ?_;intro X Y ae af)|refine az ?_);simp (disch:=first|decide|omega|(simp only [List.length_cons,List.length_nil];omega)) only [go_sem,↓ak hN,am hN,reduceIte,reduceCtorEq,Nat.reduceAdd,Nat.reduceLT,Nat.reduceLeDiff,Nat.reduceEqDiff,Nat.reduceSub])|(with_reducible refine And.intro (fun h=>?_) (fun h=>?_) <;> try (exfalso;omega))|(with_reducible refine aR aF hN ?_)|(with_reducible refine bF aF hN ?_)|(with_reducible refine And.intro ?_ ?_)|(refine ah ?_;omega)|(exact aQ hN (by decide))))
 · (refine cf (.inr rfl) (by first|rfl|(simp (disch:=first|decide|omega|(simp only [List.length_cons,List.length_nil];omega)) only [bI,bJ,bL,bN,go_sem,beq_self_eq_true,↓au,↓ak hN,am hN,reduceIte,reduceCtorEq,Nat.reduceAdd,Nat.reduceLT,Nat.reduceLeDiff,Nat.reduceEqDiff,Nat.reduceSub];rfl)) ?_)
   exact congrArg C.bool (ap fun e : xs = ys=>by have:=congrArg List.length e;omega).symm
 have hll : xs.length = ys.length:=by have:=bne_eq_false_iff_eq.1 (show ((xs.length : Int) != ys.length) = false by assumption);omega
 (refine b8 (fun (k : Nat)=>(tmL [(5,.c (.int .i64 k)),(0,.c (.I xs)),(1,.c (.I ys))],hpL hp0 ν [])) (fun (k : Nat)=>k ≤ xs.length ∧ ∀ j,j < k → gi xs j = gi ys j) (fun (k : Nat)=>xs.length - k) ⟨0,?_,bt hX hN [] ?_ ?_⟩ ?_;(repeat' (first|(with_reducible first|exact clZ|refine bu ?_ ?_|refine bv ?_ ?_|rfl|refine suZ ?_)|refine bw rfl ?_ ?_|exact aX hN _ rfl rfl rfl|exact aY hN _ rfl rfl rfl|exact aB hN _ rfl rfl rfl (Or.inr rfl)|(refine aU hN _ rfl rfl (by first|exact Or.inr rfl|exact Or.inl rfl) ?_;first|exact ba _|exact bc _)|refine aC hN rfl ?_|refine aD hN rfl rfl ?_|exact aA hN _ rfl rfl|exact aE hN rfl rfl rfl rfl|(with_reducible first|refine stZ ?_|refine aW ?_)));(try (any_goals (first|(with_reducible rfl)|(refine ah ?_;omega)))))
 · exact ⟨Nat.zero_le _,fun j h=>by omega⟩
 rintro k ⟨hk,hq⟩
 (repeat' (first|(with_reducible first|(apply hK;clear hK K)|refine stZ ?_|refine aM rfl ?_|((first|apply ae|apply af);clear ae X af Y))|(with_reducible refine aP ?_;first|refine aN rfl ?_|refine aO rfl ?_)|(with_reducible refine ca ?_;refine cw hN ?_)|((with_reducible first|((first|refine aS ?_|refine cx ?_|refine aT ?_|refine cy ?_);intro K hK)|(refine ay ?_;intro X Y ae af)|refine az ?_);simp (disch:=first|decide|omega|(simp only [List.length_cons,List.length_nil];omega)) only [go_sem,↓ak hN,am hN,reduceIte,reduceCtorEq,Nat.reduceAdd,Nat.reduceLT,Nat.reduceLeDiff,Nat.reduceEqDiff,Nat.reduceSub])|(with_reducible refine And.intro (fun h=>?_) (fun h=>?_) <;> try (exfalso;omega))|(with_reducible refine aR aF hN ?_)|(with_reducible refine bF aF hN ?_)|(with_reducible refine And.intro ?_ ?_)|(refine ah ?_;omega)|(exact aQ hN (by decide))))
 · (refine cf (.inr rfl) (by first|rfl|(simp (disch:=first|decide|omega|(simp only [List.length_cons,List.length_nil];omega)) only [bI,bJ,bL,bN,go_sem,beq_self_eq_true,↓au,↓ak hN,am hN,reduceIte,reduceCtorEq,Nat.reduceAdd,Nat.reduceLT,Nat.reduceLeDiff,Nat.reduceEqDiff,Nat.reduceSub];rfl)) ?_)
   have hne : ¬ gi xs k = gi ys k:=by assumption
   exact congrArg C.bool (ap fun e : xs = ys=>hne (by rw [e])).symm
 · (refine ⟨k + 1,⟨?_,?_⟩,bt hX hN [] ?_ ?_⟩;(try any_goals dsimp only);(repeat' (first|(with_reducible first|exact clZ|refine bu ?_ ?_|refine bv ?_ ?_|rfl|refine suZ ?_)|refine bw rfl ?_ ?_|exact aX hN _ rfl rfl rfl|exact aY hN _ rfl rfl rfl|exact aB hN _ rfl rfl rfl (Or.inr rfl)|(refine aU hN _ rfl rfl (by first|exact Or.inr rfl|exact Or.inl rfl) ?_;first|exact ba _|exact bc _)|refine aC hN rfl ?_|refine aD hN rfl rfl ?_|exact aA hN _ rfl rfl|exact aE hN rfl rfl rfl rfl|(with_reducible first|refine stZ ?_|refine aW ?_)));(try (any_goals (first|(with_reducible rfl)|(refine ah ?_;omega)))))
   have he : gi xs k = gi ys k:=bne_eq_false_iff_eq.1 (by assumption)
   refine ⟨by omega,fun j hj=>?_⟩
   rcases Nat.lt_or_ge j k with h|h
   · exact hq j h
   · have : j = k:=by omega
     subst this;exact he
 · (refine cf (.inr rfl) (by first|rfl|(simp (disch:=first|decide|omega|(simp only [List.length_cons,List.length_nil];omega)) only [bI,bJ,bL,bN,go_sem,beq_self_eq_true,↓au,↓ak hN,am hN,reduceIte,reduceCtorEq,Nat.reduceAdd,Nat.reduceLT,Nat.reduceLeDiff,Nat.reduceEqDiff,Nat.reduceSub];rfl)) ?_)
   exact congrArg C.bool (aH ((lm hll).2 fun j hj=>hq j (by omega))).symm
theorem pt (b : Bool) : aq Try.prog 116 [.c (.bool b)] [] (fun _=>.c (.int .i64 (if b then 1 else 0))):=by
 (refine be aF Try.func116 rfl rfl (by kernel_rfl) fun hp0 ν hX hN=>?_;simp only [bX,Nat.reduceAdd])
 (repeat' (first|(with_reducible first|(apply hK;clear hK K)|refine stZ ?_|refine aM rfl ?_|((first|apply ae|apply af);clear ae X af Y))|(with_reducible refine aP ?_;first|refine aN rfl ?_|refine aO rfl ?_)|((with_reducible first|((first|refine aS ?_|refine aT ?_);intro K hK)|(refine ay ?_;intro X Y ae af)|refine az ?_);simp (disch:=first|decide|omega|(simp only [List.length_cons,List.length_nil];omega)) only [go_sem,↓ak hN,am hN,reduceIte,reduceCtorEq,Nat.reduceAdd,Nat.reduceLT,Nat.reduceLeDiff,Nat.reduceEqDiff,Nat.reduceSub])|(with_reducible refine And.intro (fun h=>?_) (fun h=>?_) <;> try (exfalso;omega))|(with_reducible refine aR aF hN ?_)|(with_reducible refine And.intro ?_ ?_)|(refine ah ?_;omega)|(exact aQ hN (by decide))))
 all_goals (refine cf (.inr rfl) (by first|rfl|(simp (disch:=first|decide|omega|(simp only [List.length_cons,List.length_nil];omega)) only [bI,bJ,bL,bN,go_sem,beq_self_eq_true,↓au,↓ak hN,am hN,reduceIte,reduceCtorEq,Nat.reduceAdd,Nat.reduceLT,Nat.reduceLeDiff,Nat.reduceEqDiff,Nat.reduceSub];rfl)) ?_)
 all_goals simp [*]
theorem nB (n : Nat) (hn : n ≤ 256) : aq Try.prog 153 [.c (.int .i64 n)] [.arr 2 .yes (.I (tab n fun v=>v))] (fun ns=>.sl (ns.getD 0 0)):=by
 (refine be aF Try.func153 rfl rfl (by kernel_rfl) fun hp0 ν hX hN=>?_;simp only [bX,Nat.reduceAdd])
 (repeat' (first|(with_reducible first|(apply hK;clear hK K)|refine stZ ?_|refine aM rfl ?_|((first|apply ae|apply af);clear ae X af Y))|(with_reducible refine aP ?_;first|refine aN rfl ?_|refine aO rfl ?_)|(with_reducible refine bg ?_;first|refine aI rfl rfl rfl rfl ?_|refine bf rfl rfl rfl ?_|refine bp rfl rfl rfl rfl ?_)|((first|(with_reducible first|((first|refine aS ?_|refine aT ?_);intro K hK)|(refine ay ?_;intro X Y ae af)|refine az ?_)|(with_reducible refine bg ?_;refine aJ rfl rfl fun X Y ae af=>?_));simp (disch:=first|decide|omega|(simp only [List.length_cons,List.length_nil];omega)) only [go_sem,↓ak hN,am hN,reduceIte,reduceCtorEq,Nat.reduceAdd,Nat.reduceLT,Nat.reduceLeDiff,Nat.reduceEqDiff,Nat.reduceSub])|(with_reducible refine And.intro (fun h=>?_) (fun h=>?_) <;> try (exfalso;omega))|(with_reducible refine aR aF hN ?_)|(with_reducible refine And.intro ?_ ?_)|(refine ah ?_;omega)|(exact aQ hN (by decide))))
 rw [if_neg (show ¬ (n : Int) < 0 by omega)]
 refine ⟨fun h=>?_,fun h=>?_⟩
 · exfalso;simp at h;omega
 (repeat' (first|(with_reducible first|(apply hK;clear hK K)|refine stZ ?_|refine aM rfl ?_|((first|apply ae|apply af);clear ae X af Y))|(with_reducible refine aP ?_;first|refine aN rfl ?_|refine aO rfl ?_)|(with_reducible refine bg ?_;first|refine aI rfl rfl rfl rfl ?_|refine bf rfl rfl rfl ?_|refine bp rfl rfl rfl rfl ?_)|((first|(with_reducible first|((first|refine aS ?_|refine aT ?_);intro K hK)|(refine ay ?_;intro X Y ae af)|refine az ?_)|(with_reducible refine bg ?_;refine aJ rfl rfl fun X Y ae af=>?_));simp (disch:=first|decide|omega|(simp only [List.length_cons,List.length_nil];omega)) only [go_sem,↓ak hN,am hN,reduceIte,reduceCtorEq,Nat.reduceAdd,Nat.reduceLT,Nat.reduceLeDiff,Nat.reduceEqDiff,Nat.reduceSub])|(with_reducible refine And.intro (fun h=>?_) (fun h=>?_) <;> try (exfalso;omega))|(with_reducible refine aR aF hN ?_)|(with_reducible refine And.intro ?_ ?_)|(refine ah ?_;omega)|(exact aQ hN (by decide))))
 (refine b8 (fun (k : Nat)=>(tmL [(4,.c (.int .i64 k)),(3,.sl (ν 0)),(0,.c (.int .i64 n))],hpL hp0 ν [.arr 2 .yes (.I (tab k fun v=>v))])) (fun (k : Nat)=>k ≤ n) (fun (k : Nat)=>n - k) ⟨0,?_,bt hX hN [] ?_ ?_⟩ ?_;(repeat' (first|(with_reducible first|exact clZ|refine bu ?_ ?_|refine bv ?_ ?_|rfl|refine suZ ?_)|refine bw rfl ?_ ?_|exact aX hN _ rfl rfl rfl|exact aY hN _ rfl rfl rfl|exact aB hN _ rfl rfl rfl (Or.inr rfl)|(refine aU hN _ rfl rfl (by first|exact Or.inr rfl|exact Or.inl rfl) ?_;first|exact ba _|exact bc _)|refine aC hN rfl ?_|refine aD hN rfl rfl ?_|exact aA hN _ rfl rfl|exact aE hN rfl rfl rfl rfl|(with_reducible first|refine stZ ?_|refine aW ?_)));(try (any_goals (first|(with_reducible rfl)|(refine ah ?_;omega)))))
 · rfl
 intro k hk
 have hlen:=cQ k fun v=>(v : Int)
 (repeat' (first|(with_reducible first|(apply hK;clear hK K)|refine stZ ?_|refine aM rfl ?_|((first|apply ae|apply af);clear ae X af Y))|(with_reducible refine aP ?_;first|refine aN rfl ?_|refine aO rfl ?_)|(with_reducible refine bg ?_;first|refine aI rfl rfl rfl rfl ?_|refine bf rfl rfl rfl ?_|refine bp rfl rfl rfl rfl ?_)|((first|(with_reducible first|((first|refine aS ?_|refine aT ?_);intro K hK)|(refine ay ?_;intro X Y ae af)|refine az ?_)|(with_reducible refine bg ?_;refine aJ rfl rfl fun X Y ae af=>?_));simp (disch:=first|decide|omega|(simp only [List.length_cons,List.length_nil];omega)) only [go_sem,↓ak hN,am hN,reduceIte,reduceCtorEq,Nat.reduceAdd,Nat.reduceLT,Nat.reduceLeDiff,Nat.reduceEqDiff,Nat.reduceSub])|(with_reducible refine And.intro (fun h=>?_) (fun h=>?_) <;> try (exfalso;omega))|(with_reducible refine aR aF hN ?_)|(with_reducible refine And.intro ?_ ?_)|(refine ah ?_;omega)|(exact aQ hN (by decide))))
 · (refine ⟨k + 1,⟨?_,?_⟩,bt hX hN [(0,2)] ?_ ?_⟩;(try any_goals dsimp only);(repeat' (first|(with_reducible first|exact clZ|refine bu ?_ ?_|refine bv ?_ ?_|rfl|refine suZ ?_)|refine bw rfl ?_ ?_|exact aX hN _ rfl rfl rfl|exact aY hN _ rfl rfl rfl|exact aB hN _ rfl rfl rfl (Or.inr rfl)|(refine aU hN _ rfl rfl (by first|exact Or.inr rfl|exact Or.inl rfl) ?_;first|exact ba _|exact bc _)|refine aC hN rfl ?_|refine aD hN rfl rfl ?_|exact aA hN _ rfl rfl|exact aE hN rfl rfl rfl rfl|(with_reducible first|refine stZ ?_|refine aW ?_)));(try (any_goals (first|(with_reducible rfl)|(refine ah ?_;omega)))))
   exact kB k fun v=>(v : Int)
 · (refine df hN (i:=0) (.inr rfl) (by first|rfl|(simp (disch:=first|decide|omega|(simp only [List.length_cons,List.length_nil];omega)) only [bI,bJ,bL,bN,go_sem,beq_self_eq_true,↓au,↓ak hN,am hN,reduceIte,reduceCtorEq,Nat.reduceAdd,Nat.reduceLT,Nat.reduceLeDiff,Nat.reduceEqDiff,Nat.reduceSub];rfl)) rfl ?_ rfl)
   rw [show k = n by omega]
theorem pq (a : Ar) (hn : a.own.length ≤ 256) : aq Try.prog 138 [arA a] [.arr 2 .yes (.I (tab a.own.length fun v=>v))] (fun ns=>.sl (ns.getD 0 0)):=by
 (refine be aF Try.func138 rfl rfl (by kernel_rfl) fun hp0 ν hX hN=>?_;simp only [bX,Nat.reduceAdd])
 (repeat' (first|(with_reducible first|(apply hK;clear hK K)|refine stZ ?_|refine aM rfl ?_|((first|apply ae|apply af);clear ae X af Y))|(with_reducible refine aP ?_;first|refine aN rfl ?_|refine aO rfl ?_)|((with_reducible first|((first|refine aS ?_|refine aT ?_);intro K hK)|(refine ay ?_;intro X Y ae af)|refine az ?_);simp (disch:=first|decide|omega|(simp only [List.length_cons,List.length_nil];omega)) only [go_sem,↓ak hN,am hN,reduceIte,reduceCtorEq,Nat.reduceAdd,Nat.reduceLT,Nat.reduceLeDiff,Nat.reduceEqDiff,Nat.reduceSub])|(with_reducible refine And.intro (fun h=>?_) (fun h=>?_) <;> try (exfalso;omega))|(with_reducible refine aR aF hN ?_)|(refine br (oT a) ?_ rfl (fun _=>rfl) ?_)|(refine br (nB a.own.length hn) ?_ rfl (fun _=>rfl) ?_)|(with_reducible first|exact a9|refine aK ?_ ?_|exact cF _|refine bB ?_|exact bD _|exact bQ _ _|refine bP ?_|exact bz _)|exact bC hN rfl rfl|(refine bO hN rfl ?_;first|exact ba _|exact bc _)|exact bA rfl rfl rfl|(simp only [aV,List.map_nil])|(with_reducible refine bn ?_)|(with_reducible refine And.intro ?_ ?_)|(refine ah ?_;omega)|(exact aQ hN (by decide))))
 (refine df hN (i:=1) (.inr rfl) (by first|rfl|(simp (disch:=first|decide|omega|(simp only [List.length_cons,List.length_nil];omega)) only [bI,bJ,bL,bN,go_sem,beq_self_eq_true,↓au,↓ak hN,am hN,reduceIte,reduceCtorEq,Nat.reduceAdd,Nat.reduceLT,Nat.reduceLeDiff,Nat.reduceEqDiff,Nat.reduceSub];rfl)) rfl ?_ rfl)
 rfl
end Go.Proofs.Ytiadchinhofieaa
namespace Go.Proofs.Ytiadchinhofieaa
set_option linter.unusedVariables false
set_option linter.unusedSimpArgs false
open Go.RowKit
attribute [local irreducible] aq ce Aw Le
theorem l7 (xs : List Int) (x : Int) : aq Try.prog 63 [.c (.I xs),.c (.int .i64 x)] [] (fun _=>.c (.bool (tf (x ∈ xs)))) :=
 ef Try.func63 rfl rfl (u:=.bool _) (fun O w=>.bool _) fun φ hp w vs h=>by
  obtain ⟨a,b,rfl,h1,h2⟩:=qE h
  obtain rfl:=co h2
  obtain ⟨sa,n,c,rfl,hI⟩:=k8 (cY h1)
  exact (jR sa n c xs x w hI).mono fun e w' ⟨he,hw⟩=>⟨he,by rw [← hw];exact Below.refl _ _⟩
theorem ln (xs : List Int) (hl : xs.length ≤ 1048576) : aq Try.prog 109 [.c (.I xs)] [.arr 2 .yes (.I xs)] (fun ns=>.sl (ns.getD 0 0)):=by
 (refine be aF Try.func109 rfl rfl (by kernel_rfl) fun hp0 ν hX hN=>?_;simp only [bX,Nat.reduceAdd])
 (repeat' (first|(with_reducible first|(apply hK;clear hK K)|refine stZ ?_|refine aM rfl ?_|((first|apply ae|apply af);clear ae X af Y))|(with_reducible refine aP ?_;first|refine aN rfl ?_|refine aO rfl ?_)|((with_reducible first|((first|refine aS ?_|refine aT ?_);intro K hK)|(refine ay ?_;intro X Y ae af)|refine az ?_);simp (disch:=first|decide|omega|(simp only [List.length_cons,List.length_nil];omega)) only [go_sem,↓ak hN,am hN,reduceIte,reduceCtorEq,Nat.reduceAdd,Nat.reduceLT,Nat.reduceLeDiff,Nat.reduceEqDiff,Nat.reduceSub])|(with_reducible refine And.intro (fun h=>?_) (fun h=>?_) <;> try (exfalso;omega))|(with_reducible refine aR aF hN ?_)|(with_reducible refine And.intro ?_ ?_)|(refine ah ?_;omega)|(exact aQ hN (by decide))))
 (refine df hN (i:=1) (.inr rfl) (by first|rfl|(simp (disch:=first|decide|omega|(simp only [List.length_cons,List.length_nil];omega)) only [bI,bJ,bL,bN,go_sem,beq_self_eq_true,↓au,↓ak hN,am hN,reduceIte,reduceCtorEq,Nat.reduceAdd,Nat.reduceLT,Nat.reduceLeDiff,Nat.reduceEqDiff,Nat.reduceSub];rfl)) rfl ?_ rfl)
 rfl
end Go.Proofs.Ytiadchinhofieaa
namespace Go.Proofs.Ytiadchinhofieaa
set_option linter.unusedVariables false
set_option linter.unusedSimpArgs false
open Go.RowKit
end Go.Proofs.Ytiadchinhofieaa
