/-
  Small functions: marks of a set; the vertices of a trap.
-/
import Derived.Test.YtfaefmabjjndeaaZnCe
import Derived.Test.YtfaefmabjjndeaaZnFc
namespace Go.Proofs.Ytfaefmabjjndeaa
set_option linter.unusedVariables false
set_option linter.unusedSimpArgs false
open Go.RowKit
attribute [local irreducible] ax cJ Aw Le
theorem dx {Q : Nat → Prop} {k : Nat} (h : ∀ i,i < k → Q i) (hk : Q k) : ∀ i,i < k + 1 → Q i:=fun i hi=>by
 rcases Nat.lt_or_ge i k with h'|h'
 · exact h i h'
 · have : i = k:=by omega
   subst this;exact hk
theorem en {a b : Int} (h : (a != b) = false) : a = b:=by simpa using h
theorem jW {xs ys : List Int} (hl : xs.length = ys.length) : xs = ys ↔ ∀ j,j < xs.length → gi xs j = gi ys j :=
 ⟨fun h j _=>by rw [h],fun h=>pR hl h⟩
theorem rk (xs ys : List Int) (hl : xs.length ≤ 1048576) : ax Try.prog 106 [.c (.I xs),.c (.I ys)] [] (fun _=>.c (.bool (tf (xs = ys)))):=by
 (refine bV aP Try.func106 rfl rfl (by kernel_rfl) fun hp0 ν hX hN=>?_;simp only [cK,Nat.reduceAdd])
 (repeat' (first|(with_reducible first|(refine hK _ _ ?_;clear hK K)|(refine aa _ ?_;clear aa K)|(refine ab _ _ _ ?_;clear ab K)|(refine ac _ _ ?_;clear ac K)|refine bj ?_|refine cc ?_|refine bc ?_|refine aq ?_|refine ap ?_|refine ce ?_|refine aJ ?_|refine bd ?_|refine cf ?_|refine be ?_|refine bf rfl ?_|refine bm ?_|refine bg ?_|refine cg ?_|refine bh ?_|refine aI ?_|refine n_k ?_|refine bi ?_|(refine ae ?_;clear ae X af Y)|(refine af ?_;clear ae X af Y))|(with_reducible refine br ?_;first|refine bo rfl ?_|refine bp rfl ?_)|(with_reducible refine bz ?_;first|refine au rfl rfl rfl rfl ?_|refine aL rfl rfl rfl ?_|refine bv rfl rfl rfl rfl ?_)|(with_reducible refine cD ?_;first|refine bY rfl rfl rfl rfl ?_|refine ck rfl rfl rfl ?_|refine cG rfl rfl rfl rfl ?_|refine cH hN (by apply Exists.intro;apply And.intro;(repeat' (first|apply FtI.nil|apply FI.nil|apply FI.cons|apply FtI.cons));kernel_rfl) ?_)|((first|(with_reducible first|refine bt rfl rfl fun K hK=>?_|refine cE rfl rfl fun K ab=>?_|refine bu rfl rfl fun K aa=>?_|refine cF rfl rfl fun K ac=>?_|refine aK fun X Y ae af=>?_|refine aM ?_));simp (disch:=first|decide|omega|(simp only [List.length_cons,List.length_nil];omega)) only [go_sem,beq_self_eq_true,↓aj,↓ak hN,am hN,reduceIte,reduceCtorEq,Nat.reduceAdd,Nat.reduceLT,Nat.reduceLeDiff,Nat.reduceEqDiff,Nat.reduceSub])|(with_reducible refine And.intro (fun h=>?_) (fun h=>?_) <;> try (exfalso;omega))|(with_reducible refine bn aP hN rfl ?_ ?_;kernel_rfl)|(with_reducible refine bZ aP hN rfl ?_ ?_ ?_ ?_;(kernel_rfl);(kernel_rfl);(kernel_rfl))|(with_reducible refine And.intro ?_ ?_)|(refine ah ?_;omega)|(exact bw hN (by decide))))
 · (refine cO (.inr rfl) (by first|rfl|(simp (disch:=first|decide|omega|(simp only [List.length_cons,List.length_nil];omega)) only [cj,cn,cu,cy,go_sem,beq_self_eq_true,↓aj,↓ak hN,am hN,reduceIte,reduceCtorEq,Nat.reduceAdd,Nat.reduceLT,Nat.reduceLeDiff,Nat.reduceEqDiff,Nat.reduceSub];rfl)) ?_)
   exact congrArg C.bool (aH fun e : xs = ys=>by have:=congrArg List.length e;omega).symm
 have hll : xs.length = ys.length:=by have:=bne_eq_false_iff_eq.1 (show ((xs.length : Int) != ys.length) = false by assumption);omega
 (refine co (fun (k : Nat)=>(tmL [(5,.c (.int .i64 k)),(0,.c (.I xs)),(1,.c (.I ys))],hpL hp0 ν [])) (fun (k : Nat)=>k ≤ xs.length ∧ ∀ j,j < k → gi xs j = gi ys j) (fun (k : Nat)=>xs.length - k) ⟨0,?_,bX hX hN [] ?_ ?_⟩ ?_;(repeat' (first|(with_reducible first|exact bP _|exact bQ|exact bR|refine bS ?_ ?_|refine bT ?_ ?_|exact ay _|exact bN _|exact ao _|rfl|exact aS _ _|refine aA ?_|exact bO _|refine aW ?_)|refine bU rfl ?_ ?_|exact aT hN _ rfl rfl rfl|exact aU hN _ rfl rfl rfl|exact aB hN _ rfl rfl rfl (Or.inr rfl)|(refine aV hN _ rfl rfl (by first|exact Or.inr rfl|exact Or.inl rfl) ?_;first|exact aN _|exact aO _)|refine aC hN rfl ?_|refine aD hN rfl rfl ?_|exact az hN _ rfl rfl|exact aE hN rfl rfl rfl rfl|(with_reducible first|refine aR ?_|refine bF ?_|refine bH ?_|refine bI ?_|refine bG ?_|refine bE ?_)));(try (any_goals (first|(with_reducible rfl)|(refine ah ?_;omega)))))
 · exact ⟨Nat.zero_le _,fun j h=>by omega⟩
 rintro k ⟨hk,hq⟩
 (repeat' (first|(with_reducible first|(refine hK _ _ ?_;clear hK K)|(refine aa _ ?_;clear aa K)|(refine ab _ _ _ ?_;clear ab K)|(refine ac _ _ ?_;clear ac K)|refine bj ?_|refine cc ?_|refine bc ?_|refine aq ?_|refine ap ?_|refine ce ?_|refine aJ ?_|refine bd ?_|refine cf ?_|refine be ?_|refine bf rfl ?_|refine bm ?_|refine bg ?_|refine cg ?_|refine bh ?_|refine aI ?_|refine n_k ?_|refine bi ?_|(refine ae ?_;clear ae X af Y)|(refine af ?_;clear ae X af Y))|(with_reducible refine br ?_;first|refine bo rfl ?_|refine bp rfl ?_)|(with_reducible refine bz ?_;first|refine au rfl rfl rfl rfl ?_|refine aL rfl rfl rfl ?_|refine bv rfl rfl rfl rfl ?_)|(with_reducible refine cD ?_;first|refine bY rfl rfl rfl rfl ?_|refine ck rfl rfl rfl ?_|refine cG rfl rfl rfl rfl ?_|refine cH hN (by apply Exists.intro;apply And.intro;(repeat' (first|apply FtI.nil|apply FI.nil|apply FI.cons|apply FtI.cons));kernel_rfl) ?_)|((first|(with_reducible first|refine bt rfl rfl fun K hK=>?_|refine cE rfl rfl fun K ab=>?_|refine bu rfl rfl fun K aa=>?_|refine cF rfl rfl fun K ac=>?_|refine aK fun X Y ae af=>?_|refine aM ?_));simp (disch:=first|decide|omega|(simp only [List.length_cons,List.length_nil];omega)) only [go_sem,beq_self_eq_true,↓aj,↓ak hN,am hN,reduceIte,reduceCtorEq,Nat.reduceAdd,Nat.reduceLT,Nat.reduceLeDiff,Nat.reduceEqDiff,Nat.reduceSub])|(with_reducible refine And.intro (fun h=>?_) (fun h=>?_) <;> try (exfalso;omega))|(with_reducible refine bn aP hN rfl ?_ ?_;kernel_rfl)|(with_reducible refine bZ aP hN rfl ?_ ?_ ?_ ?_;(kernel_rfl);(kernel_rfl);(kernel_rfl))|(with_reducible refine And.intro ?_ ?_)|(refine ah ?_;omega)|(exact bw hN (by decide))))
 · (refine cO (.inr rfl) (by first|rfl|(simp (disch:=first|decide|omega|(simp only [List.length_cons,List.length_nil];omega)) only [cj,cn,cu,cy,go_sem,beq_self_eq_true,↓aj,↓ak hN,am hN,reduceIte,reduceCtorEq,Nat.reduceAdd,Nat.reduceLT,Nat.reduceLeDiff,Nat.reduceEqDiff,Nat.reduceSub];rfl)) ?_)
   have hne : ¬ gi xs k = gi ys k:=by assumption
   exact congrArg C.bool (aH fun e : xs = ys=>hne (by rw [e])).symm
 · (refine ⟨k + 1,⟨?_,?_⟩,bX hX hN [] ?_ ?_⟩;(try any_goals dsimp only);(repeat' (first|(with_reducible first|exact bP _|exact bQ|exact bR|refine bS ?_ ?_|refine bT ?_ ?_|exact ay _|exact bN _|exact ao _|rfl|exact aS _ _|refine aA ?_|exact bO _|refine aW ?_)|refine bU rfl ?_ ?_|exact aT hN _ rfl rfl rfl|exact aU hN _ rfl rfl rfl|exact aB hN _ rfl rfl rfl (Or.inr rfl)|(refine aV hN _ rfl rfl (by first|exact Or.inr rfl|exact Or.inl rfl) ?_;first|exact aN _|exact aO _)|refine aC hN rfl ?_|refine aD hN rfl rfl ?_|exact az hN _ rfl rfl|exact aE hN rfl rfl rfl rfl|(with_reducible first|refine aR ?_|refine bF ?_|refine bH ?_|refine bI ?_|refine bG ?_|refine bE ?_)));(try (any_goals (first|(with_reducible rfl)|(refine ah ?_;omega)))))
   have he : gi xs k = gi ys k:=bne_eq_false_iff_eq.1 (by assumption)
   refine ⟨by omega,fun j hj=>?_⟩
   rcases Nat.lt_or_ge j k with h|h
   · exact hq j h
   · have : j = k:=by omega
     subst this;exact he
 · (refine cO (.inr rfl) (by first|rfl|(simp (disch:=first|decide|omega|(simp only [List.length_cons,List.length_nil];omega)) only [cj,cn,cu,cy,go_sem,beq_self_eq_true,↓aj,↓ak hN,am hN,reduceIte,reduceCtorEq,Nat.reduceAdd,Nat.reduceLT,Nat.reduceLeDiff,Nat.reduceEqDiff,Nat.reduceSub];rfl)) ?_)
   exact congrArg C.bool (bW ((jW hll).2 fun j hj=>hq j (by omega))).symm
theorem rj (b : Bool) : ax Try.prog 165 [.c (.bool b)] [] (fun _=>.c (.int .i64 (if b then 1 else 0))):=by
 (refine bV aP Try.func165 rfl rfl (by kernel_rfl) fun hp0 ν hX hN=>?_;simp only [cK,Nat.reduceAdd])
 (repeat' (first|(with_reducible first|(refine hK _ _ ?_;clear hK K)|(refine aa _ ?_;clear aa K)|refine bj ?_|refine cc ?_|refine bc ?_|refine aq ?_|refine ap ?_|refine ce ?_|refine aJ ?_|refine bd ?_|refine cf ?_|refine be ?_|refine bf rfl ?_|refine bm ?_|refine bg ?_|refine cg ?_|refine bh ?_|refine aI ?_|refine n_k ?_|refine bi ?_|(refine ae ?_;clear ae X af Y)|(refine af ?_;clear ae X af Y))|(with_reducible refine br ?_;first|refine bo rfl ?_|refine bp rfl ?_)|(with_reducible refine bz ?_;first|refine au rfl rfl rfl rfl ?_|refine aL rfl rfl rfl ?_|refine bv rfl rfl rfl rfl ?_)|((first|(with_reducible first|refine bt rfl rfl fun K hK=>?_|refine bu rfl rfl fun K aa=>?_|refine aK fun X Y ae af=>?_|refine aM ?_));simp (disch:=first|decide|omega|(simp only [List.length_cons,List.length_nil];omega)) only [go_sem,beq_self_eq_true,↓aj,↓ak hN,am hN,reduceIte,reduceCtorEq,Nat.reduceAdd,Nat.reduceLT,Nat.reduceLeDiff,Nat.reduceEqDiff,Nat.reduceSub])|(with_reducible refine And.intro (fun h=>?_) (fun h=>?_) <;> try (exfalso;omega))|(with_reducible refine bn aP hN rfl ?_ ?_;kernel_rfl)|(with_reducible refine And.intro ?_ ?_)|(refine ah ?_;omega)|(exact bw hN (by decide))))
 all_goals (refine cO (.inr rfl) (by first|rfl|(simp (disch:=first|decide|omega|(simp only [List.length_cons,List.length_nil];omega)) only [cj,cn,cu,cy,go_sem,beq_self_eq_true,↓aj,↓ak hN,am hN,reduceIte,reduceCtorEq,Nat.reduceAdd,Nat.reduceLT,Nat.reduceLeDiff,Nat.reduceEqDiff,Nat.reduceSub];rfl)) ?_)
 all_goals simp [*]
end Go.Proofs.Ytfaefmabjjndeaa
namespace Go.Proofs.Ytfaefmabjjndeaa
set_option linter.unusedVariables false
set_option linter.unusedSimpArgs false
open Go.RowKit
attribute [local irreducible] ax cJ Aw Le
theorem nM (xs : List Int) (x : Int) : ax Try.prog 126 [.c (.I xs),.c (.int .i64 x)] [] (fun _=>.c (.bool (tf (x ∈ xs)))) :=
 fY Try.func126 rfl rfl (u:=.bool _) (fun O w=>.bool _) fun φ hp w vs h=>by
  obtain ⟨a,b,rfl,h1,h2⟩:=sG h
  obtain rfl:=c8 h2
  obtain ⟨sa,n,c,rfl,hI⟩:=nA (dW h1)
  exact (kT sa n c xs x w hI).mono fun e w' ⟨he,hw⟩=>⟨he,by rw [← hw];exact Below.refl _ _⟩
theorem po (xs : List Int) (x : Int) : ax Try.prog 206 [.c (.I xs),.c (.int .i64 x)] [] (fun _=>.c (.bool (tf (x ∈ xs)))) :=
 fY Try.func206 rfl rfl (u:=.bool _) (fun O w=>.bool _) fun φ hp w vs h=>by
  obtain ⟨a,b,rfl,h1,h2⟩:=sG h
  obtain rfl:=c8 h2
  obtain ⟨sa,n,c,rfl,hI⟩:=nA (dW h1)
  exact (lO sa n c xs x w hI).mono fun e w' ⟨he,hw⟩=>⟨he,by rw [← hw];exact Below.refl _ _⟩
theorem iA (xs : List Int) (hl : xs.length ≤ 1048576) : ax Try.prog 88 [.c (.I xs)] [.arr 2 .yes (.I xs)] (fun ns=>.sl (ns.getD 0 0)):=by
 (refine bV aP Try.func88 rfl rfl (by kernel_rfl) fun hp0 ν hX hN=>?_;simp only [cK,Nat.reduceAdd])
 (repeat' (first|(with_reducible first|(refine hK _ _ ?_;clear hK K)|(refine aa _ ?_;clear aa K)|refine bj ?_|refine cc ?_|refine bc ?_|refine aq ?_|refine ap ?_|refine ce ?_|refine aJ ?_|refine bd ?_|refine cf ?_|refine be ?_|refine bf rfl ?_|refine bm ?_|refine bg ?_|refine cg ?_|refine bh ?_|refine aI ?_|refine n_k ?_|refine bi ?_|(refine ae ?_;clear ae X af Y)|(refine af ?_;clear ae X af Y))|(with_reducible refine br ?_;first|refine bo rfl ?_|refine bp rfl ?_)|(with_reducible refine bz ?_;first|refine au rfl rfl rfl rfl ?_|refine aL rfl rfl rfl ?_|refine bv rfl rfl rfl rfl ?_)|((first|(with_reducible first|refine bt rfl rfl fun K hK=>?_|refine bu rfl rfl fun K aa=>?_|refine aK fun X Y ae af=>?_|refine aM ?_));simp (disch:=first|decide|omega|(simp only [List.length_cons,List.length_nil];omega)) only [go_sem,beq_self_eq_true,↓aj,↓ak hN,am hN,reduceIte,reduceCtorEq,Nat.reduceAdd,Nat.reduceLT,Nat.reduceLeDiff,Nat.reduceEqDiff,Nat.reduceSub])|(with_reducible refine And.intro (fun h=>?_) (fun h=>?_) <;> try (exfalso;omega))|(with_reducible refine bn aP hN rfl ?_ ?_;kernel_rfl)|(with_reducible refine And.intro ?_ ?_)|(refine ah ?_;omega)|(exact bw hN (by decide))))
 (refine dj hN (i:=1) (.inr rfl) (by first|rfl|(simp (disch:=first|decide|omega|(simp only [List.length_cons,List.length_nil];omega)) only [cj,cn,cu,cy,go_sem,beq_self_eq_true,↓aj,↓ak hN,am hN,reduceIte,reduceCtorEq,Nat.reduceAdd,Nat.reduceLT,Nat.reduceLeDiff,Nat.reduceEqDiff,Nat.reduceSub];rfl)) rfl ?_ rfl)
 rfl
theorem mC (xss : List (List Int)) (hl : xss.length ≤ 1048576) (hr : ∀ k,k < xss.length → (gr xss k).length ≤ 1048576) : ax Try.prog 184 [.c (.R xss)] [.arr 27 .yes (.R xss)] (fun ns=>.sl (ns.getD 0 0)):=by
 (refine bV aP Try.func184 rfl rfl (by kernel_rfl) fun hp0 ν hX hN=>?_;simp only [cK,Nat.reduceAdd])
 (repeat' (first|(with_reducible first|(refine hK _ _ ?_;clear hK K)|(refine aa _ ?_;clear aa K)|refine bj ?_|refine cc ?_|refine bc ?_|refine aq ?_|refine ap ?_|refine ce ?_|refine aJ ?_|refine bd ?_|refine cf ?_|refine be ?_|refine bf rfl ?_|refine bm ?_|refine bg ?_|refine cg ?_|refine bh ?_|refine aI ?_|refine n_k ?_|refine bi ?_|(refine ae ?_;clear ae X af Y)|(refine af ?_;clear ae X af Y))|(with_reducible refine br ?_;first|refine bo rfl ?_|refine bp rfl ?_)|(with_reducible refine bz ?_;first|refine au rfl rfl rfl rfl ?_|refine aL rfl rfl rfl ?_|refine bv rfl rfl rfl rfl ?_)|((first|(with_reducible first|refine bt rfl rfl fun K hK=>?_|refine bu rfl rfl fun K aa=>?_|refine aK fun X Y ae af=>?_|refine aM ?_));simp (disch:=first|decide|omega|(simp only [List.length_cons,List.length_nil];omega)) only [go_sem,beq_self_eq_true,↓aj,↓ak hN,am hN,reduceIte,reduceCtorEq,Nat.reduceAdd,Nat.reduceLT,Nat.reduceLeDiff,Nat.reduceEqDiff,Nat.reduceSub])|(with_reducible refine And.intro (fun h=>?_) (fun h=>?_) <;> try (exfalso;omega))|(with_reducible refine bn aP hN rfl ?_ ?_;kernel_rfl)|(with_reducible refine And.intro ?_ ?_)|(refine ah ?_;omega)|(exact bw hN (by decide))))
 (refine co (fun (k : Nat)=>(tmL [(9,.c (.int .i64 k)),(8,.c (.int .i64 xss.length)),(7,.c (.R xss)),(3,.sl (ν 0))],hpL hp0 ν [.arr 27 .yes (.R (xss.take k))])) (fun (k : Nat)=>k ≤ xss.length) (fun (k : Nat)=>xss.length - k) ⟨0,?_,bX hX hN [] ?_ ?_⟩ ?_;(repeat' (first|(with_reducible first|exact bP _|exact bQ|exact bR|refine bS ?_ ?_|refine bT ?_ ?_|exact ay _|exact bN _|exact ao _|rfl|exact aS _ _|refine aA ?_|exact bO _|refine aW ?_)|refine bU rfl ?_ ?_|exact aT hN _ rfl rfl rfl|exact aU hN _ rfl rfl rfl|exact aB hN _ rfl rfl rfl (Or.inr rfl)|(refine aV hN _ rfl rfl (by first|exact Or.inr rfl|exact Or.inl rfl) ?_;first|exact aN _|exact aO _)|refine aC hN rfl ?_|refine aD hN rfl rfl ?_|exact az hN _ rfl rfl|exact aE hN rfl rfl rfl rfl|(with_reducible first|refine aR ?_|refine bF ?_|refine bH ?_|refine bI ?_|refine bG ?_|refine bE ?_)));(try (any_goals (first|(with_reducible rfl)|(refine ah ?_;omega)))))
 · rfl
 intro k hk
 have hrk:=hr k
 have htk : (xss.take k).length = k:=by simp;omega
 (repeat' (first|(with_reducible first|(refine hK _ _ ?_;clear hK K)|(refine aa _ ?_;clear aa K)|refine bj ?_|refine cc ?_|refine bc ?_|refine aq ?_|refine ap ?_|refine ce ?_|refine aJ ?_|refine bd ?_|refine cf ?_|refine be ?_|refine bf rfl ?_|refine bm ?_|refine bg ?_|refine cg ?_|refine bh ?_|refine aI ?_|refine n_k ?_|refine bi ?_|(refine ae ?_;clear ae X af Y)|(refine af ?_;clear ae X af Y))|(with_reducible refine br ?_;first|refine bo rfl ?_|refine bp rfl ?_)|(with_reducible refine bz ?_;first|refine au rfl rfl rfl rfl ?_|refine aL rfl rfl rfl ?_|refine bv rfl rfl rfl rfl ?_)|((first|(with_reducible first|refine bt rfl rfl fun K hK=>?_|refine bu rfl rfl fun K aa=>?_|refine aK fun X Y ae af=>?_|refine aM ?_));simp (disch:=first|decide|omega|(simp only [List.length_cons,List.length_nil];omega)) only [go_sem,beq_self_eq_true,↓aj,↓ak hN,am hN,reduceIte,reduceCtorEq,Nat.reduceAdd,Nat.reduceLT,Nat.reduceLeDiff,Nat.reduceEqDiff,Nat.reduceSub])|(with_reducible refine And.intro (fun h=>?_) (fun h=>?_) <;> try (exfalso;omega))|(with_reducible refine bn aP hN rfl ?_ ?_;kernel_rfl)|(with_reducible refine And.intro ?_ ?_)|(refine ah ?_;omega)|(exact bw hN (by decide))))
 · (refine ⟨k + 1,⟨?_,?_⟩,bX hX hN [(0,4)] ?_ ?_⟩;(try any_goals dsimp only);(repeat' (first|(with_reducible first|exact bP _|exact bQ|exact bR|refine bS ?_ ?_|refine bT ?_ ?_|exact ay _|exact bN _|exact ao _|rfl|exact aS _ _|refine aA ?_|exact bO _|refine aW ?_)|refine bU rfl ?_ ?_|exact aT hN _ rfl rfl rfl|exact aU hN _ rfl rfl rfl|exact aB hN _ rfl rfl rfl (Or.inr rfl)|(refine aV hN _ rfl rfl (by first|exact Or.inr rfl|exact Or.inl rfl) ?_;first|exact aN _|exact aO _)|refine aC hN rfl ?_|refine aD hN rfl rfl ?_|exact az hN _ rfl rfl|exact aE hN rfl rfl rfl rfl|(with_reducible first|refine aR ?_|refine bF ?_|refine bH ?_|refine bI ?_|refine bG ?_|refine bE ?_)));(try (any_goals (first|(with_reducible rfl)|(refine ah ?_;omega)))))
   exact rT (by omega)
 · (refine dj hN (i:=0) (.inr rfl) (by first|rfl|(simp (disch:=first|decide|omega|(simp only [List.length_cons,List.length_nil];omega)) only [cj,cn,cu,cy,go_sem,beq_self_eq_true,↓aj,↓ak hN,am hN,reduceIte,reduceCtorEq,Nat.reduceAdd,Nat.reduceLT,Nat.reduceLeDiff,Nat.reduceEqDiff,Nat.reduceSub];rfl)) rfl ?_ rfl)
   rw [List.take_of_length_le (by omega)]
end Go.Proofs.Ytfaefmabjjndeaa
namespace Go.Proofs.Ytfaefmabjjndeaa
set_option linter.unusedVariables false
set_option linter.unusedSimpArgs false
open Go.RowKit
attribute [local irreducible] ax cJ Aw Le
end Go.Proofs.Ytfaefmabjjndeaa
