/-
  Small functions: marks of a set; the vertices of a trap.
-/
import Derived.Test.YtfaefmabjjndeaaZmCe
import Derived.Test.YtfaefmabjjndeaaZmFc
namespace Go.Proofs.Ytfaefmabjjndeaa
set_option linter.unusedVariables false
set_option linter.unusedSimpArgs false
open Go.RowKit
attribute [local irreducible] aG cP Aw Le
theorem eK {Q : Nat → Prop} {k : Nat} (h : ∀ i,i < k → Q i) (hk : Q k) : ∀ i,i < k + 1 → Q i:=fun i hi=>by
 rcases Nat.lt_or_ge i k with h'|h'
 · exact h i h'
 · have : i = k:=by omega
   subst this;exact hk
theorem eJ {a b : Int} (h : (a != b) = false) : a = b:=by simpa using h
theorem kY {xs ys : List Int} (hl : xs.length = ys.length) : xs = ys ↔ ∀ j,j < xs.length → gi xs j = gi ys j :=
 ⟨fun h j _=>by rw [h],fun h=>oW hl h⟩
theorem tX (xs ys : List Int) (hl : xs.length ≤ 1048576) : aG Try.prog 106 [.c (.I xs),.c (.I ys)] [] (fun _=>.c (.bool (tf (xs = ys)))):=by
 (refine b8 aP Try.func106 rfl rfl (by kernel_rfl) fun hp0 ν hX hN=>?_;simp only [cS,Nat.reduceAdd])
 (repeat' (first|(with_reducible first|(refine hK _ _ ?_;clear hK K)|(refine aa _ ?_;clear aa K)|(refine ab _ _ _ ?_;clear ab K)|(refine ac _ _ ?_;clear ac K)|refine bm ?_|refine ce ?_|refine bd ?_|refine ax ?_|refine au ?_|refine cf ?_|refine aK ?_|refine be ?_|refine cg ?_|refine bf ?_|refine bg rfl ?_|refine bn ?_|refine bh ?_|refine ch ?_|refine bi ?_|refine aJ ?_|refine n_k ?_|refine bj ?_|(refine ae ?_;clear ae X af Y)|(refine af ?_;clear ae X af Y))|(with_reducible refine bt ?_;first|refine bp rfl ?_|refine br rfl ?_)|(with_reducible refine bA ?_;first|refine ay rfl rfl rfl rfl ?_|refine aM rfl rfl rfl ?_|refine bw rfl rfl rfl rfl ?_)|(with_reducible refine cx ?_;first|refine bM rfl rfl rfl rfl ?_|refine ci rfl rfl rfl ?_|refine cD rfl rfl rfl rfl ?_|refine cE hN (by apply Exists.intro;apply And.intro;(repeat' (first|apply FtI.nil|apply FI.nil|apply FI.cons|apply FtI.cons));kernel_rfl) ?_)|((first|(with_reducible first|refine bu rfl rfl fun K hK=>?_|refine cB rfl rfl fun K ab=>?_|refine bv rfl rfl fun K aa=>?_|refine cC rfl rfl fun K ac=>?_|refine aL fun X Y ae af=>?_|refine aN ?_));simp (disch:=first|decide|omega|(simp only [List.length_cons,List.length_nil];omega)) only [go_sem,beq_self_eq_true,↓aj,↓ak hN,am hN,reduceIte,reduceCtorEq,Nat.reduceAdd,Nat.reduceLT,Nat.reduceLeDiff,Nat.reduceEqDiff,Nat.reduceSub])|(with_reducible refine And.intro (fun h=>?_) (fun h=>?_) <;> try (exfalso;omega))|(with_reducible refine bo aP hN rfl ?_ ?_;kernel_rfl)|(with_reducible refine bO aP hN rfl ?_ ?_ ?_ ?_;(kernel_rfl);(kernel_rfl);(kernel_rfl))|(with_reducible refine And.intro ?_ ?_)|(refine ah ?_;omega)|(exact bz hN (by decide))))
 · (refine cQ (.inr rfl) (by first|rfl|(simp (disch:=first|decide|omega|(simp only [List.length_cons,List.length_nil];omega)) only [cw,cA,cF,cG,go_sem,beq_self_eq_true,↓aj,↓ak hN,am hN,reduceIte,reduceCtorEq,Nat.reduceAdd,Nat.reduceLT,Nat.reduceLeDiff,Nat.reduceEqDiff,Nat.reduceSub];rfl)) ?_)
   exact congrArg C.bool (ba fun e : xs = ys=>by have:=congrArg List.length e;omega).symm
 have hll : xs.length = ys.length:=by have:=bne_eq_false_iff_eq.1 (show ((xs.length : Int) != ys.length) = false by assumption);omega
 (refine cr (fun (k : Nat)=>(tmL [(5,.c (.int .i64 k)),(0,.c (.I xs)),(1,.c (.I ys))],hpL hp0 ν [])) (fun (k : Nat)=>k ≤ xs.length ∧ ∀ j,j < k → gi xs j = gi ys j) (fun (k : Nat)=>xs.length - k) ⟨0,?_,bZ hX hN [] ?_ ?_⟩ ?_;(repeat' (first|(with_reducible first|exact bS _|exact bT|exact bU|refine bV ?_ ?_|refine bW ?_ ?_|exact az _|exact bQ _|exact ap _|rfl|exact aU _ _|refine aB ?_|exact bR _|refine aY ?_)|refine bX rfl ?_ ?_|exact aV hN _ rfl rfl rfl|exact aW hN _ rfl rfl rfl|exact aC hN _ rfl rfl rfl (Or.inr rfl)|(refine aX hN _ rfl rfl (by first|exact Or.inr rfl|exact Or.inl rfl) ?_;first|exact aH _|exact aI _)|refine aD hN rfl ?_|refine aE hN rfl rfl ?_|exact aA hN _ rfl rfl|exact aF hN rfl rfl rfl rfl|(with_reducible first|refine aT ?_|refine bJ ?_|refine bK ?_|refine bL ?_|refine bH ?_|refine bI ?_)));(try (any_goals (first|(with_reducible rfl)|(refine ah ?_;omega)))))
 · exact ⟨Nat.zero_le _,fun j h=>by omega⟩
 rintro k ⟨hk,hq⟩
 (repeat' (first|(with_reducible first|(refine hK _ _ ?_;clear hK K)|(refine aa _ ?_;clear aa K)|(refine ab _ _ _ ?_;clear ab K)|(refine ac _ _ ?_;clear ac K)|refine bm ?_|refine ce ?_|refine bd ?_|refine ax ?_|refine au ?_|refine cf ?_|refine aK ?_|refine be ?_|refine cg ?_|refine bf ?_|refine bg rfl ?_|refine bn ?_|refine bh ?_|refine ch ?_|refine bi ?_|refine aJ ?_|refine n_k ?_|refine bj ?_|(refine ae ?_;clear ae X af Y)|(refine af ?_;clear ae X af Y))|(with_reducible refine bt ?_;first|refine bp rfl ?_|refine br rfl ?_)|(with_reducible refine bA ?_;first|refine ay rfl rfl rfl rfl ?_|refine aM rfl rfl rfl ?_|refine bw rfl rfl rfl rfl ?_)|(with_reducible refine cx ?_;first|refine bM rfl rfl rfl rfl ?_|refine ci rfl rfl rfl ?_|refine cD rfl rfl rfl rfl ?_|refine cE hN (by apply Exists.intro;apply And.intro;(repeat' (first|apply FtI.nil|apply FI.nil|apply FI.cons|apply FtI.cons));kernel_rfl) ?_)|((first|(with_reducible first|refine bu rfl rfl fun K hK=>?_|refine cB rfl rfl fun K ab=>?_|refine bv rfl rfl fun K aa=>?_|refine cC rfl rfl fun K ac=>?_|refine aL fun X Y ae af=>?_|refine aN ?_));simp (disch:=first|decide|omega|(simp only [List.length_cons,List.length_nil];omega)) only [go_sem,beq_self_eq_true,↓aj,↓ak hN,am hN,reduceIte,reduceCtorEq,Nat.reduceAdd,Nat.reduceLT,Nat.reduceLeDiff,Nat.reduceEqDiff,Nat.reduceSub])|(with_reducible refine And.intro (fun h=>?_) (fun h=>?_) <;> try (exfalso;omega))|(with_reducible refine bo aP hN rfl ?_ ?_;kernel_rfl)|(with_reducible refine bO aP hN rfl ?_ ?_ ?_ ?_;(kernel_rfl);(kernel_rfl);(kernel_rfl))|(with_reducible refine And.intro ?_ ?_)|(refine ah ?_;omega)|(exact bz hN (by decide))))
 · (refine cQ (.inr rfl) (by first|rfl|(simp (disch:=first|decide|omega|(simp only [List.length_cons,List.length_nil];omega)) only [cw,cA,cF,cG,go_sem,beq_self_eq_true,↓aj,↓ak hN,am hN,reduceIte,reduceCtorEq,Nat.reduceAdd,Nat.reduceLT,Nat.reduceLeDiff,Nat.reduceEqDiff,Nat.reduceSub];rfl)) ?_)
   have hne : ¬ gi xs k = gi ys k:=by assumption
   exact congrArg C.bool (ba fun e : xs = ys=>hne (by rw [e])).symm
 · (refine ⟨k + 1,⟨?_,?_⟩,bZ hX hN [] ?_ ?_⟩;(try any_goals dsimp only);(repeat' (first|(with_reducible first|exact bS _|exact bT|exact bU|refine bV ?_ ?_|refine bW ?_ ?_|exact az _|exact bQ _|exact ap _|rfl|exact aU _ _|refine aB ?_|exact bR _|refine aY ?_)|refine bX rfl ?_ ?_|exact aV hN _ rfl rfl rfl|exact aW hN _ rfl rfl rfl|exact aC hN _ rfl rfl rfl (Or.inr rfl)|(refine aX hN _ rfl rfl (by first|exact Or.inr rfl|exact Or.inl rfl) ?_;first|exact aH _|exact aI _)|refine aD hN rfl ?_|refine aE hN rfl rfl ?_|exact aA hN _ rfl rfl|exact aF hN rfl rfl rfl rfl|(with_reducible first|refine aT ?_|refine bJ ?_|refine bK ?_|refine bL ?_|refine bH ?_|refine bI ?_)));(try (any_goals (first|(with_reducible rfl)|(refine ah ?_;omega)))))
   have he : gi xs k = gi ys k:=bne_eq_false_iff_eq.1 (by assumption)
   refine ⟨by omega,fun j hj=>?_⟩
   rcases Nat.lt_or_ge j k with h|h
   · exact hq j h
   · have : j = k:=by omega
     subst this;exact he
 · (refine cQ (.inr rfl) (by first|rfl|(simp (disch:=first|decide|omega|(simp only [List.length_cons,List.length_nil];omega)) only [cw,cA,cF,cG,go_sem,beq_self_eq_true,↓aj,↓ak hN,am hN,reduceIte,reduceCtorEq,Nat.reduceAdd,Nat.reduceLT,Nat.reduceLeDiff,Nat.reduceEqDiff,Nat.reduceSub];rfl)) ?_)
   exact congrArg C.bool (bP ((kY hll).2 fun j hj=>hq j (by omega))).symm
theorem tW (b : Bool) : aG Try.prog 165 [.c (.bool b)] [] (fun _=>.c (.int .i64 (if b then 1 else 0))):=by
 (refine b8 aP Try.func165 rfl rfl (by kernel_rfl) fun hp0 ν hX hN=>?_;simp only [cS,Nat.reduceAdd])
 (repeat' (first|(with_reducible first|(refine hK _ _ ?_;clear hK K)|(refine aa _ ?_;clear aa K)|refine bm ?_|refine ce ?_|refine bd ?_|refine ax ?_|refine au ?_|refine cf ?_|refine aK ?_|refine be ?_|refine cg ?_|refine bf ?_|refine bg rfl ?_|refine bn ?_|refine bh ?_|refine ch ?_|refine bi ?_|refine aJ ?_|refine n_k ?_|refine bj ?_|(refine ae ?_;clear ae X af Y)|(refine af ?_;clear ae X af Y))|(with_reducible refine bt ?_;first|refine bp rfl ?_|refine br rfl ?_)|(with_reducible refine bA ?_;first|refine ay rfl rfl rfl rfl ?_|refine aM rfl rfl rfl ?_|refine bw rfl rfl rfl rfl ?_)|((first|(with_reducible first|refine bu rfl rfl fun K hK=>?_|refine bv rfl rfl fun K aa=>?_|refine aL fun X Y ae af=>?_|refine aN ?_));simp (disch:=first|decide|omega|(simp only [List.length_cons,List.length_nil];omega)) only [go_sem,beq_self_eq_true,↓aj,↓ak hN,am hN,reduceIte,reduceCtorEq,Nat.reduceAdd,Nat.reduceLT,Nat.reduceLeDiff,Nat.reduceEqDiff,Nat.reduceSub])|(with_reducible refine And.intro (fun h=>?_) (fun h=>?_) <;> try (exfalso;omega))|(with_reducible refine bo aP hN rfl ?_ ?_;kernel_rfl)|(with_reducible refine And.intro ?_ ?_)|(refine ah ?_;omega)|(exact bz hN (by decide))))
 all_goals (refine cQ (.inr rfl) (by first|rfl|(simp (disch:=first|decide|omega|(simp only [List.length_cons,List.length_nil];omega)) only [cw,cA,cF,cG,go_sem,beq_self_eq_true,↓aj,↓ak hN,am hN,reduceIte,reduceCtorEq,Nat.reduceAdd,Nat.reduceLT,Nat.reduceLeDiff,Nat.reduceEqDiff,Nat.reduceSub];rfl)) ?_)
 all_goals simp [*]
end Go.Proofs.Ytfaefmabjjndeaa
namespace Go.Proofs.Ytfaefmabjjndeaa
set_option linter.unusedVariables false
set_option linter.unusedSimpArgs false
open Go.RowKit
attribute [local irreducible] aG cP Aw Le
theorem rV (xs : List Int) (x : Int) : aG Try.prog 206 [.c (.I xs),.c (.int .i64 x)] [] (fun _=>.c (.bool (tf (x ∈ xs)))) :=
 gD Try.func206 rfl rfl (u:=.bool _) (fun O w=>.bool _) fun φ hp w vs h=>by
  obtain ⟨a,b,rfl,h1,h2⟩:=xd h
  obtain rfl:=dn h2
  obtain ⟨sa,n,c,rfl,hI⟩:=pH (dQ h1)
  exact (nA sa n c xs x w hI).mono fun e w' ⟨he,hw⟩=>⟨he,by rw [← hw];exact Below.refl _ _⟩
theorem fp (xs : List Int) (hl : xs.length ≤ 1048576) : aG Try.prog 88 [.c (.I xs)] [.arr 2 .yes (.I xs)] (fun ns=>.sl (ns.getD 0 0)):=by
 (refine b8 aP Try.func88 rfl rfl (by kernel_rfl) fun hp0 ν hX hN=>?_;simp only [cS,Nat.reduceAdd])
 (repeat' (first|(with_reducible first|(refine hK _ _ ?_;clear hK K)|(refine aa _ ?_;clear aa K)|refine bm ?_|refine ce ?_|refine bd ?_|refine ax ?_|refine au ?_|refine cf ?_|refine aK ?_|refine be ?_|refine cg ?_|refine bf ?_|refine bg rfl ?_|refine bn ?_|refine bh ?_|refine ch ?_|refine bi ?_|refine aJ ?_|refine n_k ?_|refine bj ?_|(refine ae ?_;clear ae X af Y)|(refine af ?_;clear ae X af Y))|(with_reducible refine bt ?_;first|refine bp rfl ?_|refine br rfl ?_)|(with_reducible refine bA ?_;first|refine ay rfl rfl rfl rfl ?_|refine aM rfl rfl rfl ?_|refine bw rfl rfl rfl rfl ?_)|((first|(with_reducible first|refine bu rfl rfl fun K hK=>?_|refine bv rfl rfl fun K aa=>?_|refine aL fun X Y ae af=>?_|refine aN ?_));simp (disch:=first|decide|omega|(simp only [List.length_cons,List.length_nil];omega)) only [go_sem,beq_self_eq_true,↓aj,↓ak hN,am hN,reduceIte,reduceCtorEq,Nat.reduceAdd,Nat.reduceLT,Nat.reduceLeDiff,Nat.reduceEqDiff,Nat.reduceSub])|(with_reducible refine And.intro (fun h=>?_) (fun h=>?_) <;> try (exfalso;omega))|(with_reducible refine bo aP hN rfl ?_ ?_;kernel_rfl)|(with_reducible refine And.intro ?_ ?_)|(refine ah ?_;omega)|(exact bz hN (by decide))))
 (refine dC hN (i:=1) (.inr rfl) (by first|rfl|(simp (disch:=first|decide|omega|(simp only [List.length_cons,List.length_nil];omega)) only [cw,cA,cF,cG,go_sem,beq_self_eq_true,↓aj,↓ak hN,am hN,reduceIte,reduceCtorEq,Nat.reduceAdd,Nat.reduceLT,Nat.reduceLeDiff,Nat.reduceEqDiff,Nat.reduceSub];rfl)) rfl ?_ rfl)
 rfl
end Go.Proofs.Ytfaefmabjjndeaa
namespace Go.Proofs.Ytfaefmabjjndeaa
set_option linter.unusedVariables false
set_option linter.unusedSimpArgs false
open Go.RowKit
attribute [local irreducible] aG cP Aw Le
end Go.Proofs.Ytfaefmabjjndeaa
