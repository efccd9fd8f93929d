/-
  Small functions: marks of a set; the vertices of a trap.
-/
import Derived.Test.YthjamlponejffaaZiCe
import Derived.Test.YthjamlponejffaaZiFc
namespace Go.Proofs.Ythjamlponejffaa
set_option linter.unusedVariables false
set_option linter.unusedSimpArgs false
open Go.RowKit
attribute [local irreducible] ap b9 Aw Le
theorem lk {Q : Nat → Prop} {k : Nat} (h : ∀ i,i < k → Q i) (hk : Q k) : ∀ i,i < k + 1 → Q i:=fun i hi=>by
 rcases Nat.lt_or_ge i k with h'|h'
 · exact h i h'
 · have : i = k:=by omega
   subst this;exact hk
theorem lm {xs ys : List Int} (hl : xs.length = ys.length) : xs = ys ↔ ∀ j,j < xs.length → gi xs j = gi ys j :=
 ⟨fun h j _=>by rw [h],fun h=>ot hl h⟩
theorem m8 (xs ys : List Int) (hl : xs.length ≤ 1048576) : ap Try.prog 113 [.c (.I xs),.c (.I ys)] [] (fun _=>.c (.bool (tf (xs = ys)))):=by
 (refine bA aQ Try.func113 rfl rfl (by kernel_rfl) fun hp0 ν hX hN=>?_;simp only [cG,Nat.reduceAdd])
 (repeat' (first|(with_reducible first|(apply hK;clear hK K)|refine stZ ?_|refine aZ rfl ?_|((first|apply ae|apply af);clear ae X af Y))|(with_reducible refine bc ?_;first|refine a8 rfl ?_|refine ba rfl ?_)|(with_reducible refine cm ?_;refine cr hN ?_)|((with_reducible first|((first|refine bf ?_|refine ct ?_|refine bg ?_|refine cw ?_);intro K hK)|(refine aN ?_;intro X Y ae af)|refine aO ?_);simp (disch:=first|decide|omega|(simp only [List.length_cons,List.length_nil];omega)) only [go_sem,↓ah hN,ak hN,reduceIte,reduceCtorEq,Nat.reduceAdd,Nat.reduceLT,Nat.reduceLeDiff,Nat.reduceEqDiff,Nat.reduceSub])|(with_reducible refine And.intro (fun h=>?_) (fun h=>?_) <;> try (exfalso;omega))|(with_reducible refine be aQ hN ?_)|(with_reducible refine bB aQ hN ?_)|(with_reducible refine And.intro ?_ ?_)|(refine aj ?_;omega)|(exact bd hN (by decide))))
 · (refine dj (.inr rfl) (by first|rfl|(simp (disch:=first|decide|omega|(simp only [List.length_cons,List.length_nil];omega)) only [bS,cc,ch,cj,go_sem,beq_self_eq_true,↓ax,↓ah hN,ak hN,reduceIte,reduceCtorEq,Nat.reduceAdd,Nat.reduceLT,Nat.reduceLeDiff,Nat.reduceEqDiff,Nat.reduceSub];rfl)) ?_)
   exact congrArg C.bool (aH fun e : xs = ys=>by have:=congrArg List.length e;omega).symm
 have hll : xs.length = ys.length:=by have:=bne_eq_false_iff_eq.1 (show ((xs.length : Int) != ys.length) = false by assumption);omega
 (refine cf (fun (k : Nat)=>(tmL [(13,.c (.int .i64 k)),(12,.c (.int .i64 xs.length)),(0,.c (.I xs)),(1,.c (.I ys))],hpL hp0 ν [])) (fun (k : Nat)=>k ≤ xs.length ∧ ∀ j,j < k → gi xs j = gi ys j) (fun (k : Nat)=>xs.length - k) ⟨0,?_,bE hX hN [] ?_ ?_⟩ ?_;(repeat' (first|(with_reducible first|exact clZ|refine bv ?_ ?_|refine bw ?_ ?_|rfl|refine suZ ?_)|refine bz rfl ?_ ?_|exact aU hN _ rfl rfl rfl|exact aV hN _ rfl rfl rfl|exact az hN _ rfl rfl rfl (Or.inr rfl)|(refine aW hN _ rfl rfl (by first|exact Or.inr rfl|exact Or.inl rfl) ?_;first|exact aF _|exact aG _)|refine aA hN rfl ?_|refine aB hN rfl rfl ?_|exact ay hN _ rfl rfl|exact aC hN rfl rfl rfl rfl|(with_reducible first|refine stZ ?_|refine aT ?_)));(try (any_goals (first|(with_reducible rfl)|(refine aj ?_;omega)))))
 · exact ⟨Nat.zero_le _,fun j h=>by omega⟩
 rintro k ⟨hk,hq⟩
 (repeat' (first|(with_reducible first|(apply hK;clear hK K)|refine stZ ?_|refine aZ rfl ?_|((first|apply ae|apply af);clear ae X af Y))|(with_reducible refine bc ?_;first|refine a8 rfl ?_|refine ba rfl ?_)|(with_reducible refine cm ?_;refine cr hN ?_)|((with_reducible first|((first|refine bf ?_|refine ct ?_|refine bg ?_|refine cw ?_);intro K hK)|(refine aN ?_;intro X Y ae af)|refine aO ?_);simp (disch:=first|decide|omega|(simp only [List.length_cons,List.length_nil];omega)) only [go_sem,↓ah hN,ak hN,reduceIte,reduceCtorEq,Nat.reduceAdd,Nat.reduceLT,Nat.reduceLeDiff,Nat.reduceEqDiff,Nat.reduceSub])|(with_reducible refine And.intro (fun h=>?_) (fun h=>?_) <;> try (exfalso;omega))|(with_reducible refine be aQ hN ?_)|(with_reducible refine bB aQ hN ?_)|(with_reducible refine And.intro ?_ ?_)|(refine aj ?_;omega)|(exact bd hN (by decide))))
 · (refine dj (.inr rfl) (by first|rfl|(simp (disch:=first|decide|omega|(simp only [List.length_cons,List.length_nil];omega)) only [bS,cc,ch,cj,go_sem,beq_self_eq_true,↓ax,↓ah hN,ak hN,reduceIte,reduceCtorEq,Nat.reduceAdd,Nat.reduceLT,Nat.reduceLeDiff,Nat.reduceEqDiff,Nat.reduceSub];rfl)) ?_)
   have hne : ¬ gi xs k = gi ys k:=by assumption
   exact congrArg C.bool (aH fun e : xs = ys=>hne (by rw [e])).symm
 · (refine ⟨k + 1,⟨?_,?_⟩,bE hX hN [] ?_ ?_⟩;(try any_goals dsimp only);(repeat' (first|(with_reducible first|exact clZ|refine bv ?_ ?_|refine bw ?_ ?_|rfl|refine suZ ?_)|refine bz rfl ?_ ?_|exact aU hN _ rfl rfl rfl|exact aV hN _ rfl rfl rfl|exact az hN _ rfl rfl rfl (Or.inr rfl)|(refine aW hN _ rfl rfl (by first|exact Or.inr rfl|exact Or.inl rfl) ?_;first|exact aF _|exact aG _)|refine aA hN rfl ?_|refine aB hN rfl rfl ?_|exact ay hN _ rfl rfl|exact aC hN rfl rfl rfl rfl|(with_reducible first|refine stZ ?_|refine aT ?_)));(try (any_goals (first|(with_reducible rfl)|(refine aj ?_;omega)))))
   have he : gi xs k = gi ys k:=bne_eq_false_iff_eq.1 (by assumption)
   refine ⟨by omega,fun j hj=>?_⟩
   rcases Nat.lt_or_ge j k with h|h
   · exact hq j h
   · have : j = k:=by omega
     subst this;exact he
 · (refine dj (.inr rfl) (by first|rfl|(simp (disch:=first|decide|omega|(simp only [List.length_cons,List.length_nil];omega)) only [bS,cc,ch,cj,go_sem,beq_self_eq_true,↓ax,↓ah hN,ak hN,reduceIte,reduceCtorEq,Nat.reduceAdd,Nat.reduceLT,Nat.reduceLeDiff,Nat.reduceEqDiff,Nat.reduceSub];rfl)) ?_)
   exact congrArg C.bool (bh ((lm hll).2 fun j hj=>hq j (by omega))).symm
end Go.Proofs.Ythjamlponejffaa
namespace Go.Proofs.Ythjamlponejffaa
set_option linter.unusedVariables false
set_option linter.unusedSimpArgs false
open Go.RowKit
attribute [local irreducible] ap b9 Aw Le
theorem mp (xs : List Int) (x : Int) : ap Try.prog 75 [.c (.I xs),.c (.int .i64 x)] [] (fun _=>.c (.bool (tf (x ∈ xs)))) :=
 fH Try.func75 rfl rfl (u:=.bool _) (fun O w=>.bool _) fun φ hp w vs h=>by
  obtain ⟨a,b,rfl,h1,h2⟩:=tQ h
  obtain rfl:=cn h2
  obtain ⟨sa,n,c,rfl,hI⟩:=nN (db h1)
  exact (jP sa n c xs x w hI).mono fun e w' ⟨he,hw⟩=>⟨he,by rw [← hw];exact Below.refl _ _⟩
theorem ln (xs : List Int) (hl : xs.length ≤ 1048576) : ap Try.prog 102 [.c (.I xs)] [.arr 2 .yes (.I xs)] (fun ns=>.sl (ns.getD 0 0)):=by
 (refine bA aQ Try.func102 rfl rfl (by kernel_rfl) fun hp0 ν hX hN=>?_;simp only [cG,Nat.reduceAdd])
 (repeat' (first|(with_reducible first|(apply hK;clear hK K)|refine stZ ?_|refine aZ rfl ?_|((first|apply ae|apply af);clear ae X af Y))|(with_reducible refine bc ?_;first|refine a8 rfl ?_|refine ba rfl ?_)|((with_reducible first|((first|refine bf ?_|refine bg ?_);intro K hK)|(refine aN ?_;intro X Y ae af)|refine aO ?_);simp (disch:=first|decide|omega|(simp only [List.length_cons,List.length_nil];omega)) only [go_sem,↓ah hN,ak hN,reduceIte,reduceCtorEq,Nat.reduceAdd,Nat.reduceLT,Nat.reduceLeDiff,Nat.reduceEqDiff,Nat.reduceSub])|(with_reducible refine And.intro (fun h=>?_) (fun h=>?_) <;> try (exfalso;omega))|(with_reducible refine be aQ hN ?_)|(with_reducible refine And.intro ?_ ?_)|(refine aj ?_;omega)|(exact bd hN (by decide))))
 (refine e8 hN (i:=1) (.inr rfl) (by first|rfl|(simp (disch:=first|decide|omega|(simp only [List.length_cons,List.length_nil];omega)) only [bS,cc,ch,cj,go_sem,beq_self_eq_true,↓ax,↓ah hN,ak hN,reduceIte,reduceCtorEq,Nat.reduceAdd,Nat.reduceLT,Nat.reduceLeDiff,Nat.reduceEqDiff,Nat.reduceSub];rfl)) rfl ?_ rfl)
 rfl
theorem lp (xss : List (List Int)) (hl : xss.length ≤ 1048576) (hr : ∀ k,k < xss.length → (gr xss k).length ≤ 1048576) : ap Try.prog 115 [.c (.R xss)] [.arr 22 .yes (.R xss)] (fun ns=>.sl (ns.getD 0 0)):=by
 (refine bA aQ Try.func115 rfl rfl (by kernel_rfl) fun hp0 ν hX hN=>?_;simp only [cG,Nat.reduceAdd])
 (repeat' (first|(with_reducible first|(apply hK;clear hK K)|refine stZ ?_|refine aZ rfl ?_|((first|apply ae|apply af);clear ae X af Y))|(with_reducible refine bc ?_;first|refine a8 rfl ?_|refine ba rfl ?_)|((with_reducible first|((first|refine bf ?_|refine bg ?_);intro K hK)|(refine aN ?_;intro X Y ae af)|refine aO ?_);simp (disch:=first|decide|omega|(simp only [List.length_cons,List.length_nil];omega)) only [go_sem,↓ah hN,ak hN,reduceIte,reduceCtorEq,Nat.reduceAdd,Nat.reduceLT,Nat.reduceLeDiff,Nat.reduceEqDiff,Nat.reduceSub])|(with_reducible refine And.intro (fun h=>?_) (fun h=>?_) <;> try (exfalso;omega))|(with_reducible refine be aQ hN ?_)|(with_reducible refine And.intro ?_ ?_)|(refine aj ?_;omega)|(exact bd hN (by decide))))
 (refine cf (fun (k : Nat)=>(tmL [(9,.c (.int .i64 k)),(8,.c (.int .i64 xss.length)),(7,.c (.R xss)),(3,.sl (ν 0))],hpL hp0 ν [.arr 22 .yes (.R (xss.take k))])) (fun (k : Nat)=>k ≤ xss.length) (fun (k : Nat)=>xss.length - k) ⟨0,?_,bE hX hN [] ?_ ?_⟩ ?_;(repeat' (first|(with_reducible first|exact clZ|refine bv ?_ ?_|refine bw ?_ ?_|rfl|refine suZ ?_)|refine bz rfl ?_ ?_|exact aU hN _ rfl rfl rfl|exact aV hN _ rfl rfl rfl|exact az hN _ rfl rfl rfl (Or.inr rfl)|(refine aW hN _ rfl rfl (by first|exact Or.inr rfl|exact Or.inl rfl) ?_;first|exact aF _|exact aG _)|refine aA hN rfl ?_|refine aB hN rfl rfl ?_|exact ay hN _ rfl rfl|exact aC hN rfl rfl rfl rfl|(with_reducible first|refine stZ ?_|refine aT ?_)));(try (any_goals (first|(with_reducible rfl)|(refine aj ?_;omega)))))
 · rfl
 intro k hk
 have hrk:=hr k
 have htk : (xss.take k).length = k:=by simp;omega
 (repeat' (first|(with_reducible first|(apply hK;clear hK K)|refine stZ ?_|refine aZ rfl ?_|((first|apply ae|apply af);clear ae X af Y))|(with_reducible refine bc ?_;first|refine a8 rfl ?_|refine ba rfl ?_)|((with_reducible first|((first|refine bf ?_|refine bg ?_);intro K hK)|(refine aN ?_;intro X Y ae af)|refine aO ?_);simp (disch:=first|decide|omega|(simp only [List.length_cons,List.length_nil];omega)) only [go_sem,↓ah hN,ak hN,reduceIte,reduceCtorEq,Nat.reduceAdd,Nat.reduceLT,Nat.reduceLeDiff,Nat.reduceEqDiff,Nat.reduceSub])|(with_reducible refine And.intro (fun h=>?_) (fun h=>?_) <;> try (exfalso;omega))|(with_reducible refine be aQ hN ?_)|(with_reducible refine And.intro ?_ ?_)|(refine aj ?_;omega)|(exact bd hN (by decide))))
 · (refine ⟨k + 1,⟨?_,?_⟩,bE hX hN [(0,4)] ?_ ?_⟩;(try any_goals dsimp only);(repeat' (first|(with_reducible first|exact clZ|refine bv ?_ ?_|refine bw ?_ ?_|rfl|refine suZ ?_)|refine bz rfl ?_ ?_|exact aU hN _ rfl rfl rfl|exact aV hN _ rfl rfl rfl|exact az hN _ rfl rfl rfl (Or.inr rfl)|(refine aW hN _ rfl rfl (by first|exact Or.inr rfl|exact Or.inl rfl) ?_;first|exact aF _|exact aG _)|refine aA hN rfl ?_|refine aB hN rfl rfl ?_|exact ay hN _ rfl rfl|exact aC hN rfl rfl rfl rfl|(with_reducible first|refine stZ ?_|refine aT ?_)));(try (any_goals (first|(with_reducible rfl)|(refine aj ?_;omega)))))
   exact mF (by omega)
 · (refine e8 hN (i:=0) (.inr rfl) (by first|rfl|(simp (disch:=first|decide|omega|(simp only [List.length_cons,List.length_nil];omega)) only [bS,cc,ch,cj,go_sem,beq_self_eq_true,↓ax,↓ah hN,ak hN,reduceIte,reduceCtorEq,Nat.reduceAdd,Nat.reduceLT,Nat.reduceLeDiff,Nat.reduceEqDiff,Nat.reduceSub];rfl)) rfl ?_ rfl)
   rw [List.take_of_length_le (by omega)]
end Go.Proofs.Ythjamlponejffaa
namespace Go.Proofs.Ythjamlponejffaa
set_option linter.unusedVariables false
set_option linter.unusedSimpArgs false
open Go.RowKit
end Go.Proofs.Ythjamlponejffaa
