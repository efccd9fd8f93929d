/-
  Small functions: membership, copies.
-/
import Derived.Test.YtceonklhlpkfgaaZmCe
import Derived.Test.YtceonklhlpkfgaaZmFc
namespace Go.Proofs.Ytceonklhlpkfgaa
set_option linter.unusedVariables false
set_option linter.unusedSimpArgs false
open Go.RowKit
attribute [local irreducible] aw cz Aw Le
theorem g7 {Q : Nat → Prop} {k : Nat} (h : ∀ i,i < k → Q i) (hk : Q k) : ∀ i,i < k + 1 → Q i:=fun i hi=>by
 rcases Nat.lt_or_ge i k with h'|h'
 · exact h i h'
 · have : i = k:=by omega
   subst this;exact hk
theorem g8 {a b : Int} (h : (a != b) = false) : a = b:=by simpa using h
theorem kp {xs ys : List Int} (hl : xs.length = ys.length) : xs = ys ↔ ∀ j,j < xs.length → gi xs j = gi ys j :=
 ⟨fun h j _=>by rw [h],fun h=>iY hl h⟩
theorem ow (xs ys : List Int) (hl : xs.length ≤ 1048576) : aw Try.prog 46 [.c (.I xs),.c (.I ys)] [] (fun _=>.c (.bool (tf (xs = ys)))):=by
 (refine bc aF Try.func46 rfl rfl (by kernel_rfl) fun hp0 ν hX hN=>?_;simp only [ct,Nat.reduceAdd])
 (repeat' (first|(with_reducible first|(apply hK;clear hK K)|refine stZ ?_|refine be rfl ?_|((first|apply ae|apply af);clear ae X af Y))|(with_reducible refine bh ?_;first|refine bf rfl ?_|refine bg rfl ?_)|(with_reducible refine cW ?_;refine cA hN ?_)|((with_reducible first|((first|refine bm ?_|refine cB ?_|refine bn ?_|refine cC ?_);intro K hK)|(refine aL ?_;intro X Y ae af)|refine aM ?_);simp (disch:=first|decide|omega|(simp only [List.length_cons,List.length_nil];omega)) only [go_sem,↓aj hN,am hN,reduceIte,reduceCtorEq,Nat.reduceAdd,Nat.reduceLT,Nat.reduceLeDiff,Nat.reduceEqDiff,Nat.reduceSub])|(with_reducible refine And.intro (fun h=>?_) (fun h=>?_) <;> try (exfalso;omega))|(with_reducible refine bj aF hN ?_)|(with_reducible refine bE aF hN ?_)|(with_reducible refine And.intro ?_ ?_)|(refine an ?_;omega)|(exact bi hN (by decide))))
 · (refine ce (.inr rfl) (by first|rfl|(simp (disch:=first|decide|omega|(simp only [List.length_cons,List.length_nil];omega)) only [bF,bH,bJ,bP,go_sem,beq_self_eq_true,↓aB,↓aj hN,am hN,reduceIte,reduceCtorEq,Nat.reduceAdd,Nat.reduceLT,Nat.reduceLeDiff,Nat.reduceEqDiff,Nat.reduceSub];rfl)) ?_)
   exact congrArg C.bool (ap fun e : xs = ys=>by have:=congrArg List.length e;omega).symm
 have hll : xs.length = ys.length:=by have:=bne_eq_false_iff_eq.1 (show ((xs.length : Int) != ys.length) = false by assumption);omega
 (refine cw (fun (k : Nat)=>(tmL [(5,.c (.int .i64 k)),(0,.c (.I xs)),(1,.c (.I ys))],hpL hp0 ν [])) (fun (k : Nat)=>k ≤ xs.length ∧ ∀ j,j < k → gi xs j = gi ys j) (fun (k : Nat)=>xs.length - k) ⟨0,?_,bT hX hN [] ?_ ?_⟩ ?_;(repeat' (first|(with_reducible first|exact clZ|refine bU ?_ ?_|refine bV ?_ ?_|rfl|refine suZ ?_)|refine bW rfl ?_ ?_|exact bz hN _ rfl rfl rfl|exact bA hN _ rfl rfl rfl|exact aS hN _ rfl rfl rfl (Or.inr rfl)|(refine bB hN _ rfl rfl (by first|exact Or.inr rfl|exact Or.inl rfl) ?_;first|exact aN _|exact aO _)|refine aT hN rfl ?_|refine aU hN rfl rfl ?_|exact aR hN _ rfl rfl|exact aV hN rfl rfl rfl rfl|(with_reducible first|refine stZ ?_|refine bw ?_)));(try (any_goals (first|(with_reducible rfl)|(refine an ?_;omega)))))
 · exact ⟨Nat.zero_le _,fun j h=>by omega⟩
 rintro k ⟨hk,hq⟩
 (repeat' (first|(with_reducible first|(apply hK;clear hK K)|refine stZ ?_|refine be rfl ?_|((first|apply ae|apply af);clear ae X af Y))|(with_reducible refine bh ?_;first|refine bf rfl ?_|refine bg rfl ?_)|(with_reducible refine cW ?_;refine cA hN ?_)|((with_reducible first|((first|refine bm ?_|refine cB ?_|refine bn ?_|refine cC ?_);intro K hK)|(refine aL ?_;intro X Y ae af)|refine aM ?_);simp (disch:=first|decide|omega|(simp only [List.length_cons,List.length_nil];omega)) only [go_sem,↓aj hN,am hN,reduceIte,reduceCtorEq,Nat.reduceAdd,Nat.reduceLT,Nat.reduceLeDiff,Nat.reduceEqDiff,Nat.reduceSub])|(with_reducible refine And.intro (fun h=>?_) (fun h=>?_) <;> try (exfalso;omega))|(with_reducible refine bj aF hN ?_)|(with_reducible refine bE aF hN ?_)|(with_reducible refine And.intro ?_ ?_)|(refine an ?_;omega)|(exact bi hN (by decide))))
 · (refine ce (.inr rfl) (by first|rfl|(simp (disch:=first|decide|omega|(simp only [List.length_cons,List.length_nil];omega)) only [bF,bH,bJ,bP,go_sem,beq_self_eq_true,↓aB,↓aj hN,am hN,reduceIte,reduceCtorEq,Nat.reduceAdd,Nat.reduceLT,Nat.reduceLeDiff,Nat.reduceEqDiff,Nat.reduceSub];rfl)) ?_)
   have hne : ¬ gi xs k = gi ys k:=by assumption
   exact congrArg C.bool (ap fun e : xs = ys=>hne (by rw [e])).symm
 · (refine ⟨k + 1,⟨?_,?_⟩,bT hX hN [] ?_ ?_⟩;(try any_goals dsimp only);(repeat' (first|(with_reducible first|exact clZ|refine bU ?_ ?_|refine bV ?_ ?_|rfl|refine suZ ?_)|refine bW rfl ?_ ?_|exact bz hN _ rfl rfl rfl|exact bA hN _ rfl rfl rfl|exact aS hN _ rfl rfl rfl (Or.inr rfl)|(refine bB hN _ rfl rfl (by first|exact Or.inr rfl|exact Or.inl rfl) ?_;first|exact aN _|exact aO _)|refine aT hN rfl ?_|refine aU hN rfl rfl ?_|exact aR hN _ rfl rfl|exact aV hN rfl rfl rfl rfl|(with_reducible first|refine stZ ?_|refine bw ?_)));(try (any_goals (first|(with_reducible rfl)|(refine an ?_;omega)))))
   have he : gi xs k = gi ys k:=bne_eq_false_iff_eq.1 (by assumption)
   refine ⟨by omega,fun j hj=>?_⟩
   rcases Nat.lt_or_ge j k with h|h
   · exact hq j h
   · have : j = k:=by omega
     subst this;exact he
 · (refine ce (.inr rfl) (by first|rfl|(simp (disch:=first|decide|omega|(simp only [List.length_cons,List.length_nil];omega)) only [bF,bH,bJ,bP,go_sem,beq_self_eq_true,↓aB,↓aj hN,am hN,reduceIte,reduceCtorEq,Nat.reduceAdd,Nat.reduceLT,Nat.reduceLeDiff,Nat.reduceEqDiff,Nat.reduceSub];rfl)) ?_)
   exact congrArg C.bool (aE ((kp hll).2 fun j hj=>hq j (by omega))).symm
end Go.Proofs.Ytceonklhlpkfgaa
namespace Go.Proofs.Ytceonklhlpkfgaa
set_option linter.unusedVariables false
set_option linter.unusedSimpArgs false
open Go.RowKit
attribute [local irreducible] aw cz Aw Le
theorem kq (xs : List Int) (hl : xs.length ≤ 1048576) : aw Try.prog 43 [.c (.I xs)] [.arr 2 .yes (.I xs)] (fun ns=>.sl (ns.getD 0 0)):=by
 (refine bc aF Try.func43 rfl rfl (by kernel_rfl) fun hp0 ν hX hN=>?_;simp only [ct,Nat.reduceAdd])
 (repeat' (first|(with_reducible first|(apply hK;clear hK K)|refine stZ ?_|refine be rfl ?_|((first|apply ae|apply af);clear ae X af Y))|(with_reducible refine bh ?_;first|refine bf rfl ?_|refine bg rfl ?_)|((with_reducible first|((first|refine bm ?_|refine bn ?_);intro K hK)|(refine aL ?_;intro X Y ae af)|refine aM ?_);simp (disch:=first|decide|omega|(simp only [List.length_cons,List.length_nil];omega)) only [go_sem,↓aj hN,am hN,reduceIte,reduceCtorEq,Nat.reduceAdd,Nat.reduceLT,Nat.reduceLeDiff,Nat.reduceEqDiff,Nat.reduceSub])|(with_reducible refine And.intro (fun h=>?_) (fun h=>?_) <;> try (exfalso;omega))|(with_reducible refine bj aF hN ?_)|(with_reducible refine And.intro ?_ ?_)|(refine an ?_;omega)|(exact bi hN (by decide))))
 (refine cK hN (i:=1) (.inr rfl) (by first|rfl|(simp (disch:=first|decide|omega|(simp only [List.length_cons,List.length_nil];omega)) only [bF,bH,bJ,bP,go_sem,beq_self_eq_true,↓aB,↓aj hN,am hN,reduceIte,reduceCtorEq,Nat.reduceAdd,Nat.reduceLT,Nat.reduceLeDiff,Nat.reduceEqDiff,Nat.reduceSub];rfl)) rfl ?_ rfl)
 rfl
end Go.Proofs.Ytceonklhlpkfgaa
