/-
  Small functions: membership, copies.
-/
import Derived.Test.YtceonklhlpkfgaaZlCe
import Derived.Test.YtceonklhlpkfgaaZlFc
namespace Go.Proofs.Ytceonklhlpkfgaa
set_option linter.unusedVariables false
set_option linter.unusedSimpArgs false
open Go.RowKit
attribute [local irreducible] ay cM Aw Le
theorem g8 {Q : Nat → Prop} {k : Nat} (h : ∀ i,i < k → Q i) (hk : Q k) : ∀ i,i < k + 1 → Q i:=fun i hi=>by
 rcases Nat.lt_or_ge i k with h'|h'
 · exact h i h'
 · have : i = k:=by omega
   subst this;exact hk
theorem g9 {a b : Int} (h : (a != b) = false) : a = b:=by simpa using h
theorem ou {xs ys : List Int} (hl : xs.length = ys.length) : xs = ys ↔ ∀ j,j < xs.length → gi xs j = gi ys j :=
 ⟨fun h j _=>by rw [h],fun h=>i6 hl h⟩
theorem ov (xs ys : List Int) (hl : xs.length ≤ 1048576) : ay Try.prog 46 [.c (.I xs),.c (.I ys)] [] (fun _=>.c (.bool (tf (xs = ys)))):=by
 (refine aV aL Try.func46 rfl rfl (by kernel_rfl) fun hp0 ν hX hN=>?_;simp only [ch,Nat.reduceAdd])
 (repeat' (first|(with_reducible first|(apply hK;clear hK K)|refine stZ ?_|refine aY rfl ?_|((first|apply ae|apply af);clear ae X af Y))|(with_reducible refine ba ?_;first|refine aZ rfl ?_|refine a8 rfl ?_)|(with_reducible refine cL ?_;refine cI hN ?_)|((with_reducible first|((first|refine be ?_|refine cJ ?_|refine bf ?_|refine cK ?_);intro K hK)|(refine aM ?_;intro X Y ae af)|refine aN ?_);simp (disch:=first|decide|omega|(simp only [List.length_cons,List.length_nil];omega)) only [go_sem,↓ak hN,an hN,reduceIte,reduceCtorEq,Nat.reduceAdd,Nat.reduceLT,Nat.reduceLeDiff,Nat.reduceEqDiff,Nat.reduceSub])|(with_reducible refine And.intro (fun h=>?_) (fun h=>?_) <;> try (exfalso;omega))|(with_reducible refine bd aL hN ?_)|(with_reducible refine bI aL hN ?_)|(with_reducible refine And.intro ?_ ?_)|(refine ap ?_;omega)|(exact bc hN (by decide))))
 · (refine bX (.inr rfl) (by first|rfl|(simp (disch:=first|decide|omega|(simp only [List.length_cons,List.length_nil];omega)) only [bm,bq,bC,bF,go_sem,beq_self_eq_true,↓az,↓ak hN,an hN,reduceIte,reduceCtorEq,Nat.reduceAdd,Nat.reduceLT,Nat.reduceLeDiff,Nat.reduceEqDiff,Nat.reduceSub];rfl)) ?_)
   exact congrArg C.bool (am fun e : xs = ys=>by have:=congrArg List.length e;omega).symm
 have hll : xs.length = ys.length:=by have:=bne_eq_false_iff_eq.1 (show ((xs.length : Int) != ys.length) = false by assumption);omega
 (refine dw (fun (k : Nat)=>(tmL [(5,.c (.int .i64 k)),(0,.c (.I xs)),(1,.c (.I ys))],hpL hp0 ν [])) (fun (k : Nat)=>k ≤ xs.length ∧ ∀ j,j < k → gi xs j = gi ys j) (fun (k : Nat)=>xs.length - k) ⟨0,?_,cS hX hN [] ?_ ?_⟩ ?_;(repeat' (first|(with_reducible first|exact clZ|refine cT ?_ ?_|refine cU ?_ ?_|rfl|refine suZ ?_)|refine cV rfl ?_ ?_|exact bU hN _ rfl rfl rfl|exact bV hN _ rfl rfl rfl|exact bu hN _ rfl rfl rfl (Or.inr rfl)|(refine bW hN _ rfl rfl (by first|exact Or.inr rfl|exact Or.inl rfl) ?_;first|exact aT _|exact aU _)|refine bv hN rfl ?_|refine bw hN rfl rfl ?_|exact br hN _ rfl rfl|exact bz hN rfl rfl rfl rfl|(with_reducible first|refine stZ ?_|refine bT ?_)));(try (any_goals (first|(with_reducible rfl)|(refine ap ?_;omega)))))
 · exact ⟨Nat.zero_le _,fun j h=>by omega⟩
 rintro k ⟨hk,hq⟩
 (repeat' (first|(with_reducible first|(apply hK;clear hK K)|refine stZ ?_|refine aY rfl ?_|((first|apply ae|apply af);clear ae X af Y))|(with_reducible refine ba ?_;first|refine aZ rfl ?_|refine a8 rfl ?_)|(with_reducible refine cL ?_;refine cI hN ?_)|((with_reducible first|((first|refine be ?_|refine cJ ?_|refine bf ?_|refine cK ?_);intro K hK)|(refine aM ?_;intro X Y ae af)|refine aN ?_);simp (disch:=first|decide|omega|(simp only [List.length_cons,List.length_nil];omega)) only [go_sem,↓ak hN,an hN,reduceIte,reduceCtorEq,Nat.reduceAdd,Nat.reduceLT,Nat.reduceLeDiff,Nat.reduceEqDiff,Nat.reduceSub])|(with_reducible refine And.intro (fun h=>?_) (fun h=>?_) <;> try (exfalso;omega))|(with_reducible refine bd aL hN ?_)|(with_reducible refine bI aL hN ?_)|(with_reducible refine And.intro ?_ ?_)|(refine ap ?_;omega)|(exact bc hN (by decide))))
 · (refine bX (.inr rfl) (by first|rfl|(simp (disch:=first|decide|omega|(simp only [List.length_cons,List.length_nil];omega)) only [bm,bq,bC,bF,go_sem,beq_self_eq_true,↓az,↓ak hN,an hN,reduceIte,reduceCtorEq,Nat.reduceAdd,Nat.reduceLT,Nat.reduceLeDiff,Nat.reduceEqDiff,Nat.reduceSub];rfl)) ?_)
   have hne : ¬ gi xs k = gi ys k:=by assumption
   exact congrArg C.bool (am fun e : xs = ys=>hne (by rw [e])).symm
 · (refine ⟨k + 1,⟨?_,?_⟩,cS hX hN [] ?_ ?_⟩;(try any_goals dsimp only);(repeat' (first|(with_reducible first|exact clZ|refine cT ?_ ?_|refine cU ?_ ?_|rfl|refine suZ ?_)|refine cV rfl ?_ ?_|exact bU hN _ rfl rfl rfl|exact bV hN _ rfl rfl rfl|exact bu hN _ rfl rfl rfl (Or.inr rfl)|(refine bW hN _ rfl rfl (by first|exact Or.inr rfl|exact Or.inl rfl) ?_;first|exact aT _|exact aU _)|refine bv hN rfl ?_|refine bw hN rfl rfl ?_|exact br hN _ rfl rfl|exact bz hN rfl rfl rfl rfl|(with_reducible first|refine stZ ?_|refine bT ?_)));(try (any_goals (first|(with_reducible rfl)|(refine ap ?_;omega)))))
   have he : gi xs k = gi ys k:=bne_eq_false_iff_eq.1 (by assumption)
   refine ⟨by omega,fun j hj=>?_⟩
   rcases Nat.lt_or_ge j k with h|h
   · exact hq j h
   · have : j = k:=by omega
     subst this;exact he
 · (refine bX (.inr rfl) (by first|rfl|(simp (disch:=first|decide|omega|(simp only [List.length_cons,List.length_nil];omega)) only [bm,bq,bC,bF,go_sem,beq_self_eq_true,↓az,↓ak hN,an hN,reduceIte,reduceCtorEq,Nat.reduceAdd,Nat.reduceLT,Nat.reduceLeDiff,Nat.reduceEqDiff,Nat.reduceSub];rfl)) ?_)
   exact congrArg C.bool (aA ((ou hll).2 fun j hj=>hq j (by omega))).symm
end Go.Proofs.Ytceonklhlpkfgaa
namespace Go.Proofs.Ytceonklhlpkfgaa
set_option linter.unusedVariables false
set_option linter.unusedSimpArgs false
open Go.RowKit
attribute [local irreducible] ay cM Aw Le
theorem hD (xs : List Int) (hl : xs.length ≤ 1048576) : ay Try.prog 43 [.c (.I xs)] [.arr 2 .yes (.I xs)] (fun ns=>.sl (ns.getD 0 0)):=by
 (refine aV aL Try.func43 rfl rfl (by kernel_rfl) fun hp0 ν hX hN=>?_;simp only [ch,Nat.reduceAdd])
 (repeat' (first|(with_reducible first|(apply hK;clear hK K)|refine stZ ?_|refine aY rfl ?_|((first|apply ae|apply af);clear ae X af Y))|(with_reducible refine ba ?_;first|refine aZ rfl ?_|refine a8 rfl ?_)|((with_reducible first|((first|refine be ?_|refine bf ?_);intro K hK)|(refine aM ?_;intro X Y ae af)|refine aN ?_);simp (disch:=first|decide|omega|(simp only [List.length_cons,List.length_nil];omega)) only [go_sem,↓ak hN,an hN,reduceIte,reduceCtorEq,Nat.reduceAdd,Nat.reduceLT,Nat.reduceLeDiff,Nat.reduceEqDiff,Nat.reduceSub])|(with_reducible refine And.intro (fun h=>?_) (fun h=>?_) <;> try (exfalso;omega))|(with_reducible refine bd aL hN ?_)|(with_reducible refine And.intro ?_ ?_)|(refine ap ?_;omega)|(exact bc hN (by decide))))
 (refine ct hN (i:=1) (.inr rfl) (by first|rfl|(simp (disch:=first|decide|omega|(simp only [List.length_cons,List.length_nil];omega)) only [bm,bq,bC,bF,go_sem,beq_self_eq_true,↓az,↓ak hN,an hN,reduceIte,reduceCtorEq,Nat.reduceAdd,Nat.reduceLT,Nat.reduceLeDiff,Nat.reduceEqDiff,Nat.reduceSub];rfl)) rfl ?_ rfl)
 rfl
end Go.Proofs.Ytceonklhlpkfgaa
