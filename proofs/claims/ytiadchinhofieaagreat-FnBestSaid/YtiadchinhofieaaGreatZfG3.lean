/-
  Small functions: marks of a set; the vertices of a trap.
-/
import Derived.Test.YtiadchinhofieaaGreatZfCe
import Derived.Test.YtiadchinhofieaaGreatZfFc
namespace Go.Proofs.YtiadchinhofieaaGreat
set_option linter.unusedVariables false
set_option linter.unusedSimpArgs false
open Go.RowKit
attribute [local irreducible] aO ck Aw Le
theorem dy {Q : Nat → Prop} {k : Nat} (h : ∀ i,i < k → Q i) (hk : Q k) : ∀ i,i < k + 1 → Q i:=fun i hi=>by
 rcases Nat.lt_or_ge i k with h'|h'
 · exact h i h'
 · have : i = k:=by omega
   subst this;exact hk
theorem cj {a b : Int} (h : (a != b) = false) : a = b:=by simpa using h
theorem wS {a b : Int} (h : (a != b) = true) : a ≠ b:=by simpa using h
theorem lA {xs ys : List Int} (hl : xs.length = ys.length) : xs = ys ↔ ∀ j,j < xs.length → gi xs j = gi ys j :=
 ⟨fun h j _=>by rw [h],fun h=>kT hl h⟩
theorem wT (xs ys : List Int) (hl : xs.length ≤ 1048576) : aO Tryz.prog 36 [.c (.I xs),.c (.I ys)] [] (fun _=>.c (.bool (tf (xs = ys)))):=by
 (refine bj ap Tryz.func36 rfl rfl (by kernel_rfl) fun hp0 ν hX hN=>?_;simp only [bU,Nat.reduceAdd])
 (repeat' (first|(with_reducible first|(apply hK;clear hK K)|refine stZ ?_|refine aD rfl ?_|((first|apply ae|apply af);clear ae X af Y))|(with_reducible refine aG ?_;first|refine aE rfl ?_|refine aF rfl ?_)|(with_reducible refine ba ?_;refine bd hN ?_)|((with_reducible first|((first|refine aJ ?_|refine bf ?_|refine aK ?_|refine bg ?_);intro K hK)|(refine am ?_;intro X Y ae af)|refine ao ?_);simp (disch:=first|decide|omega|(simp only [List.length_cons,List.length_nil];omega)) only [go_sem,↓aj hN,ak hN,reduceIte,reduceCtorEq,Nat.reduceAdd,Nat.reduceLT,Nat.reduceLeDiff,Nat.reduceEqDiff,Nat.reduceSub])|(with_reducible refine And.intro (fun h=>?_) (fun h=>?_) <;> try (exfalso;omega))|(with_reducible refine aI ap hN ?_)|(with_reducible refine aC ap hN ?_)|(with_reducible refine And.intro ?_ ?_)|(refine ah ?_;omega)|(exact aH hN (by decide))))
 · (refine bP (.inr rfl) (by first|rfl|(simp (disch:=first|decide|omega|(simp only [List.length_cons,List.length_nil];omega)) only [bI,bJ,bK,bM,go_sem,beq_self_eq_true,↓aB,↓aj hN,ak hN,reduceIte,reduceCtorEq,Nat.reduceAdd,Nat.reduceLT,Nat.reduceLeDiff,Nat.reduceEqDiff,Nat.reduceSub];rfl)) ?_)
   exact congrArg C.bool (aq fun e : xs = ys=>by have:=congrArg List.length e;omega).symm
 have hll : xs.length = ys.length:=by have:=bne_eq_false_iff_eq.1 (show ((xs.length : Int) != ys.length) = false by assumption);omega
 (refine bN (fun (k : Nat)=>(tmL [(13,.c (.int .i64 k)),(12,.c (.int .i64 xs.length)),(0,.c (.I xs)),(1,.c (.I ys))],hpL hp0 ν [])) (fun (k : Nat)=>k ≤ xs.length ∧ ∀ j,j < k → gi xs j = gi ys j) (fun (k : Nat)=>xs.length - k) ⟨0,?_,bu hX hN [] ?_ ?_⟩ ?_;(repeat' (first|(with_reducible first|exact clZ|refine bn ?_ ?_|refine bo ?_ ?_|rfl|refine suZ ?_)|refine bp rfl ?_ ?_|exact aR hN _ rfl rfl rfl|exact aS hN _ rfl rfl rfl|exact ay hN _ rfl rfl rfl (Or.inr rfl)|(refine aT hN _ rfl rfl (by first|exact Or.inr rfl|exact Or.inl rfl) ?_;first|exact aU _|exact aV _)|refine az hN rfl ?_|refine aA hN rfl rfl ?_|exact ax hN _ rfl rfl|exact au hN rfl rfl rfl rfl|(with_reducible first|refine stZ ?_|refine aQ ?_)));(try (any_goals (first|(with_reducible rfl)|(refine ah ?_;omega)))))
 · exact ⟨Nat.zero_le _,fun j h=>by omega⟩
 rintro k ⟨hk,hq⟩
 (repeat' (first|(with_reducible first|(apply hK;clear hK K)|refine stZ ?_|refine aD rfl ?_|((first|apply ae|apply af);clear ae X af Y))|(with_reducible refine aG ?_;first|refine aE rfl ?_|refine aF rfl ?_)|(with_reducible refine ba ?_;refine bd hN ?_)|((with_reducible first|((first|refine aJ ?_|refine bf ?_|refine aK ?_|refine bg ?_);intro K hK)|(refine am ?_;intro X Y ae af)|refine ao ?_);simp (disch:=first|decide|omega|(simp only [List.length_cons,List.length_nil];omega)) only [go_sem,↓aj hN,ak hN,reduceIte,reduceCtorEq,Nat.reduceAdd,Nat.reduceLT,Nat.reduceLeDiff,Nat.reduceEqDiff,Nat.reduceSub])|(with_reducible refine And.intro (fun h=>?_) (fun h=>?_) <;> try (exfalso;omega))|(with_reducible refine aI ap hN ?_)|(with_reducible refine aC ap hN ?_)|(with_reducible refine And.intro ?_ ?_)|(refine ah ?_;omega)|(exact aH hN (by decide))))
 · (refine bP (.inr rfl) (by first|rfl|(simp (disch:=first|decide|omega|(simp only [List.length_cons,List.length_nil];omega)) only [bI,bJ,bK,bM,go_sem,beq_self_eq_true,↓aB,↓aj hN,ak hN,reduceIte,reduceCtorEq,Nat.reduceAdd,Nat.reduceLT,Nat.reduceLeDiff,Nat.reduceEqDiff,Nat.reduceSub];rfl)) ?_)
   have hne : ¬ gi xs k = gi ys k:=by assumption
   exact congrArg C.bool (aq fun e : xs = ys=>hne (by rw [e])).symm
 · (refine ⟨k + 1,⟨?_,?_⟩,bu hX hN [] ?_ ?_⟩;(try any_goals dsimp only);(repeat' (first|(with_reducible first|exact clZ|refine bn ?_ ?_|refine bo ?_ ?_|rfl|refine suZ ?_)|refine bp rfl ?_ ?_|exact aR hN _ rfl rfl rfl|exact aS hN _ rfl rfl rfl|exact ay hN _ rfl rfl rfl (Or.inr rfl)|(refine aT hN _ rfl rfl (by first|exact Or.inr rfl|exact Or.inl rfl) ?_;first|exact aU _|exact aV _)|refine az hN rfl ?_|refine aA hN rfl rfl ?_|exact ax hN _ rfl rfl|exact au hN rfl rfl rfl rfl|(with_reducible first|refine stZ ?_|refine aQ ?_)));(try (any_goals (first|(with_reducible rfl)|(refine ah ?_;omega)))))
   have he : gi xs k = gi ys k:=bne_eq_false_iff_eq.1 (by assumption)
   refine ⟨by omega,fun j hj=>?_⟩
   rcases Nat.lt_or_ge j k with h|h
   · exact hq j h
   · have : j = k:=by omega
     subst this;exact he
 · (refine bP (.inr rfl) (by first|rfl|(simp (disch:=first|decide|omega|(simp only [List.length_cons,List.length_nil];omega)) only [bI,bJ,bK,bM,go_sem,beq_self_eq_true,↓aB,↓aj hN,ak hN,reduceIte,reduceCtorEq,Nat.reduceAdd,Nat.reduceLT,Nat.reduceLeDiff,Nat.reduceEqDiff,Nat.reduceSub];rfl)) ?_)
   exact congrArg C.bool (aP ((lA hll).2 fun j hj=>hq j (by omega))).symm
theorem ux (xs ys : List Int) (hl : xs.length ≤ 1048576) : aO Tryz.prog 69 [.c (.I xs),.c (.I ys)] [] (fun _=>.c (.bool (tf (xs = ys)))):=by
 (refine bj ap Tryz.func69 rfl rfl (by kernel_rfl) fun hp0 ν hX hN=>?_;simp only [bU,Nat.reduceAdd])
 (repeat' (first|(with_reducible first|(apply hK;clear hK K)|refine stZ ?_|refine aD rfl ?_|((first|apply ae|apply af);clear ae X af Y))|(with_reducible refine aG ?_;first|refine aE rfl ?_|refine aF rfl ?_)|(with_reducible refine ba ?_;refine bd hN ?_)|((with_reducible first|((first|refine aJ ?_|refine bf ?_|refine aK ?_|refine bg ?_);intro K hK)|(refine am ?_;intro X Y ae af)|refine ao ?_);simp (disch:=first|decide|omega|(simp only [List.length_cons,List.length_nil];omega)) only [go_sem,↓aj hN,ak hN,reduceIte,reduceCtorEq,Nat.reduceAdd,Nat.reduceLT,Nat.reduceLeDiff,Nat.reduceEqDiff,Nat.reduceSub])|(with_reducible refine And.intro (fun h=>?_) (fun h=>?_) <;> try (exfalso;omega))|(with_reducible refine aI ap hN ?_)|(with_reducible refine aC ap hN ?_)|(with_reducible refine And.intro ?_ ?_)|(refine ah ?_;omega)|(exact aH hN (by decide))))
 · (refine bP (.inr rfl) (by first|rfl|(simp (disch:=first|decide|omega|(simp only [List.length_cons,List.length_nil];omega)) only [bI,bJ,bK,bM,go_sem,beq_self_eq_true,↓aB,↓aj hN,ak hN,reduceIte,reduceCtorEq,Nat.reduceAdd,Nat.reduceLT,Nat.reduceLeDiff,Nat.reduceEqDiff,Nat.reduceSub];rfl)) ?_)
   exact congrArg C.bool (aq fun e : xs = ys=>by have:=congrArg List.length e;omega).symm
 have hll : xs.length = ys.length:=by have:=bne_eq_false_iff_eq.1 (show ((xs.length : Int) != ys.length) = false by assumption);omega
 (refine bN (fun (k : Nat)=>(tmL [(5,.c (.int .i64 k)),(0,.c (.I xs)),(1,.c (.I ys))],hpL hp0 ν [])) (fun (k : Nat)=>k ≤ xs.length ∧ ∀ j,j < k → gi xs j = gi ys j) (fun (k : Nat)=>xs.length - k) ⟨0,?_,bu hX hN [] ?_ ?_⟩ ?_;(repeat' (first|(with_reducible first|exact clZ|refine bn ?_ ?_|refine bo ?_ ?_|rfl|refine suZ ?_)|refine bp rfl ?_ ?_|exact aR hN _ rfl rfl rfl|exact aS hN _ rfl rfl rfl|exact ay hN _ rfl rfl rfl (Or.inr rfl)|(refine aT hN _ rfl rfl (by first|exact Or.inr rfl|exact Or.inl rfl) ?_;first|exact aU _|exact aV _)|refine az hN rfl ?_|refine aA hN rfl rfl ?_|exact ax hN _ rfl rfl|exact au hN rfl rfl rfl rfl|(with_reducible first|refine stZ ?_|refine aQ ?_)));(try (any_goals (first|(with_reducible rfl)|(refine ah ?_;omega)))))
 · exact ⟨Nat.zero_le _,fun j h=>by omega⟩
 rintro k ⟨hk,hq⟩
 (repeat' (first|(with_reducible first|(apply hK;clear hK K)|refine stZ ?_|refine aD rfl ?_|((first|apply ae|apply af);clear ae X af Y))|(with_reducible refine aG ?_;first|refine aE rfl ?_|refine aF rfl ?_)|(with_reducible refine ba ?_;refine bd hN ?_)|((with_reducible first|((first|refine aJ ?_|refine bf ?_|refine aK ?_|refine bg ?_);intro K hK)|(refine am ?_;intro X Y ae af)|refine ao ?_);simp (disch:=first|decide|omega|(simp only [List.length_cons,List.length_nil];omega)) only [go_sem,↓aj hN,ak hN,reduceIte,reduceCtorEq,Nat.reduceAdd,Nat.reduceLT,Nat.reduceLeDiff,Nat.reduceEqDiff,Nat.reduceSub])|(with_reducible refine And.intro (fun h=>?_) (fun h=>?_) <;> try (exfalso;omega))|(with_reducible refine aI ap hN ?_)|(with_reducible refine aC ap hN ?_)|(with_reducible refine And.intro ?_ ?_)|(refine ah ?_;omega)|(exact aH hN (by decide))))
 · (refine bP (.inr rfl) (by first|rfl|(simp (disch:=first|decide|omega|(simp only [List.length_cons,List.length_nil];omega)) only [bI,bJ,bK,bM,go_sem,beq_self_eq_true,↓aB,↓aj hN,ak hN,reduceIte,reduceCtorEq,Nat.reduceAdd,Nat.reduceLT,Nat.reduceLeDiff,Nat.reduceEqDiff,Nat.reduceSub];rfl)) ?_)
   have hne : ¬ gi xs k = gi ys k:=by assumption
   exact congrArg C.bool (aq fun e : xs = ys=>hne (by rw [e])).symm
 · (refine ⟨k + 1,⟨?_,?_⟩,bu hX hN [] ?_ ?_⟩;(try any_goals dsimp only);(repeat' (first|(with_reducible first|exact clZ|refine bn ?_ ?_|refine bo ?_ ?_|rfl|refine suZ ?_)|refine bp rfl ?_ ?_|exact aR hN _ rfl rfl rfl|exact aS hN _ rfl rfl rfl|exact ay hN _ rfl rfl rfl (Or.inr rfl)|(refine aT hN _ rfl rfl (by first|exact Or.inr rfl|exact Or.inl rfl) ?_;first|exact aU _|exact aV _)|refine az hN rfl ?_|refine aA hN rfl rfl ?_|exact ax hN _ rfl rfl|exact au hN rfl rfl rfl rfl|(with_reducible first|refine stZ ?_|refine aQ ?_)));(try (any_goals (first|(with_reducible rfl)|(refine ah ?_;omega)))))
   have he : gi xs k = gi ys k:=bne_eq_false_iff_eq.1 (by assumption)
   refine ⟨by omega,fun j hj=>?_⟩
   rcases Nat.lt_or_ge j k with h|h
   · exact hq j h
   · have : j = k:=by omega
     subst this;exact he
 · (refine bP (.inr rfl) (by first|rfl|(simp (disch:=first|decide|omega|(simp only [List.length_cons,List.length_nil];omega)) only [bI,bJ,bK,bM,go_sem,beq_self_eq_true,↓aB,↓aj hN,ak hN,reduceIte,reduceCtorEq,Nat.reduceAdd,Nat.reduceLT,Nat.reduceLeDiff,Nat.reduceEqDiff,Nat.reduceSub];rfl)) ?_)
   exact congrArg C.bool (aP ((lA hll).2 fun j hj=>hq j (by omega))).symm
theorem uw (b : Bool) : aO Tryz.prog 72 [.c (.bool b)] [] (fun _=>.c (.int .i64 (if b then 1 else 0))):=by
 (refine bj ap Tryz.func72 rfl rfl (by kernel_rfl) fun hp0 ν hX hN=>?_;simp only [bU,Nat.reduceAdd])
 (repeat' (first|(with_reducible first|(apply hK;clear hK K)|refine stZ ?_|refine aD rfl ?_|((first|apply ae|apply af);clear ae X af Y))|(with_reducible refine aG ?_;first|refine aE rfl ?_|refine aF rfl ?_)|((with_reducible first|((first|refine aJ ?_|refine aK ?_);intro K hK)|(refine am ?_;intro X Y ae af)|refine ao ?_);simp (disch:=first|decide|omega|(simp only [List.length_cons,List.length_nil];omega)) only [go_sem,↓aj hN,ak hN,reduceIte,reduceCtorEq,Nat.reduceAdd,Nat.reduceLT,Nat.reduceLeDiff,Nat.reduceEqDiff,Nat.reduceSub])|(with_reducible refine And.intro (fun h=>?_) (fun h=>?_) <;> try (exfalso;omega))|(with_reducible refine aI ap hN ?_)|(with_reducible refine And.intro ?_ ?_)|(refine ah ?_;omega)|(exact aH hN (by decide))))
 all_goals (refine bP (.inr rfl) (by first|rfl|(simp (disch:=first|decide|omega|(simp only [List.length_cons,List.length_nil];omega)) only [bI,bJ,bK,bM,go_sem,beq_self_eq_true,↓aB,↓aj hN,ak hN,reduceIte,reduceCtorEq,Nat.reduceAdd,Nat.reduceLT,Nat.reduceLeDiff,Nat.reduceEqDiff,Nat.reduceSub];rfl)) ?_)
 all_goals simp [*]
end Go.Proofs.YtiadchinhofieaaGreat
namespace Go.Proofs.YtiadchinhofieaaGreat
set_option linter.unusedVariables false
set_option linter.unusedSimpArgs false
open Go.RowKit
attribute [local irreducible] aO ck Aw Le
theorem ew (xs : List Int) (x : Int) : aO Tryz.prog 64 [.c (.I xs),.c (.int .i64 x)] [] (fun _=>.c (.bool (tf (x ∈ xs)))) :=
 eG Tryz.func64 rfl rfl (u:=.bool _) (fun O w=>.bool _) fun φ hp w vs h=>by
  obtain ⟨a,b,rfl,h1,h2⟩:=uc h
  obtain rfl:=cK h2
  obtain ⟨sa,n,c,rfl,hI⟩:=ny (du h1)
  exact (mT sa n c xs x w hI).mono fun e w' ⟨he,hw⟩=>⟨he,by rw [← hw];exact Below.refl _ _⟩
theorem iJ (xs : List Int) (x : Int) : aO Tryz.prog 56 [.c (.I xs),.c (.int .i64 x)] [] (fun _=>.c (.bool (tf (x ∈ xs)))) :=
 eG Tryz.func56 rfl rfl (u:=.bool _) (fun O w=>.bool _) fun φ hp w vs h=>by
  obtain ⟨a,b,rfl,h1,h2⟩:=uc h
  obtain rfl:=cK h2
  obtain ⟨sa,n,c,rfl,hI⟩:=ny (du h1)
  exact (oq sa n c xs x w hI).mono fun e w' ⟨he,hw⟩=>⟨he,by rw [← hw];exact Below.refl _ _⟩
theorem jA (xs : List Int) (hl : xs.length ≤ 1048576) : aO Tryz.prog 31 [.c (.I xs)] [.arr 2 .yes (.I xs)] (fun ns=>.sl (ns.getD 0 0)):=by
 (refine bj ap Tryz.func31 rfl rfl (by kernel_rfl) fun hp0 ν hX hN=>?_;simp only [bU,Nat.reduceAdd])
 (repeat' (first|(with_reducible first|(apply hK;clear hK K)|refine stZ ?_|refine aD rfl ?_|((first|apply ae|apply af);clear ae X af Y))|(with_reducible refine aG ?_;first|refine aE rfl ?_|refine aF rfl ?_)|((with_reducible first|((first|refine aJ ?_|refine aK ?_);intro K hK)|(refine am ?_;intro X Y ae af)|refine ao ?_);simp (disch:=first|decide|omega|(simp only [List.length_cons,List.length_nil];omega)) only [go_sem,↓aj hN,ak hN,reduceIte,reduceCtorEq,Nat.reduceAdd,Nat.reduceLT,Nat.reduceLeDiff,Nat.reduceEqDiff,Nat.reduceSub])|(with_reducible refine And.intro (fun h=>?_) (fun h=>?_) <;> try (exfalso;omega))|(with_reducible refine aI ap hN ?_)|(with_reducible refine And.intro ?_ ?_)|(refine ah ?_;omega)|(exact aH hN (by decide))))
 (refine c8 hN (i:=1) (.inr rfl) (by first|rfl|(simp (disch:=first|decide|omega|(simp only [List.length_cons,List.length_nil];omega)) only [bI,bJ,bK,bM,go_sem,beq_self_eq_true,↓aB,↓aj hN,ak hN,reduceIte,reduceCtorEq,Nat.reduceAdd,Nat.reduceLT,Nat.reduceLeDiff,Nat.reduceEqDiff,Nat.reduceSub];rfl)) rfl ?_ rfl)
 rfl
end Go.Proofs.YtiadchinhofieaaGreat
namespace Go.Proofs.YtiadchinhofieaaGreat
set_option linter.unusedVariables false
set_option linter.unusedSimpArgs false
open Go.RowKit
end Go.Proofs.YtiadchinhofieaaGreat
