/-
  Less, and part of, on the reference's side.
-/
import Derived.Test.YthjamlponejffaaZhD3
import Derived.Test.YthjamlponejffaaZhE15
namespace Go.Proofs.Ythjamlponejffaa
set_option linter.unusedVariables false
set_option linter.unusedSimpArgs false
open Go.RowKit
attribute [local irreducible] ap b7 Aw Le
theorem pG (xs : List Int) (x : Int) : ap Try.prog 71 [.c (.I xs),.c (.int .i64 x)] [] (fun _=>.c (.bool (tf (x ∈ xs)))) :=
 eX Try.func71 rfl rfl (u:=.bool _) (fun O w=>.bool _) fun φ hp w vs h=>by
  obtain ⟨a,b,rfl,h1,h2⟩:=sg h
  obtain rfl:=ch h2
  obtain ⟨sa,n,c,rfl,hI⟩:=lN (dt h1)
  exact (pP sa n c xs x w hI).mono fun e w' ⟨he,hw⟩=>⟨he,by rw [← hw];exact Below.refl _ _⟩
theorem qS (a b : List Int) (ha : bD a 256) (hb : bD b 256) : ap Try.prog 70 [.c (.I a),.c (.I b)] [.arr 2 .yes (.I (dB (fun x=>¬ x ∈ b) a a.length))] (fun ns=>.sl (ns.getD 0 0)):=by
 have hla:=cG ha (by omega)
 have hok:=iC a b
 rw [bc ⟨ha,hb⟩] at hok
 (refine bf aI Try.func70 rfl rfl (by kernel_rfl) fun hp0 ν hX hN=>?_;simp only [bW,Nat.reduceAdd])
 (repeat' (first|(with_reducible first|(apply hK;clear hK K)|refine stZ ?_|refine aT rfl ?_|((first|apply ae|apply af);clear ae X af Y))|(with_reducible refine aW ?_;first|refine aU rfl ?_|refine aV rfl ?_)|((with_reducible first|((first|refine aZ ?_|refine a8 ?_);intro K hK)|(refine aE ?_;intro X Y ae af)|refine aF ?_);simp (disch:=first|decide|omega|(simp only [List.length_cons,List.length_nil];omega)) only [go_sem,↓aj hN,ak hN,reduceIte,reduceCtorEq,Nat.reduceAdd,Nat.reduceLT,Nat.reduceLeDiff,Nat.reduceEqDiff,Nat.reduceSub])|(with_reducible refine And.intro (fun h=>?_) (fun h=>?_) <;> try (exfalso;omega))|(with_reducible refine aY aI hN ?_)|(refine aB hok ?_ rfl (fun _=>rfl) ?_)|(with_reducible first|exact aq|refine am ?_ ?_|exact bH _|refine aM ?_|exact aL _|exact bj _ _|refine bi ?_|exact aJ _)|exact aN hN rfl rfl|(refine bh hN rfl ?_;first|exact aC _|exact aD _)|exact aK rfl rfl rfl|(simp only [ba,List.map_nil])|(with_reducible refine bu ?_)|(with_reducible refine And.intro ?_ ?_)|(refine ah ?_;omega)|(exact aX hN (by decide))))
 (refine bT (fun (k : Nat)=>(tmL [(6,.c (.int .i64 k)),(5,.sl (ν 0)),(0,.c (.I a)),(1,.c (.I b))],hpL hp0 ν [.arr 2 .yes (.I (dB (fun x=>¬ x ∈ b) a k))])) (fun (k : Nat)=>k ≤ a.length) (fun (k : Nat)=>a.length - k) ⟨0,?_,bB hX hN [] ?_ ?_⟩ ?_;(repeat' (first|(with_reducible first|exact clZ|refine bw ?_ ?_|refine bz ?_ ?_|rfl|refine suZ ?_)|refine bA rfl ?_ ?_|exact aP hN _ rfl rfl rfl|exact aQ hN _ rfl rfl rfl|exact ax hN _ rfl rfl rfl (Or.inr rfl)|(refine aR hN _ rfl rfl (by first|exact Or.inr rfl|exact Or.inl rfl) ?_;first|exact aC _|exact aD _)|refine ay hN rfl ?_|refine az hN rfl rfl ?_|exact au hN _ rfl rfl|exact aA hN rfl rfl rfl rfl|(with_reducible first|refine stZ ?_|refine aO ?_)));(try (any_goals (first|(with_reducible rfl)|(refine ah ?_;omega)))))
 · rfl
 intro k hk
 have hfl:=fg (fun x=>¬ x ∈ b) a k
 (repeat' (first|(with_reducible first|(apply hK;clear hK K)|refine stZ ?_|refine aT rfl ?_|((first|apply ae|apply af);clear ae X af Y))|(with_reducible refine aW ?_;first|refine aU rfl ?_|refine aV rfl ?_)|((with_reducible first|((first|refine aZ ?_|refine a8 ?_);intro K hK)|(refine aE ?_;intro X Y ae af)|refine aF ?_);simp (disch:=first|decide|omega|(simp only [List.length_cons,List.length_nil];omega)) only [go_sem,↓aj hN,ak hN,reduceIte,reduceCtorEq,Nat.reduceAdd,Nat.reduceLT,Nat.reduceLeDiff,Nat.reduceEqDiff,Nat.reduceSub])|(with_reducible refine And.intro (fun h=>?_) (fun h=>?_) <;> try (exfalso;omega))|(with_reducible refine aY aI hN ?_)|(refine aB (pG ?_ ?_) ?_ rfl (fun _=>rfl) ?_)|(with_reducible first|exact aq|refine am ?_ ?_|exact bH _|refine aM ?_|exact aL _|exact bj _ _|refine bi ?_|exact aJ _)|exact aN hN rfl rfl|(refine bh hN rfl ?_;first|exact aC _|exact aD _)|exact aK rfl rfl rfl|(simp only [ba,List.map_nil])|(with_reducible refine bu ?_)|(with_reducible refine And.intro ?_ ?_)|(refine ah ?_;omega)|(exact aX hN (by decide))))
 · (refine ⟨k + 1,⟨?_,?_⟩,bB hX hN [(0,2)] ?_ ?_⟩;(try any_goals dsimp only);(repeat' (first|(with_reducible first|exact clZ|refine bw ?_ ?_|refine bz ?_ ?_|rfl|refine suZ ?_)|refine bA rfl ?_ ?_|exact aP hN _ rfl rfl rfl|exact aQ hN _ rfl rfl rfl|exact ax hN _ rfl rfl rfl (Or.inr rfl)|(refine aR hN _ rfl rfl (by first|exact Or.inr rfl|exact Or.inl rfl) ?_;first|exact aC _|exact aD _)|refine ay hN rfl ?_|refine az hN rfl rfl ?_|exact au hN _ rfl rfl|exact aA hN rfl rfl rfl rfl|(with_reducible first|refine stZ ?_|refine aO ?_)));(try (any_goals (first|(with_reducible rfl)|(refine ah ?_;omega)))))
   exact c9 (p:=fun x=>¬ x ∈ b) (by assumption)
 · (refine ⟨k + 1,⟨?_,?_⟩,bB hX hN [] ?_ ?_⟩;(try any_goals dsimp only);(repeat' (first|(with_reducible first|exact clZ|refine bw ?_ ?_|refine bz ?_ ?_|rfl|refine suZ ?_)|refine bA rfl ?_ ?_|exact aP hN _ rfl rfl rfl|exact aQ hN _ rfl rfl rfl|exact ax hN _ rfl rfl rfl (Or.inr rfl)|(refine aR hN _ rfl rfl (by first|exact Or.inr rfl|exact Or.inl rfl) ?_;first|exact aC _|exact aD _)|refine ay hN rfl ?_|refine az hN rfl rfl ?_|exact au hN _ rfl rfl|exact aA hN rfl rfl rfl rfl|(with_reducible first|refine stZ ?_|refine aO ?_)));(try (any_goals (first|(with_reducible rfl)|(refine ah ?_;omega)))))
   exact dl (p:=fun x=>¬ x ∈ b) (not_not_intro (by assumption))
 · (refine cR hN (i:=0) (.inr rfl) (by first|rfl|(simp (disch:=first|decide|omega|(simp only [List.length_cons,List.length_nil];omega)) only [bG,bK,bN,bO,go_sem,beq_self_eq_true,↓ao,↓aj hN,ak hN,reduceIte,reduceCtorEq,Nat.reduceAdd,Nat.reduceLT,Nat.reduceLeDiff,Nat.reduceEqDiff,Nat.reduceSub];rfl)) rfl ?_ rfl)
   rw [show k = a.length by omega]
theorem iW (a b : List Int) : ap Try.prog 30 [.c (.I a),.c (.I b)] [] (fun _=>.c (.bool (tf ((bD a 256 ∧ bD b 256) ∧ ∀ x,x ∈ a → x ∈ b)))):=by
 have hok:=iC a b
 by_cases h : bD a 256 ∧ bD b 256
 · rw [bc h] at hok
   have hle:=qS a b h.1 h.2
   have hnil:=sS (p:=fun x=>¬ x ∈ b) (xs:=a) a.length (Nat.le_refl _)
   have hfl:=fg (fun x=>¬ x ∈ b) a a.length
   have hla:=cG h.1 (by omega)
   generalize dB (fun x=>¬ x ∈ b) a a.length = fl at *
   (refine bf aI Try.func30 rfl rfl (by kernel_rfl) fun hp0 ν hX hN=>?_;simp only [bW,Nat.reduceAdd])
   (repeat' (first|(with_reducible first|(apply hK;clear hK K)|refine stZ ?_|refine aT rfl ?_|((first|apply ae|apply af);clear ae X af Y))|(with_reducible refine aW ?_;first|refine aU rfl ?_|refine aV rfl ?_)|(with_reducible refine bv ?_;first|refine bd rfl rfl rfl rfl ?_|refine bt rfl rfl rfl ?_|refine bI rfl rfl rfl rfl ?_)|((first|(with_reducible first|((first|refine aZ ?_|refine a8 ?_);intro K hK)|(refine aE ?_;intro X Y ae af)|refine aF ?_)|(with_reducible refine bv ?_;refine be rfl rfl fun X Y ae af=>?_));simp (disch:=first|decide|omega|(simp only [List.length_cons,List.length_nil];omega)) only [go_sem,↓aj hN,ak hN,reduceIte,reduceCtorEq,Nat.reduceAdd,Nat.reduceLT,Nat.reduceLeDiff,Nat.reduceEqDiff,Nat.reduceSub])|(with_reducible refine And.intro (fun h=>?_) (fun h=>?_) <;> try (exfalso;omega))|(with_reducible refine aY aI hN ?_)|(refine aB hok ?_ rfl (fun _=>rfl) ?_)|(refine aB hle ?_ rfl (fun _=>rfl) ?_)|(with_reducible first|exact aq|refine am ?_ ?_|exact bH _|refine aM ?_|exact aL _|exact bj _ _|refine bi ?_|exact aJ _)|exact aN hN rfl rfl|(refine bh hN rfl ?_;first|exact aC _|exact aD _)|exact aK rfl rfl rfl|(simp only [ba,List.map_nil])|(with_reducible refine bu ?_)|(with_reducible refine And.intro ?_ ?_)|(refine ah ?_;omega)|(exact aX hN (by decide))))
   (refine bX (.inr rfl) (by first|rfl|(simp (disch:=first|decide|omega|(simp only [List.length_cons,List.length_nil];omega)) only [bG,bK,bN,bO,go_sem,beq_self_eq_true,↓ao,↓aj hN,ak hN,reduceIte,reduceCtorEq,Nat.reduceAdd,Nat.reduceLT,Nat.reduceLeDiff,Nat.reduceEqDiff,Nat.reduceSub];rfl)) ?_)
   refine congrArg C.bool (jw ?_)
   rw [beq_iff_eq,Int.natCast_eq_zero,List.length_eq_zero_iff,hnil]
   constructor
   · intro h1
     refine ⟨h,fun x hx=>?_⟩
     obtain ⟨j,hj,e⟩:=ck hx
     rw [← e];exact Classical.not_not.1 (h1 j hj)
   · intro h1 j hj
     exact not_not_intro (h1.2 _ (cy hj))
 · rw [aH h] at hok
   (refine bf aI Try.func30 rfl rfl (by kernel_rfl) fun hp0 ν hX hN=>?_;simp only [bW,Nat.reduceAdd])
   (repeat' (first|(with_reducible first|(apply hK;clear hK K)|refine stZ ?_|refine aT rfl ?_|((first|apply ae|apply af);clear ae X af Y))|(with_reducible refine aW ?_;first|refine aU rfl ?_|refine aV rfl ?_)|(with_reducible refine bv ?_;first|refine bd rfl rfl rfl rfl ?_|refine bt rfl rfl rfl ?_|refine bI rfl rfl rfl rfl ?_)|((first|(with_reducible first|((first|refine aZ ?_|refine a8 ?_);intro K hK)|(refine aE ?_;intro X Y ae af)|refine aF ?_)|(with_reducible refine bv ?_;refine be rfl rfl fun X Y ae af=>?_));simp (disch:=first|decide|omega|(simp only [List.length_cons,List.length_nil];omega)) only [go_sem,↓aj hN,ak hN,reduceIte,reduceCtorEq,Nat.reduceAdd,Nat.reduceLT,Nat.reduceLeDiff,Nat.reduceEqDiff,Nat.reduceSub])|(with_reducible refine And.intro (fun h=>?_) (fun h=>?_) <;> try (exfalso;omega))|(with_reducible refine aY aI hN ?_)|(refine aB hok ?_ rfl (fun _=>rfl) ?_)|(with_reducible first|exact aq|refine am ?_ ?_|exact bH _|refine aM ?_|exact aL _|exact bj _ _|refine bi ?_|exact aJ _)|exact aN hN rfl rfl|(refine bh hN rfl ?_;first|exact aC _|exact aD _)|exact aK rfl rfl rfl|(simp only [ba,List.map_nil])|(with_reducible refine bu ?_)|(with_reducible refine And.intro ?_ ?_)|(refine ah ?_;omega)|(exact aX hN (by decide))))
   (refine bX (.inr rfl) (by first|rfl|(simp (disch:=first|decide|omega|(simp only [List.length_cons,List.length_nil];omega)) only [bG,bK,bN,bO,go_sem,beq_self_eq_true,↓ao,↓aj hN,ak hN,reduceIte,reduceCtorEq,Nat.reduceAdd,Nat.reduceLT,Nat.reduceLeDiff,Nat.reduceEqDiff,Nat.reduceSub];rfl)) ?_)
   exact congrArg C.bool (aH fun e=>h e.1).symm
end Go.Proofs.Ythjamlponejffaa
