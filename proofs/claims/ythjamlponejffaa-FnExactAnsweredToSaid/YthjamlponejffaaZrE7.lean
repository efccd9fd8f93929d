/-
  The solver's small functions.
-/
import Derived.Test.YthjamlponejffaaZrCe
import Derived.Test.YthjamlponejffaaZrCg
namespace Go.Proofs.Ythjamlponejffaa
set_option linter.unusedVariables false
set_option linter.unusedSimpArgs false
open Go.RowKit
attribute [local irreducible] aw cu Aw Le
def eL (bs : List Bool) : Nat → List Int
 | 0 => []
 | k + 1 => eL bs k ++ if gb bs k then [(k : Int)] else []
theorem pQ (bs : List Bool) : ∀ k,(eL bs k).length ≤ k:=by
 intro k
 induction k with
 | zero => exact Nat.le_refl _
 | succ k ih => simp only [eL, List.length_append]; split <;> simp <;> omega
theorem iX {bs : List Bool} {x : Int} : ∀ {k : Nat},x ∈ eL bs k ↔ ∃ v,v < k ∧ x = (v : Int) ∧ gb bs v = true:=by
 intro k
 induction k with
 | zero => simp [eL]
 | succ k ih =>
   rw [eL,List.mem_append,ih]
   constructor
   · rintro (⟨v,h1,h2⟩|h)
     · exact ⟨v,by omega,h2⟩
     · split at h
       · rename_i hb;simp at h;exact ⟨k,by omega,h,hb⟩
       · simp at h
   · rintro ⟨v,h1,h2,h3⟩
     rcases Nat.lt_or_ge v k with h|h
     · exact .inl ⟨v,h,h2,h3⟩
     · have : v = k:=by omega
       subst this
       rw [if_pos h3];exact .inr (by simp [h2])
theorem gf (a b : List Bool) (h : b.length = a.length) (hl : a.length ≤ 256) : aw Try.prog 87 [.c (.B a),.c (.B b)] [.arr 4 .yes (.B (cx a.length fun i=>gb a i && !gb b i))] (fun ns=>.sl (ns.getD 0 0)):=by
 (refine aV aS Try.func87 rfl rfl (by kernel_rfl) fun hp0 ν hX hN=>?_;simp only [ca,Nat.reduceAdd])
 (repeat' (first|(with_reducible first|(apply hK;clear hK K)|refine stZ ?_|refine aX rfl ?_|((first|apply ae|apply af);clear ae X af Y))|(with_reducible refine a8 ?_;first|refine aY rfl ?_|refine aZ rfl ?_)|(with_reducible refine bz ?_;first|refine be rfl rfl rfl rfl ?_|refine bv rfl rfl rfl ?_|refine bN rfl rfl rfl rfl ?_)|((first|(with_reducible first|((first|refine bc ?_|refine bd ?_);intro K hK)|(refine aC ?_;intro X Y ae af)|refine aD ?_)|(with_reducible refine bz ?_;refine bf rfl rfl fun X Y ae af=>?_));simp (disch:=first|decide|omega|(simp only [List.length_cons,List.length_nil];omega)) only [go_sem,↓ak hN,an hN,reduceIte,reduceCtorEq,Nat.reduceAdd,Nat.reduceLT,Nat.reduceLeDiff,Nat.reduceEqDiff,Nat.reduceSub])|(with_reducible refine And.intro (fun h=>?_) (fun h=>?_) <;> try (exfalso;omega))|(with_reducible refine ba aS hN ?_)|(with_reducible refine And.intro ?_ ?_)|(refine am ?_;omega)|(exact a9 hN (by decide))))
 (refine ce (fun (k : Nat)=>(tmL [(6,.c (.int .i64 k)),(5,.sl (ν 0)),(0,.c (.B a)),(1,.c (.B b))],hpL hp0 ν [.arr 4 .yes (.B (cx a.length fun i=>if i < k then gb a i && !gb b i else false))])) (fun (k : Nat)=>k ≤ a.length) (fun (k : Nat)=>a.length - k) ⟨0,?_,bI hX hN [] ?_ ?_⟩ ?_;(repeat' (first|(with_reducible first|exact clZ|refine bJ ?_ ?_|refine bK ?_ ?_|rfl|refine suZ ?_)|refine bL rfl ?_ ?_|exact bo hN _ rfl rfl rfl|exact bp hN _ rfl rfl rfl|exact aL hN _ rfl rfl rfl (Or.inr rfl)|(refine br hN _ rfl rfl (by first|exact Or.inr rfl|exact Or.inl rfl) ?_;first|exact aP _|exact aQ _)|refine aM hN rfl ?_|refine aN hN rfl rfl ?_|exact aK hN _ rfl rfl|exact aO hN rfl rfl rfl rfl|(with_reducible first|refine stZ ?_|refine bn ?_)));(try (any_goals (first|(with_reducible rfl)|(refine am ?_;omega)))))
 · exact ef _ _
 intro k hk
 (repeat' (first|(with_reducible first|(apply hK;clear hK K)|refine stZ ?_|refine aX rfl ?_|((first|apply ae|apply af);clear ae X af Y))|(with_reducible refine a8 ?_;first|refine aY rfl ?_|refine aZ rfl ?_)|(with_reducible refine bz ?_;first|refine be rfl rfl rfl rfl ?_|refine bv rfl rfl rfl ?_|refine bN rfl rfl rfl rfl ?_)|((first|(with_reducible first|((first|refine bc ?_|refine bd ?_);intro K hK)|(refine aC ?_;intro X Y ae af)|refine aD ?_)|(with_reducible refine bz ?_;refine bf rfl rfl fun X Y ae af=>?_));simp (disch:=first|decide|omega|(simp only [List.length_cons,List.length_nil];omega)) only [go_sem,↓ak hN,an hN,reduceIte,reduceCtorEq,Nat.reduceAdd,Nat.reduceLT,Nat.reduceLeDiff,Nat.reduceEqDiff,Nat.reduceSub])|(with_reducible refine And.intro (fun h=>?_) (fun h=>?_) <;> try (exfalso;omega))|(with_reducible refine ba aS hN ?_)|(with_reducible refine And.intro ?_ ?_)|(refine am ?_;omega)|(exact a9 hN (by decide))))
 · (refine ⟨k + 1,⟨?_,?_⟩,bI hX hN [] ?_ ?_⟩;(try any_goals dsimp only);(repeat' (first|(with_reducible first|exact clZ|refine bJ ?_ ?_|refine bK ?_ ?_|rfl|refine suZ ?_)|refine bL rfl ?_ ?_|exact bo hN _ rfl rfl rfl|exact bp hN _ rfl rfl rfl|exact aL hN _ rfl rfl rfl (Or.inr rfl)|(refine br hN _ rfl rfl (by first|exact Or.inr rfl|exact Or.inl rfl) ?_;first|exact aP _|exact aQ _)|refine aM hN rfl ?_|refine aN hN rfl rfl ?_|exact aK hN _ rfl rfl|exact aO hN rfl rfl rfl rfl|(with_reducible first|refine stZ ?_|refine bn ?_)));(try (any_goals (first|(with_reducible rfl)|(refine am ?_;omega)))))
   exact lg (by omega) (by simp [*])
 · (refine ⟨k + 1,⟨?_,?_⟩,bI hX hN [] ?_ ?_⟩;(try any_goals dsimp only);(repeat' (first|(with_reducible first|exact clZ|refine bJ ?_ ?_|refine bK ?_ ?_|rfl|refine suZ ?_)|refine bL rfl ?_ ?_|exact bo hN _ rfl rfl rfl|exact bp hN _ rfl rfl rfl|exact aL hN _ rfl rfl rfl (Or.inr rfl)|(refine br hN _ rfl rfl (by first|exact Or.inr rfl|exact Or.inl rfl) ?_;first|exact aP _|exact aQ _)|refine aM hN rfl ?_|refine aN hN rfl rfl ?_|exact aK hN _ rfl rfl|exact aO hN rfl rfl rfl rfl|(with_reducible first|refine stZ ?_|refine bn ?_)));(try (any_goals (first|(with_reducible rfl)|(refine am ?_;omega)))))
   exact lg (by omega) (by simp [*])
 · (refine ct hN (i:=0) (.inr rfl) (by first|rfl|(simp (disch:=first|decide|omega|(simp only [List.length_cons,List.length_nil];omega)) only [bH,bM,bP,bQ,go_sem,beq_self_eq_true,↓ax,↓ak hN,an hN,reduceIte,reduceCtorEq,Nat.reduceAdd,Nat.reduceLT,Nat.reduceLeDiff,Nat.reduceEqDiff,Nat.reduceSub];rfl)) rfl ?_ rfl)
   exact congrArg C.B (gG (by omega))
end Go.Proofs.Ythjamlponejffaa
