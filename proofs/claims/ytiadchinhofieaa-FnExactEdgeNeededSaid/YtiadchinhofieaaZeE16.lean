/-
  SameWon on both sides.
-/
import Derived.Test.YtiadchinhofieaaZeE13
namespace Go.Proofs.Ytiadchinhofieaa
set_option linter.unusedVariables false
set_option linter.unusedSimpArgs false
open Go.RowKit
attribute [local irreducible] aq ce Aw Le
def pA (g h : Pa) : Prop:=PaOk g ∧ PaOk h ∧ du g = du h
theorem l9 (g f : Pa) : aq Try.prog 28 [paA g,paA f] [] (fun _=>.c (.bool (tf (pA g f)))):=by
 (refine be aF Try.func28 rfl rfl (by kernel_rfl) fun hp0 ν hX hN=>?_;simp only [bX,Nat.reduceAdd])
 (repeat' (first|(with_reducible first|(apply hK;clear hK K)|refine stZ ?_|refine aM rfl ?_|((first|apply ae|apply af);clear ae X af Y))|(with_reducible refine aP ?_;first|refine aN rfl ?_|refine aO rfl ?_)|(with_reducible refine bg ?_;first|refine aI rfl rfl rfl rfl ?_|refine bf rfl rfl rfl ?_|refine bp rfl rfl rfl rfl ?_)|(with_reducible refine ca ?_;first|refine cg rfl rfl rfl rfl ?_|refine cH rfl rfl rfl ?_|refine di rfl rfl rfl rfl ?_|refine cw hN ?_)|((first|(with_reducible first|((first|refine aS ?_|refine cx ?_|refine aT ?_|refine cy ?_);intro K hK)|(refine ay ?_;intro X Y ae af)|refine az ?_)|(with_reducible refine bg ?_;refine aJ rfl rfl fun X Y ae af=>?_)|(with_reducible refine ca ?_;refine ch rfl rfl fun X Y ae af=>?_));simp (disch:=first|decide|omega|(simp only [List.length_cons,List.length_nil];omega)) only [go_sem,↓ak hN,am hN,reduceIte,reduceCtorEq,Nat.reduceAdd,Nat.reduceLT,Nat.reduceLeDiff,Nat.reduceEqDiff,Nat.reduceSub])|(with_reducible refine And.intro (fun h=>?_) (fun h=>?_) <;> try (exfalso;omega))|(with_reducible refine aR aF hN ?_)|(with_reducible refine bF aF hN ?_)|(refine br (fx ?_) ?_ rfl (fun _=>rfl) ?_)|(first|refine bo hN (mF g (by assumption)) ?_|refine bo hN (px (du g) (du f) (mG (by assumption))) ?_)|(refine bo hN (mF f (by assumption)) ?_)|(with_reducible first|exact a9|refine aK ?_ ?_|exact cF _|refine bB ?_|exact bD _|exact bQ _ _|refine bP ?_|exact bz _)|exact bC hN rfl rfl|(refine bO hN rfl ?_;first|exact ba _|exact bc _)|exact bA rfl rfl rfl|(simp only [aV,List.map_nil])|(with_reducible refine bn ?_)|(with_reducible refine And.intro ?_ ?_)|(refine ah ?_;omega)|(exact aQ hN (by decide))))
 all_goals (refine cf (.inr rfl) (by first|rfl|(simp (disch:=first|decide|omega|(simp only [List.length_cons,List.length_nil];omega)) only [bI,bJ,bL,bN,go_sem,beq_self_eq_true,↓au,↓ak hN,am hN,reduceIte,reduceCtorEq,Nat.reduceAdd,Nat.reduceLT,Nat.reduceLeDiff,Nat.reduceEqDiff,Nat.reduceSub];rfl)) ?_)
 · refine gc ?_
   exact dj ⟨fun e=>⟨by assumption,by assumption,e⟩,fun e=>e.2.2⟩
 · refine gc ?_
   exact (ap fun e=>absurd e.2.1 (by assumption)).symm
 · refine gc ?_
   exact (ap fun e=>absurd e.1 (by assumption)).symm
end Go.Proofs.Ytiadchinhofieaa
