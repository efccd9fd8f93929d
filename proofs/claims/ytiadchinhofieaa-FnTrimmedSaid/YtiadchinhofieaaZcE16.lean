/-
  SameWon on both sides.
-/
import Derived.Test.YtiadchinhofieaaZcE13
namespace Go.Proofs.Ytiadchinhofieaa
set_option linter.unusedVariables false
set_option linter.unusedSimpArgs false
open Go.RowKit
attribute [local irreducible] aq ci Aw Le
def yR (g h : Pa) : Prop:=PaOk g ∧ PaOk h ∧ bX g = bX h
theorem yt (g f : Pa) : aq Try.prog 28 [paA g,paA f] [] (fun _=>.c (.bool (tf (yR g f)))):=by
 (refine bh aG Try.func28 rfl rfl (by kernel_rfl) fun hp0 ν hX hN=>?_;simp only [cx,Nat.reduceAdd])
 (repeat' (first|(with_reducible first|(apply hK;clear hK K)|refine stZ ?_|refine aM rfl ?_|((first|apply ae|apply af);clear ae X af Y))|(with_reducible refine aP ?_;first|refine aN rfl ?_|refine aO rfl ?_)|(with_reducible refine be ?_;first|refine aK rfl rfl rfl rfl ?_|refine bc rfl rfl rfl ?_|refine bp rfl rfl rfl rfl ?_)|(with_reducible refine bU ?_;first|refine bN rfl rfl rfl rfl ?_|refine cn rfl rfl rfl ?_|refine cQ rfl rfl rfl rfl ?_|refine b8 hN ?_)|((first|(with_reducible first|((first|refine aS ?_|refine b9 ?_|refine aT ?_|refine ca ?_);intro K hK)|(refine az ?_;intro X Y ae af)|refine aA ?_)|(with_reducible refine be ?_;refine aL rfl rfl fun X Y ae af=>?_)|(with_reducible refine bU ?_;refine bO rfl rfl fun X Y ae af=>?_));simp (disch:=first|decide|omega|(simp only [List.length_cons,List.length_nil];omega)) only [go_sem,↓am hN,ao hN,reduceIte,reduceCtorEq,Nat.reduceAdd,Nat.reduceLT,Nat.reduceLeDiff,Nat.reduceEqDiff,Nat.reduceSub])|(with_reducible refine And.intro (fun h=>?_) (fun h=>?_) <;> try (exfalso;omega))|(with_reducible refine aR aG hN ?_)|(with_reducible refine bn aG hN ?_)|(refine bE (gc ?_) ?_ rfl (fun _=>rfl) ?_)|(first|refine bJ hN (ow g (by assumption)) ?_|refine bJ hN (rn (bX g) (bX f) (ox (by assumption))) ?_)|(refine bJ hN (ow f (by assumption)) ?_)|(with_reducible first|exact aV|refine aJ ?_ ?_|exact cF _|refine bv ?_|exact bz _|exact bR _ _|refine bQ ?_|exact bt _)|exact bw hN rfl rfl|(refine bP hN rfl ?_;first|exact aZ _|exact a8 _)|exact bu rfl rfl rfl|(simp only [ba,List.map_nil])|(with_reducible refine bo ?_)|(with_reducible refine And.intro ?_ ?_)|(refine ak ?_;omega)|(exact aQ hN (by decide))))
 all_goals (refine dd (.inr rfl) (by first|rfl|(simp (disch:=first|decide|omega|(simp only [List.length_cons,List.length_nil];omega)) only [bK,bS,bV,bY,go_sem,beq_self_eq_true,↓au,↓am hN,ao hN,reduceIte,reduceCtorEq,Nat.reduceAdd,Nat.reduceLT,Nat.reduceLeDiff,Nat.reduceEqDiff,Nat.reduceSub];rfl)) ?_)
 · refine fa ?_
   exact eg ⟨fun e=>⟨by assumption,by assumption,e⟩,fun e=>e.2.2⟩
 · refine fa ?_
   exact (ax fun e=>absurd e.2.1 (by assumption)).symm
 · refine fa ?_
   exact (ax fun e=>absurd e.1 (by assumption)).symm
end Go.Proofs.Ytiadchinhofieaa
