/-
  Worths that the dice draw.
-/
import Derived.Test.YtiadchinhofieaaZqT2
import Derived.Test.YtiadchinhofieaaZqD3
import Derived.Test.YtiadchinhofieaaZqR3
import Derived.Test.YtiadchinhofieaaZqD5
namespace Go.Proofs.Ytiadchinhofieaa
set_option linter.unusedVariables false
set_option linter.unusedSimpArgs false
open Go.RowKit
attribute [local irreducible] bt cU Aw Le
theorem j6 (g : Pa) (hg : PaOk g) (x : Int) (hx : ff g.prio.length x) : bt Try.prog 82 [paA g,.c (.int .i64 x)] [] (fun _=>.c (.bool true)):=by
 have hl:=hg.len
 have hle:=hg.ar.le
 have c1:=iQ x 0 ((g.prio.length : Int) - 1)
 rw [aP (show (0 : Int) ≤ x ∧ x ≤ (g.prio.length : Int) - 1 by unfold ff at hx;omega)] at c1
 (refine bR aG Try.func82 rfl rfl (by kernel_rfl) fun hp0 ν hX hN=>?_;simp only [cI,Nat.reduceAdd])
 (repeat' (first|(with_reducible first|(refine hK _ _ ?_;clear hK K)|(refine aa _ ?_;clear aa K)|refine bd ?_|refine bG ?_|refine aV ?_|refine az ?_|refine ay ?_|refine bH ?_|refine aI ?_|refine aW ?_|refine bI ?_|refine aX ?_|refine aY rfl ?_|refine be ?_|refine aZ ?_|refine bJ ?_|refine ba ?_|refine aH ?_|refine n_k ?_|refine bc ?_|(refine ae ?_;clear ae X af Y)|(refine af ?_;clear ae X af Y))|(with_reducible refine bi ?_;first|refine bg rfl ?_|refine bh rfl ?_)|(with_reducible refine aQ ?_;first|refine aA rfl rfl rfl rfl ?_|refine aK rfl rfl rfl ?_|refine bn rfl rfl rfl rfl ?_)|((first|(with_reducible first|refine bj rfl rfl fun K hK=>?_|refine bm rfl rfl fun K aa=>?_|refine aJ fun X Y ae af=>?_|refine aL ?_));simp (disch:=first|decide|omega|(simp only [List.length_cons,List.length_nil];omega)) only [go_sem,beq_self_eq_true,↓ag,↓ak hN,ao hN,reduceIte,reduceCtorEq,Nat.reduceAdd,Nat.reduceLT,Nat.reduceLeDiff,Nat.reduceEqDiff,Nat.reduceSub])|(with_reducible refine And.intro (fun h=>?_) (fun h=>?_) <;> try (exfalso;omega))|(with_reducible refine bf aG hN rfl ?_ ?_;kernel_rfl)|(refine aD c1 ?_ rfl (fun _=>rfl) ?_)|(with_reducible first|exact am|refine ah ?_ ?_|exact br _|refine aw ?_|exact au _|exact aO _ _|refine aN ?_|exact ap _)|exact ax hN rfl rfl|(refine aM hN rfl ?_;first|exact aE _|exact aF _)|exact aq rfl rfl rfl|(simp only [bE,List.map_nil])|(with_reducible refine bD ?_)|(with_reducible refine And.intro ?_ ?_)|(refine aj ?_;omega)|(exact bo hN (by decide))))
 (refine cJ (.inr rfl) (by first|rfl|(simp (disch:=first|decide|omega|(simp only [List.length_cons,List.length_nil];omega)) only [cB,cC,cD,cE,go_sem,beq_self_eq_true,↓ag,↓ak hN,ao hN,reduceIte,reduceCtorEq,Nat.reduceAdd,Nat.reduceLT,Nat.reduceLeDiff,Nat.reduceEqDiff,Nat.reduceSub];rfl)) ?_)
 rfl
end Go.Proofs.Ytiadchinhofieaa
