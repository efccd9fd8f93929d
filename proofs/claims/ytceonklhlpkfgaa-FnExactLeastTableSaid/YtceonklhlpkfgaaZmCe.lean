/-
  The reference's games with links both ways: what its functions return.
-/
import Derived.Test.YtceonklhlpkfgaaZmFc
import Derived.Test.YtceonklhlpkfgaaZmCg
import Derived.Test.YtceonklhlpkfgaaZmCb
import Derived.Test.YtceonklhlpkfgaaZmSd
namespace Go.Proofs.Ytceonklhlpkfgaa
set_option linter.unusedVariables false
set_option linter.unusedSimpArgs false
open Go.RowKit
end Go.Proofs.Ytceonklhlpkfgaa
namespace Go.Proofs.Ytceonklhlpkfgaa
set_option linter.unusedVariables false
set_option linter.unusedSimpArgs false
open Go.RowKit
theorem lV {xs : List Int} {k : Nat} (h : k < xs.length) : xs.drop k = gi xs k :: xs.drop (k + 1):=by
 rw [List.drop_eq_getElem_cons h,dh h]
end Go.Proofs.Ytceonklhlpkfgaa
namespace Go.Proofs.Ytceonklhlpkfgaa
set_option linter.unusedVariables false
set_option linter.unusedSimpArgs false
open Go.RowKit
attribute [local irreducible] aw cz Aw Le
theorem om {φ : Nat → Loc} {hp : Hp} {w : World} {a : AV} {vs : List Value} (h : AVs φ hp w [a] vs) : ∃ v,vs = [v] ∧ AVC φ hp w a v:=by
 match vs,h with
 | [v], .cons h .nil => exact ⟨v, rfl, h⟩
theorem tM {φ : Nat → Loc} {hp : Hp} {w : World} {a b : AV} {vs : List Value} (h : AVs φ hp w [a,b] vs) : ∃ v u,vs = [v,u] ∧ AVC φ hp w a v ∧ AVC φ hp w b u:=by
 match vs,h with
 | [v, u], .cons h (.cons k .nil) => exact ⟨v, u, rfl, h, k⟩
theorem oq (g : Pa) : aw Try.prog 47 [paA g] [] (fun _=>.c (.bool (tf (PaOk g)))) :=
 jv Try.func47 rfl rfl (u:=.bool _) (fun O w=>.bool _) fun φ hp w vs h=>by
  obtain ⟨a,rfl,h1⟩:=om h
  exact qe a g w (mG h1)
theorem ou (g : Pa) : aw Try.prog 54 [paA g] [] (fun _=>.c (.bool (tf (PaOk g)))) :=
 jv Try.func54 rfl rfl (u:=.bool _) (fun O w=>.bool _) fun φ hp w vs h=>by
  obtain ⟨a,rfl,h1⟩:=om h
  exact (qf a g w (mG h1)).mono fun e w' h=>h
theorem ko (g : Pa) : aw Try.prog 28 [paA g] [] (fun _=>.c (.bool (tf (cH g)))):=by
 (refine bc aF Try.func28 rfl rfl (by kernel_rfl) fun hp0 ν hX hN=>?_;simp only [ct,Nat.reduceAdd])
 (repeat' (first|(with_reducible first|(apply hK;clear hK K)|refine stZ ?_|refine be rfl ?_|((first|apply ae|apply af);clear ae X af Y))|(with_reducible refine bh ?_;first|refine bf rfl ?_|refine bg rfl ?_)|(with_reducible refine eV ?_;first|refine dx rfl rfl rfl rfl ?_|refine er rfl rfl rfl ?_|refine ga rfl rfl rfl rfl ?_)|((first|(with_reducible first|((first|refine bm ?_|refine bn ?_);intro K hK)|(refine aL ?_;intro X Y ae af)|refine aM ?_)|(with_reducible refine eV ?_;refine dy rfl rfl fun X Y ae af=>?_));simp (disch:=first|decide|omega|(simp only [List.length_cons,List.length_nil];omega)) only [go_sem,↓aj hN,am hN,reduceIte,reduceCtorEq,Nat.reduceAdd,Nat.reduceLT,Nat.reduceLeDiff,Nat.reduceEqDiff,Nat.reduceSub])|(with_reducible refine And.intro (fun h=>?_) (fun h=>?_) <;> try (exfalso;omega))|(with_reducible refine bj aF hN ?_)|(refine aW (oq ?_) ?_ rfl (fun _=>rfl) ?_)|(with_reducible first|exact ay|refine aq ?_ ?_|exact bQ _|refine aI ?_|exact aK _|exact ba _ _|refine a8 ?_|exact aG _)|exact aJ hN rfl rfl|(refine aZ hN rfl ?_;first|exact aN _|exact aO _)|exact aH rfl rfl rfl|(simp only [aD,List.map_nil])|(with_reducible refine bK ?_)|(with_reducible refine And.intro ?_ ?_)|(refine an ?_;omega)|(exact bi hN (by decide))))
 all_goals (refine ce (.inr rfl) (by first|rfl|(simp (disch:=first|decide|omega|(simp only [List.length_cons,List.length_nil];omega)) only [bF,bH,bJ,bP,go_sem,beq_self_eq_true,↓aB,↓aj hN,am hN,reduceIte,reduceCtorEq,Nat.reduceAdd,Nat.reduceLT,Nat.reduceLeDiff,Nat.reduceEqDiff,Nat.reduceSub];rfl)) ?_)
 · exact congrArg C.bool (li ⟨fun h'=>⟨by assumption,by omega⟩,fun h'=>by have:=h'.2;omega⟩)
 · exact congrArg C.bool (ap fun h'=>absurd h'.1 (by assumption)).symm
theorem ov (g : Pa) : aw Try.prog 39 [paA g] [] (fun _=>.c (.bool (tf (cH g)))):=by
 (refine bc aF Try.func39 rfl rfl (by kernel_rfl) fun hp0 ν hX hN=>?_;simp only [ct,Nat.reduceAdd])
 (repeat' (first|(with_reducible first|(apply hK;clear hK K)|refine stZ ?_|refine be rfl ?_|((first|apply ae|apply af);clear ae X af Y))|(with_reducible refine bh ?_;first|refine bf rfl ?_|refine bg rfl ?_)|(with_reducible refine eV ?_;first|refine dx rfl rfl rfl rfl ?_|refine er rfl rfl rfl ?_|refine ga rfl rfl rfl rfl ?_)|((first|(with_reducible first|((first|refine bm ?_|refine bn ?_);intro K hK)|(refine aL ?_;intro X Y ae af)|refine aM ?_)|(with_reducible refine eV ?_;refine dy rfl rfl fun X Y ae af=>?_));simp (disch:=first|decide|omega|(simp only [List.length_cons,List.length_nil];omega)) only [go_sem,↓aj hN,am hN,reduceIte,reduceCtorEq,Nat.reduceAdd,Nat.reduceLT,Nat.reduceLeDiff,Nat.reduceEqDiff,Nat.reduceSub])|(with_reducible refine And.intro (fun h=>?_) (fun h=>?_) <;> try (exfalso;omega))|(with_reducible refine bj aF hN ?_)|(refine aW (ou ?_) ?_ rfl (fun _=>rfl) ?_)|(with_reducible first|exact ay|refine aq ?_ ?_|exact bQ _|refine aI ?_|exact aK _|exact ba _ _|refine a8 ?_|exact aG _)|exact aJ hN rfl rfl|(refine aZ hN rfl ?_;first|exact aN _|exact aO _)|exact aH rfl rfl rfl|(simp only [aD,List.map_nil])|(with_reducible refine bK ?_)|(with_reducible refine And.intro ?_ ?_)|(refine an ?_;omega)|(exact bi hN (by decide))))
 all_goals (refine ce (.inr rfl) (by first|rfl|(simp (disch:=first|decide|omega|(simp only [List.length_cons,List.length_nil];omega)) only [bF,bH,bJ,bP,go_sem,beq_self_eq_true,↓aB,↓aj hN,am hN,reduceIte,reduceCtorEq,Nat.reduceAdd,Nat.reduceLT,Nat.reduceLeDiff,Nat.reduceEqDiff,Nat.reduceSub];rfl)) ?_)
 · exact congrArg C.bool (jJ ⟨fun h'=>⟨h',by omega⟩,fun h'=>h'.1⟩)
 · exact congrArg C.bool (ap fun h'=>by have:=h'.2;omega).symm
end Go.Proofs.Ytceonklhlpkfgaa
namespace Go.Proofs.Ytceonklhlpkfgaa
set_option linter.unusedVariables false
set_option linter.unusedSimpArgs false
open Go.RowKit
end Go.Proofs.Ytceonklhlpkfgaa
namespace Go.Proofs.Ytceonklhlpkfgaa
set_option linter.unusedVariables false
set_option linter.unusedSimpArgs false
open Go.RowKit
end Go.Proofs.Ytceonklhlpkfgaa
namespace Go.Proofs.Ytceonklhlpkfgaa
set_option linter.unusedVariables false
set_option linter.unusedSimpArgs false
open Go.RowKit
end Go.Proofs.Ytceonklhlpkfgaa
