/-
  Small functions: marks of a set; the vertices of a trap.
-/
import Derived.Test.YtfaefmabjjndeaaZwCe
import Derived.Test.YtfaefmabjjndeaaZwFc
namespace Go.Proofs.Ytfaefmabjjndeaa
set_option linter.unusedVariables false
set_option linter.unusedSimpArgs false
open Go.RowKit
attribute [local irreducible] aN cA Aw Le
theorem fH {Q : Nat → Prop} {k : Nat} (h : ∀ i,i < k → Q i) (hk : Q k) : ∀ i,i < k + 1 → Q i:=fun i hi=>by
 rcases Nat.lt_or_ge i k with h'|h'
 · exact h i h'
 · have : i = k:=by omega
   subst this;exact hk
theorem fI {a b : Int} (h : (a != b) = false) : a = b:=by simpa using h
theorem mn {xs ys : List Int} (hl : xs.length = ys.length) : xs = ys ↔ ∀ j,j < xs.length → gi xs j = gi ys j :=
 ⟨fun h j _=>by rw [h],fun h=>nC hl h⟩
end Go.Proofs.Ytfaefmabjjndeaa
namespace Go.Proofs.Ytfaefmabjjndeaa
set_option linter.unusedVariables false
set_option linter.unusedSimpArgs false
open Go.RowKit
attribute [local irreducible] aN cA Aw Le
theorem eB (xs : List Int) (x : Int) : aN Try.prog 126 [.c (.I xs),.c (.int .i64 x)] [] (fun _=>.c (.bool (tf (x ∈ xs)))) :=
 e8 Try.func126 rfl rfl (u:=.bool _) (fun O w=>.bool _) fun φ hp w vs h=>by
  obtain ⟨a,b,rfl,h1,h2⟩:=oA h
  obtain rfl:=cK h2
  obtain ⟨sa,n,c,rfl,hI⟩:=li (dn h1)
  exact (iB sa n c xs x w hI).mono fun e w' ⟨he,hw⟩=>⟨he,by rw [← hw];exact Below.refl _ _⟩
theorem jz (xs : List Int) (hl : xs.length ≤ 1048576) : aN Try.prog 88 [.c (.I xs)] [.arr 2 .yes (.I xs)] (fun ns=>.sl (ns.getD 0 0)):=by
 (refine bL aL Try.func88 rfl rfl (by kernel_rfl) fun hp0 ν hX hN=>?_;simp only [cW,Nat.reduceAdd])
 (repeat' (first|(with_reducible first|(refine hK _ _ ?_;clear hK K)|(refine aa _ ?_;clear aa K)|refine bf ?_|refine bQ ?_|refine aZ ?_|refine aE ?_|refine aD ?_|refine bR ?_|refine aP ?_|refine a8 ?_|refine bS ?_|refine a9 ?_|refine ba rfl ?_|refine bg ?_|refine bc ?_|refine bT ?_|refine bd ?_|refine aO ?_|refine n_k ?_|refine be ?_|(refine ae ?_;clear ae X af Y)|(refine af ?_;clear ae X af Y))|(with_reducible refine bm ?_;first|refine bi rfl ?_|refine bj rfl ?_)|(with_reducible refine aU ?_;first|refine aF rfl rfl rfl rfl ?_|refine aR rfl rfl rfl ?_|refine bp rfl rfl rfl rfl ?_)|((first|(with_reducible first|refine bn rfl rfl fun K hK=>?_|refine bo rfl rfl fun K aa=>?_|refine aQ fun X Y ae af=>?_|refine aS ?_));simp (disch:=first|decide|omega|(simp only [List.length_cons,List.length_nil];omega)) only [go_sem,beq_self_eq_true,↓aj,↓ah hN,au hN,reduceIte,reduceCtorEq,Nat.reduceAdd,Nat.reduceLT,Nat.reduceLeDiff,Nat.reduceEqDiff,Nat.reduceSub])|(with_reducible refine And.intro (fun h=>?_) (fun h=>?_) <;> try (exfalso;omega))|(with_reducible refine bh aL hN rfl ?_ ?_;kernel_rfl)|(with_reducible refine And.intro ?_ ?_)|(refine aw ?_;omega)|(exact br hN (by decide))))
 (refine ox hN (i:=1) (.inr rfl) (by first|rfl|(simp (disch:=first|decide|omega|(simp only [List.length_cons,List.length_nil];omega)) only [cn,cx,cC,cJ,go_sem,beq_self_eq_true,↓aj,↓ah hN,au hN,reduceIte,reduceCtorEq,Nat.reduceAdd,Nat.reduceLT,Nat.reduceLeDiff,Nat.reduceEqDiff,Nat.reduceSub];rfl)) rfl ?_ rfl)
 rfl
end Go.Proofs.Ytfaefmabjjndeaa
namespace Go.Proofs.Ytfaefmabjjndeaa
set_option linter.unusedVariables false
set_option linter.unusedSimpArgs false
open Go.RowKit
attribute [local irreducible] aN cA Aw Le
end Go.Proofs.Ytfaefmabjjndeaa
