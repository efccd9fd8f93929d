/-
  Small functions: marks of a set; the vertices of a trap.
-/
import Derived.Test.YtiadchinhofieaaZqCe
import Derived.Test.YtiadchinhofieaaZqFc
namespace Go.Proofs.Ytiadchinhofieaa
set_option linter.unusedVariables false
set_option linter.unusedSimpArgs false
open Go.RowKit
attribute [local irreducible] bt cU Aw Le
theorem eF {Q : Nat → Prop} {k : Nat} (h : ∀ i,i < k → Q i) (hk : Q k) : ∀ i,i < k + 1 → Q i:=fun i hi=>by
 rcases Nat.lt_or_ge i k with h'|h'
 · exact h i h'
 · have : i = k:=by omega
   subst this;exact hk
theorem cV {a b : Int} (h : (a != b) = false) : a = b:=by simpa using h
theorem uP {a b : Int} (h : (a != b) = true) : a ≠ b:=by simpa using h
theorem sW {xs ys : List Int} (hl : xs.length = ys.length) : xs = ys ↔ ∀ j,j < xs.length → gi xs j = gi ys j :=
 ⟨fun h j _=>by rw [h],fun h=>kD hl h⟩
end Go.Proofs.Ytiadchinhofieaa
namespace Go.Proofs.Ytiadchinhofieaa
set_option linter.unusedVariables false
set_option linter.unusedSimpArgs false
open Go.RowKit
attribute [local irreducible] bt cU Aw Le
theorem eo (xs : List Int) (x : Int) : bt Try.prog 63 [.c (.I xs),.c (.int .i64 x)] [] (fun _=>.c (.bool (tf (x ∈ xs)))) :=
 eX Try.func63 rfl rfl (u:=.bool _) (fun O w=>.bool _) fun φ hp w vs h=>by
  obtain ⟨a,b,rfl,h1,h2⟩:=sR h
  obtain rfl:=cW h2
  obtain ⟨sa,n,c,rfl,hI⟩:=mN (dT h1)
  exact (mm sa n c xs x w hI).mono fun e w' ⟨he,hw⟩=>⟨he,by rw [← hw];exact Below.refl _ _⟩
theorem jM (xs : List Int) (x : Int) : bt Try.prog 135 [.c (.I xs),.c (.int .i64 x)] [] (fun _=>.c (.bool (tf (x ∈ xs)))) :=
 eX Try.func135 rfl rfl (u:=.bool _) (fun O w=>.bool _) fun φ hp w vs h=>by
  obtain ⟨a,b,rfl,h1,h2⟩:=sR h
  obtain rfl:=cW h2
  obtain ⟨sa,n,c,rfl,hI⟩:=mN (dT h1)
  exact (nq sa n c xs x w hI).mono fun e w' ⟨he,hw⟩=>⟨he,by rw [← hw];exact Below.refl _ _⟩
theorem nX (xs : List Int) (hl : xs.length ≤ 1048576) : bt Try.prog 109 [.c (.I xs)] [.arr 2 .yes (.I xs)] (fun ns=>.sl (ns.getD 0 0)):=by
 (refine bR aG Try.func109 rfl rfl (by kernel_rfl) fun hp0 ν hX hN=>?_;simp only [cI,Nat.reduceAdd])
 (repeat' (first|(with_reducible first|(refine hK _ _ ?_;clear hK K)|(refine aa _ ?_;clear aa K)|refine bd ?_|refine bG ?_|refine aV ?_|refine az ?_|refine ay ?_|refine bH ?_|refine aI ?_|refine aW ?_|refine bI ?_|refine aX ?_|refine aY rfl ?_|refine be ?_|refine aZ ?_|refine bJ ?_|refine ba ?_|refine aH ?_|refine n_k ?_|refine bc ?_|(refine ae ?_;clear ae X af Y)|(refine af ?_;clear ae X af Y))|(with_reducible refine bi ?_;first|refine bg rfl ?_|refine bh rfl ?_)|(with_reducible refine aQ ?_;first|refine aA rfl rfl rfl rfl ?_|refine aK rfl rfl rfl ?_|refine bn rfl rfl rfl rfl ?_)|((first|(with_reducible first|refine bj rfl rfl fun K hK=>?_|refine bm rfl rfl fun K aa=>?_|refine aJ fun X Y ae af=>?_|refine aL ?_));simp (disch:=first|decide|omega|(simp only [List.length_cons,List.length_nil];omega)) only [go_sem,beq_self_eq_true,↓ag,↓ak hN,ao hN,reduceIte,reduceCtorEq,Nat.reduceAdd,Nat.reduceLT,Nat.reduceLeDiff,Nat.reduceEqDiff,Nat.reduceSub])|(with_reducible refine And.intro (fun h=>?_) (fun h=>?_) <;> try (exfalso;omega))|(with_reducible refine bf aG hN rfl ?_ ?_;kernel_rfl)|(with_reducible refine And.intro ?_ ?_)|(refine aj ?_;omega)|(exact bo hN (by decide))))
 (refine fk hN (i:=1) (.inr rfl) (by first|rfl|(simp (disch:=first|decide|omega|(simp only [List.length_cons,List.length_nil];omega)) only [cB,cC,cD,cE,go_sem,beq_self_eq_true,↓ag,↓ak hN,ao hN,reduceIte,reduceCtorEq,Nat.reduceAdd,Nat.reduceLT,Nat.reduceLeDiff,Nat.reduceEqDiff,Nat.reduceSub];rfl)) rfl ?_ rfl)
 rfl
end Go.Proofs.Ytiadchinhofieaa
namespace Go.Proofs.Ytiadchinhofieaa
set_option linter.unusedVariables false
set_option linter.unusedSimpArgs false
open Go.RowKit
end Go.Proofs.Ytiadchinhofieaa
