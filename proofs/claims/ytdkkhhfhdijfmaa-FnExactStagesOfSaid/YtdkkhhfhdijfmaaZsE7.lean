/-
  The solver's small functions.
-/
import Derived.Test.YtdkkhhfhdijfmaaZsCe
import Derived.Test.YtdkkhhfhdijfmaaZsCg
namespace Go.Proofs.Ytdkkhhfhdijfmaa
set_option linter.unusedVariables false
set_option linter.unusedSimpArgs false
open Go.RowKit
attribute [local irreducible] ay b9 Aw Le
def fp (bs : List Bool) : Nat → List Int
 | 0 => []
 | k + 1 => fp bs k ++ if gb bs k then [(k : Int)] else []
theorem qL (bs : List Bool) : ∀ k,(fp bs k).length ≤ k:=by
 intro k
 induction k with
 | zero => exact Nat.le_refl _
 | succ k ih => simp only [fp, List.length_append]; split <;> simp <;> omega
theorem jI {bs : List Bool} {x : Int} : ∀ {k : Nat},x ∈ fp bs k ↔ ∃ v,v < k ∧ x = (v : Int) ∧ gb bs v = true:=by
 intro k
 induction k with
 | zero => simp [fp]
 | succ k ih =>
   rw [fp,List.mem_append,ih]
   constructor
   · rintro (⟨v,h1,h2⟩|h)
     · exact ⟨v,by omega,h2⟩
     · split at h
       · rename_i hb;simp at h;exact ⟨k,by omega,h,hb⟩
       · simp at h
   · rintro ⟨v,h1,h2,h3⟩
     rcases Nat.lt_or_ge v k with h|h
     · exact .inl ⟨v,h,h2,h3⟩
     · have : v = k:=by omega
       subst this
       rw [if_pos h3];exact .inr (by simp [h2])
theorem ov (a b : Int) : ay Try.prog 65 [.c (.int .i64 a),.c (.int .i64 b)] [] (fun _=>.c (.int .i64 (max a b))):=by
 (refine bv aE Try.func65 rfl rfl (by kernel_rfl) fun hp0 ν hX hN=>?_;simp only [co,Nat.reduceAdd])
 (repeat' (first|(with_reducible first|(apply hK;clear hK K)|refine stZ ?_|refine aQ rfl ?_|((first|apply ae|apply af);clear ae X af Y))|(with_reducible refine aT ?_;first|refine aR rfl ?_|refine aS rfl ?_)|((with_reducible first|((first|refine aW ?_|refine aX ?_);intro K hK)|(refine aC ?_;intro X Y ae af)|refine aD ?_);simp (disch:=first|decide|omega|(simp only [List.length_cons,List.length_nil];omega)) only [go_sem,↓aj hN,am hN,reduceIte,reduceCtorEq,Nat.reduceAdd,Nat.reduceLT,Nat.reduceLeDiff,Nat.reduceEqDiff,Nat.reduceSub])|(with_reducible refine And.intro (fun h=>?_) (fun h=>?_) <;> try (exfalso;omega))|(with_reducible refine aV aE hN ?_)|(with_reducible refine And.intro ?_ ?_)|(refine ah ?_;omega)|(exact aU hN (by decide))))
 all_goals (refine cU (.inr rfl) (by first|rfl|(simp (disch:=first|decide|omega|(simp only [List.length_cons,List.length_nil];omega)) only [bS,bV,bW,b7,go_sem,beq_self_eq_true,↓az,↓aj hN,am hN,reduceIte,reduceCtorEq,Nat.reduceAdd,Nat.reduceLT,Nat.reduceLeDiff,Nat.reduceEqDiff,Nat.reduceSub];rfl)) ?_)
 all_goals (refine fo ?_;omega)
end Go.Proofs.Ytdkkhhfhdijfmaa
