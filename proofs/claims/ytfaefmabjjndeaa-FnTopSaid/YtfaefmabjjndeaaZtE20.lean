/-
  Plans by the least successor with which the winner still wins: the reference's side.
-/
import Derived.Test.YtfaefmabjjndeaaZtE19
namespace Go.Proofs.Ytfaefmabjjndeaa
set_option linter.unusedVariables false
set_option linter.unusedSimpArgs false
open Go.RowKit
attribute [local irreducible] FunSpec CallR Aw Le
def gmP (g : Pa) (P : List Int) : Gm:=⟨(gmOf g).own,(gmOf g).prio,(gmOf g).nxt,(gmOf g).prev,P⟩
theorem gm_eq {A B : PG.Gm} (h1 : A.own = B.own) (h2 : A.prio = B.prio) (h3 : A.E = B.E) : A = B:=by
  cases A;cases B
  simp only at h1 h2 h3
  subst h1;subst h2;subst h3
  rfl
theorem pg_pick {g : Pa} (hg : PaOk g) {P : List Int} (h : Picks g P) : pgOf (gmP g P) g.prio.length = pgP (onlyP g P):=by
  refine gm_eq rfl rfl (funext fun v=>funext fun u=>propext ?_)
  rw [pgP_E]
  show v < _ ∧ u < _ ∧ edg (gmP g P) v u = true ∧ (∃ t,t < (gr g.ar.nxt v).length ∧ gi (gr g.ar.nxt v) t = (u : Int)) ↔ v < g.prio.length ∧ u < g.prio.length ∧ _
  refine and_congr_right fun hv=>and_congr_right fun hu=>?_
  have hl:=hg.len
  rw [show gr (onlyP g P).ar.nxt v = pickR g.ar.nxt P v from gr_tabr _ (by omega)]
  have he : edg (gmP g P) v u = true ↔ gi P v < 0 ∨ gi P v = (u : Int):=by
    simp only [edg,gmP,Bool.or_eq_true,beq_iff_eq,Int.toNat_natCast]
    exact or_congr_left ⟨fun h=>of_decide_eq_true h,fun h=>decide_eq_true h⟩
  rw [he]
  unfold pickR
  split
  · rename_i h0
    constructor
    · rintro ⟨h1|h1,_⟩
      · omega
      · exact ⟨0,by simp,h1⟩
    · rintro ⟨t,ht,e⟩
      have : t = 0:=by simpa using ht
      subst this
      have e' : gi P v = (u : Int):=e
      refine ⟨.inr e',?_⟩
      rcases h.2 v (by have:=h.1;omega) with e2|e2
      · omega
      · obtain ⟨t,ht,e3⟩:=mem_gi e2
        exact ⟨t,ht,e3.trans e'⟩
  · exact ⟨fun x=>x.2,fun x=>⟨.inl (by omega),x⟩⟩
end Go.Proofs.Ytfaefmabjjndeaa
