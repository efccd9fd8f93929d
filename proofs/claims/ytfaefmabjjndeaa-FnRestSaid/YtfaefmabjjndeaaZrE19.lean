/-
  Solved and PlanFrom: the program's side.
-/
import Derived.Test.YtfaefmabjjndeaaZrE18
import Derived.Test.YtfaefmabjjndeaaZrNp
namespace Go.Proofs.Ytfaefmabjjndeaa
set_option linter.unusedVariables false
set_option linter.unusedSimpArgs false
open Go.RowKit
attribute [local irreducible] aF cL Aw Le
theorem rm {g : Pa} (hg : PaOk g) : PickOk g (noP g.prio.length):=by
 refine ⟨⟨cj _ _,fun v hv=>.inl ?_⟩,fun v hv h=>?_⟩
 · rw [noP,cj] at hv;exact cV _ hv
 · rw [noP,cV _ hv] at h;omega
def sF (g : Pa) (ps : List Int) : Prop:=sO g ps ∧ ∀ v,v < ps.length → 0 ≤ gi ps v → gi g.ar.own v = gi (bS g) v
theorem px {g : Pa} {ps : List Int} (h : sF g ps) : PickOk g ps:=by
 obtain ⟨⟨⟨hg,hp⟩,hw⟩,ho⟩:=h
 refine ⟨hp,fun v hv hp0=>⟨ho v (by have:=hp.1;omega) hp0,?_⟩⟩
 have hl:=hg.len
 have hn:=(mB (iy hg hp) (v:=v) hv).1
 rw [show gr (er g ps).ar.nxt v = eW g.ar.nxt ps v from dA _ (by omega),hw] at hn
 unfold eW at hn
 rw [if_pos hp0] at hn
 obtain ⟨t,ht,e⟩:=hn
 have : t = 0:=by simpa using ht
 subst this
 exact e
end Go.Proofs.Ytfaefmabjjndeaa
