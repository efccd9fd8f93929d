/-
  Who wins which vertex: the program's and the reference's.
-/
import Derived.Test.YthjamlponejffaaZhE8
import Derived.Test.YthjamlponejffaaZhE9
import Derived.Test.YthjamlponejffaaZhCe
import Derived.Test.YthjamlponejffaaZhFc
import Derived.Test.YthjamlponejffaaZhCq
namespace Go.Proofs.Ythjamlponejffaa
set_option linter.unusedVariables false
set_option linter.unusedSimpArgs false
open Go.RowKit
theorem sP {xs : List Int} {w : Nat} {x : Int} (h : gi xs w = x) : xs.set w x = xs:=by
 apply List.ext_getElem?
 intro j
 rw [List.getElem?_set]
 by_cases e : w = j
 · subst e
   by_cases hl : w < xs.length
   · rw [if_pos rfl,if_pos hl,← h,gi,List.getD_eq_getElem?_getD,List.getElem?_eq_getElem hl];rfl
   · rw [if_pos rfl,if_neg hl,List.getElem?_eq_none (by omega)]
 · rw [if_neg e]
end Go.Proofs.Ythjamlponejffaa
namespace Go.Proofs.Ythjamlponejffaa
set_option linter.unusedVariables false
set_option linter.unusedSimpArgs false
open Go.RowKit
theorem nd {P : PG.Gm} {n : Nat} (hf : PG.Fin P n) {S : Nat → Prop} (hS : ∀ v,S v → v < n) (ht : PG.Total P S) {i : Int} (hi : i = 0 ∨ i = 1) (v : Nat) : PG.Won P (1 - i) S v ↔ PG.Diff S (PG.Won P i S) v:=by
 refine ⟨fun h=>?_,fun ⟨h,h'⟩=>?_⟩
 · have hv:=PG.won_in h
   refine ⟨hv,?_⟩
   rcases hi with rfl|rfl
   · exact (PG.won_not hf hS ht hv).1 h
   · exact fun h1=>(PG.won_not hf hS ht hv).1 h1 h
 · rcases hi with rfl|rfl
   · exact (PG.won_not hf hS ht h).2 h'
   · exact Classical.byContradiction fun h0=>h' ((PG.won_not hf hS ht h).2 h0)
end Go.Proofs.Ythjamlponejffaa
namespace Go.Proofs.Ythjamlponejffaa
set_option linter.unusedVariables false
set_option linter.unusedSimpArgs false
open Go.RowKit
def pgP (g : Pa) : PG.Gm:=cO (c8 g) g.prio.length
theorem ne {g : Pa} (v u : Nat) : (pgP g).E v u ↔ v < g.prio.length ∧ u < g.prio.length ∧ ∃ t,t < (gr g.ar.nxt v).length ∧ gi (gr g.ar.nxt v) t = (u : Int):=by
 show v < _ ∧ u < _ ∧ edg (c8 g) v u = true ∧ _ ↔ _
 constructor
 · rintro ⟨a,b,_,c⟩;exact ⟨a,b,c⟩
 · rintro ⟨a,b,c⟩;exact ⟨a,b,wo v u (by omega) (by omega),c⟩
theorem nf {g : Pa} (hg : PaOk g) {xs : List Int} (h : fL g.ar xs) : PG.Total (pgP g) fun v=>(v : Int) ∈ xs:=by
 intro v hv
 obtain ⟨k,hk,e⟩:=ck hv
 obtain ⟨i,h1,h2⟩:=h.2 k hk
 have h3:=h.1 k hk
 have hl:=hg.len
 rw [e,Int.toNat_natCast] at h1 h2
 obtain ⟨j,hj,e'⟩:=ck h2
 have h4:=h.1 j hj
 rw [e'] at h4
 have e5 : (((gi (gr g.ar.nxt v) i).toNat : Nat) : Int) = gi (gr g.ar.nxt v) i:=Int.toNat_of_nonneg h4.1
 exact ⟨(gi (gr g.ar.nxt v) i).toNat,(ne _ _).2 ⟨by omega,by omega,i,h1,e5.symm⟩,by show _ ∈ xs;rw [e5];exact h2⟩
def d6 (g : Pa) (v : Nat) : Prop:=v < g.prio.length
theorem cY {g : Pa} (hg : PaOk g) : PG.Total (pgP g) (d6 g):=by
 intro v hv
 have hl:=hg.len
 have hv' : v < g.prio.length:=hv
 obtain ⟨_,_,h1,h2,h3⟩:=hg.ar.vert v (by omega)
 have h4:=h3 0 (by omega)
 exact ⟨(gi (gr g.ar.nxt v) 0).toNat,(ne _ _).2 ⟨hv',by omega,0,by omega,by omega⟩,show _ < _ by omega⟩
noncomputable def bo (g : Pa) : List Int:=tab g.prio.length fun v=>if tf (PG.Won (pgP g) 0 (d6 g) v) then 0 else 1
theorem gS {g : Pa} : PG.Fin (pgP g) g.prio.length:=fun v u h=>h.2.1
end Go.Proofs.Ythjamlponejffaa
