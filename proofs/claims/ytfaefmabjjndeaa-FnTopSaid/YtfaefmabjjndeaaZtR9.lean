/-
  Plays: the program's side.
-/
import Derived.Test.YtfaefmabjjndeaaZtR7
import Derived.Test.YtfaefmabjjndeaaZtR6
namespace Go.Proofs.Ytfaefmabjjndeaa
set_option linter.unusedVariables false
set_option linter.unusedSimpArgs false
open Go.RowKit
attribute [local irreducible] FunSpec CallR Aw Le
def PlanP (a : Ar) (who : Int) (ps : List Int) : Prop:=ps.length = a.own.length ∧ ∀ v,v < ps.length → gi ps v = -1 ∨ gi a.own v = who ∧ gi ps v ∈ gr a.nxt v
theorem way_snoc (f : Nat → Nat) (k : Nat) : wayL f (k + 1) = wayL f k ++ [(f k : Int)]:=tab_succ _ _
def LasIs (a : Ar) (S L : List Int) : Prop:=((S.length ≤ 256 ∧ 1 ≤ L.length ∧ L.length ≤ 256) ∧ ∀ j,j < (S ++ L).length → Vert a.own.length (gi (S ++ L) j)) ∧ ∀ i,1 ≤ i → i < (S ++ L ++ [gi L 0]).length → gi (S ++ L ++ [gi L 0]) i ∈ gr a.nxt (gi (S ++ L ++ [gi L 0]) (i - 1)).toNat
theorem play_las {g : Pa} (hg : PaOk g) {even odd : List Int} (h0 : FullP g.ar 0 even) (h1 : FullP g.ar 1 odd) {v : Nat} (hv : v < g.prio.length) : LasIs g.ar (stemA (itP g.ar even odd v) g.prio.length) (loopA (itP g.ar even odd v) g.prio.length):=by
  have hl:=hg.len
  have hle:=hg.ar.le
  have hlt:=itP_lt hg h0 h1 hv
  have hst:=fun k=>(itP_step hg h0 h1 (hlt k)).1
  obtain ⟨e1,_,e2,e3⟩:=endA_ok hlt
  have h2 : stemA (itP g.ar even odd v) g.prio.length ++ loopA (itP g.ar even odd v) g.prio.length = wayL (itP g.ar even odd v) (endA (itP g.ar even odd v) g.prio.length):=List.take_append_drop _ _
  have h3 : gi (loopA (itP g.ar even odd v) g.prio.length) 0 = (itP g.ar even odd v (endA (itP g.ar even odd v) g.prio.length) : Int):=by
    rw [loopA_at hlt (by omega),Nat.add_zero,e3]
  unfold LasIs
  rw [stemA_len hlt,loopA_len hlt,h2,h3,← way_snoc,wayL_len,wayL_len]
  refine ⟨⟨by omega,fun j hj=>?_⟩,fun i hi hi2=>?_⟩
  · rw [wayL,gi_tab _ hj]
    have:=hlt j
    exact ⟨by omega,by omega⟩
  · have h4:=hst (i - 1)
    rw [wayL,gi_tab _ hi2,gi_tab _ (by omega),Int.toNat_natCast]
    have e : i - 1 + 1 = i:=by omega
    rw [← e]
    exact h4
theorem las_bnd {g : Pa} (hg : PaOk g) {S L : List Int} (h : LasIs g.ar S L) : Bnd L g.prio.length:=fun k hk=>by
  have:=h.1.2 (S.length + k) (by simp;omega)
  have e : gi (S ++ L) (S.length + k) = gi L k:=by simp only [gi,List.getD_eq_getElem?_getD,List.getElem?_append_right (Nat.le_add_right _ _),Nat.add_sub_cancel_left]
  rw [e] at this
  have hl:=hg.len
  exact ⟨this.1,by have:=this.2;omega⟩
theorem las_top {g : Pa} (hg : PaOk g) {S L : List Int} (h : LasIs g.ar S L) : 0 ≤ topTo g.prio L L.length:=by
  have h1:=topTo_ge (pr:=g.prio) (xs:=L) (j:=0) L.length (by have:=h.1.1;omega)
  have h2:=las_bnd hg h 0 (by have:=h.1.1;omega)
  have:=(hg.prio (gi L 0).toNat (by omega)).1
  omega
end Go.Proofs.Ytfaefmabjjndeaa
