/-
  Plays: the program's side.
-/
import Derived.Test.YtfaefmabjjndeaaZmR3
import Derived.Test.YtfaefmabjjndeaaZmE15
import Derived.Test.YtfaefmabjjndeaaZmR7
namespace Go.Proofs.Ytfaefmabjjndeaa
set_option linter.unusedVariables false
set_option linter.unusedSimpArgs false
open Go.RowKit
attribute [local irreducible] aG cP Aw Le
theorem ko {a b : Int} (h : (a == b) = false) : a ≠ b:=by simpa using h
end Go.Proofs.Ytfaefmabjjndeaa
namespace Go.Proofs.Ytfaefmabjjndeaa
set_option linter.unusedVariables false
set_option linter.unusedSimpArgs false
open Go.RowKit
attribute [local irreducible] aG cP Aw Le
end Go.Proofs.Ytfaefmabjjndeaa
namespace Go.Proofs.Ytfaefmabjjndeaa
set_option linter.unusedVariables false
set_option linter.unusedSimpArgs false
open Go.RowKit
attribute [local irreducible] aG cP Aw Le
def wc (a : Ar) (who : Int) (ps : List Int) : Prop:=ps.length = a.own.length ∧ ∀ v,v < ps.length → gi ps v = -1 ∨ gi a.own v = who ∧ gi ps v ∈ gr a.nxt v
theorem lh (f : Nat → Nat) (k : Nat) : eP f (k + 1) = eP f k ++ [(f k : Int)]:=fe _ _
def mj (a : Ar) (S L : List Int) : Prop:=((S.length ≤ 256 ∧ 1 ≤ L.length ∧ L.length ≤ 256) ∧ ∀ j,j < (S ++ L).length → tq a.own.length (gi (S ++ L) j)) ∧ ∀ i,1 ≤ i → i < (S ++ L ++ [gi L 0]).length → gi (S ++ L ++ [gi L 0]) i ∈ gr a.nxt (gi (S ++ L ++ [gi L 0]) (i - 1)).toNat
theorem ux {g : Pa} (hg : PaOk g) {even odd : List Int} (h0 : eQ g.ar 0 even) (h1 : eQ g.ar 1 odd) {v : Nat} (hv : v < g.prio.length) : mj g.ar (mf (itP g.ar even odd v) g.prio.length) (eV (itP g.ar even odd v) g.prio.length):=by
 have hl:=hg.len
 have hle:=hg.ar.le
 have hlt:=qa hg h0 h1 hv
 have hst:=fun k=>(jk hg h0 h1 (hlt k)).1
 obtain ⟨e1,_,e2,e3⟩:=kn hlt
 have h2 : mf (itP g.ar even odd v) g.prio.length ++ eV (itP g.ar even odd v) g.prio.length = eP (itP g.ar even odd v) (g8 (itP g.ar even odd v) g.prio.length):=List.take_append_drop _ _
 have h3 : gi (eV (itP g.ar even odd v) g.prio.length) 0 = (itP g.ar even odd v (g8 (itP g.ar even odd v) g.prio.length) : Int):=by
  rw [oO hlt (by omega),Nat.add_zero,e3]
 unfold mj
 rw [sf hlt,mg hlt,h2,h3,← lh,fv,fv]
 refine ⟨⟨by omega,fun j hj=>?_⟩,fun i hi hi2=>?_⟩
 · rw [eP,cK _ hj]
   have:=hlt j
   exact ⟨by omega,by omega⟩
 · have h4:=hst (i - 1)
   rw [eP,cK _ hi2,cK _ (by omega),Int.toNat_natCast]
   have e : i - 1 + 1 = i:=by omega
   rw [← e]
   exact h4
theorem qW {g : Pa} (hg : PaOk g) {S L : List Int} (h : mj g.ar S L) : Bnd L g.prio.length:=fun k hk=>by
 have:=h.1.2 (S.length + k) (by simp;omega)
 have e : gi (S ++ L) (S.length + k) = gi L k:=by simp only [gi,List.getD_eq_getElem?_getD,List.getElem?_append_right (Nat.le_add_right _ _),Nat.add_sub_cancel_left]
 rw [e] at this
 have hl:=hg.len
 exact ⟨this.1,by have:=this.2;omega⟩
theorem vS {g : Pa} (hg : PaOk g) {S L : List Int} (h : mj g.ar S L) : 0 ≤ en g.prio L L.length:=by
 have h1:=lg (pr:=g.prio) (xs:=L) (j:=0) L.length (by have:=h.1.1;omega)
 have h2:=qW hg h 0 (by have:=h.1.1;omega)
 have:=(hg.prio (gi L 0).toNat (by omega)).1
 omega
end Go.Proofs.Ytfaefmabjjndeaa
