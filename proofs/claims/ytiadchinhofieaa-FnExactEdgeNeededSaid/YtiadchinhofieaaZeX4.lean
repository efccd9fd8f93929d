/-
  A trimmed game: every vertex has one successor.
-/
import Derived.Test.YtiadchinhofieaaZeW2
namespace Go.Proofs.Ytiadchinhofieaa
set_option linter.unusedVariables false
set_option linter.unusedSimpArgs false
open Go.RowKit
noncomputable def fB (g : Pa) (v : Nat) (u : Int) : Pa:=⟨⟨g.ar.own,g.ar.nxt.set v (d7 (fun x=>¬ x = u) (gr g.ar.nxt v) (gr g.ar.nxt v).length)⟩,g.prio⟩
theorem mH {xss : List (List Int)} {k j : Nat} {x : List Int} (hk : k < xss.length) : gr (xss.set k x) j = if j = k then x else gr xss j:=by
 simp only [gr,List.getD_eq_getElem?_getD,List.getElem?_set]
 by_cases e : k = j
 · subst e;rw [if_pos rfl,if_pos hk,if_pos rfl];rfl
 · rw [if_neg e,if_neg (fun e'=>e e'.symm)]
theorem py {g : Pa} (hg : PaOk g) {v : Nat} {u : Int} (hv : v < g.prio.length) (h2 : 2 ≤ (gr g.ar.nxt v).length) : PaOk (fB g v u):=by
 have hl:=hg.len
 have hln:=hg.ar.len
 have hvn : v < g.ar.nxt.length:=by omega
 refine ⟨⟨hg.ar.pos,hg.ar.le,by show (g.ar.nxt.set v _).length = _;rw [List.length_set];exact hln,fun w hw=>?_⟩,hl,hg.prio⟩
 have hw' : w < g.ar.own.length:=hw
 obtain ⟨a1,a2,a3,a4,a5⟩:=hg.ar.vert w hw'
 refine ⟨a1,a2,?_⟩
 show 1 ≤ (gr (g.ar.nxt.set v _) w).length ∧ (gr (g.ar.nxt.set v _) w).length ≤ 16 ∧ cL (gr (g.ar.nxt.set v _) w) g.ar.own.length
 rw [mH hvn]
 by_cases e : w = v
 · rw [if_pos e]
   subst e
   have hfl:=kA (fun x=>¬ x = u) (gr g.ar.nxt w) (gr g.ar.nxt w).length
   refine ⟨?_,by omega,nC (gT (iv a5) _ (Nat.le_refl _)) fun x hx=>?_⟩
   · have hlt:=l8 (iv a5) (i:=0) (j:=1) (by omega) (by omega)
     by_cases e0 : gi (gr g.ar.nxt w) 0 = u
     · exact List.length_pos_of_mem (gU.2 ⟨cG (by omega : 1 < _),by omega⟩)
     · exact List.length_pos_of_mem (gU.2 ⟨cG (by omega : 0 < _),e0⟩)
   · obtain ⟨k,k1,k2⟩:=cZ (gU.1 hx).1
     have:=a5 k k1
     omega
 · rw [if_neg e];exact ⟨a3,a4,a5⟩
end Go.Proofs.Ytiadchinhofieaa
namespace Go.Proofs.Ytiadchinhofieaa
set_option linter.unusedVariables false
set_option linter.unusedSimpArgs false
open Go.RowKit
structure Trims (v : Nat) (g t : Pa) : Prop where
 ok : PaOk t
 won : du t = du g
 own : t.ar.own = g.ar.own
 prio : t.prio = g.prio
 len : t.ar.nxt.length = g.ar.nxt.length
 row : ∀ x,x ∈ gr t.ar.nxt v → x ∈ gr g.ar.nxt v
 rest : ∀ w,w ≠ v → gr t.ar.nxt w = gr g.ar.nxt w
theorem Trims.refl {v : Nat} {g : Pa} (h : PaOk g) : Trims v g g:=⟨h,rfl,rfl,rfl,rfl,fun _ h=>h,fun _ _=>rfl⟩
theorem Trims.trans {v : Nat} {a b c : Pa} (h : Trims v a b) (k : Trims v b c) : Trims v a c :=
 ⟨k.ok,k.won.trans h.won,k.own.trans h.own,k.prio.trans h.prio,k.len.trans h.len,fun x hx=>h.row x (k.row x hx),fun w hw=>(k.rest w hw).trans (h.rest w hw)⟩
end Go.Proofs.Ytiadchinhofieaa
namespace Go.Proofs.Ytiadchinhofieaa
set_option linter.unusedVariables false
set_option linter.unusedSimpArgs false
open Go.RowKit
def fC (g : Pa) (v : Int) (u : Int) : Prop:=PaOk g ∧ 0 ≤ v ∧ v < g.prio.length ∧ u ∈ gr g.ar.nxt v.toNat ∧ ((gr g.ar.nxt v.toNat).length = 1 ∨ du (fB g v.toNat u) ≠ du g)
end Go.Proofs.Ytiadchinhofieaa
