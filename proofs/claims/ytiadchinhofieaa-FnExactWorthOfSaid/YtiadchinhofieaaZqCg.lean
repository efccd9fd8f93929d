/-
  The reference's game with both ways of its edges: l7Of, l7Edge, l7Degree.
-/
import Derived.Test.YtiadchinhofieaaZqCb
namespace Go.Proofs.Ytiadchinhofieaa
set_option linter.unusedVariables false
set_option linter.unusedSimpArgs false
open Go.RowKit
attribute [local go_sem ↓] Go.wp_at_zero Go.wp_at_succ
def yv (n : Nat) (f : Nat → List Int) : List (List Int):=(List.range n).map f
@[simp] theorem yw (n : Nat) (f : Nat → List Int) : (yv n f).length = n:=by simp [yv]
structure Gm where
 own : List Int
 prio : List Int
 nxt : List (List Int)
 prev : List (List Int)
 pick : List Int
def IsG (w : World) (v : Value) (g : Gm) : Prop:=∃ vo vp vn vq vk,v = .agg #[vo,vp,vn,vq,vk] ∧ IsI w vo g.own ∧ IsI w vp g.prio ∧ fM w vn g.nxt ∧ fM w vq g.prev ∧ IsI w vk g.pick
theorem IsG.below {w w' : World} {v : Value} {g : Gm} (h : IsG w v g) (hb : Below w.heap.size w w') : IsG w' v g :=
 let ⟨vo,vp,vn,vq,vk,e,h1,h2,h3,h4,h5⟩:=h;⟨vo,vp,vn,vq,vk,e,h1.below hb,h2.below hb,h3.below hb,h4.below hb,h5.below hb⟩
end Go.Proofs.Ytiadchinhofieaa
namespace Go.Proofs.Ytiadchinhofieaa
set_option linter.unusedVariables false
set_option linter.unusedSimpArgs false
open Go.RowKit
theorem dn.alloc {lo hi : Nat} {w : World} {v : Value} {xss : List (List Int)} {vs : List Value} (h : dn lo hi w v xss vs) (o : Obj) : dn lo hi (w.alloc o) v xss vs:=h.below (cA w o)
theorem dn.drew {lo hi : Nat} {w : World} {v : Value} {xss : List (List Int)} {vs : List Value} (h : dn lo hi w v xss vs) : dn lo hi w.drew v xss vs:=h.below (c8 w)
theorem dn.off {lo hi : Nat} {w : World} {v : Value} {xss : List (List Int)} {vs : List Value} (h : dn lo hi w v xss vs) {g : Nat} (h1 : blk v ≠ some g) (h2 : ¬ g ∈ vs.filterMap blk) (k : Nat) (u : Value) : dn lo hi (w.setCell ⟨g,k,none⟩ u) v xss vs:=by
 refine ⟨h.1,cK.other h.2.1 h1 k u,fun j hj=>cK.other (h.2.2.1 j hj) (fun e=>h2 ?_) k u,h.2.2.2⟩
 have hj' : j < vs.length:=by rw [h.1];exact hj
 rw [List.getD_eq_getElem?_getD,List.getElem?_eq_getElem hj',Option.getD_some] at e
 exact List.mem_filterMap.2 ⟨_,List.getElem_mem hj',e⟩
structure Mk (L : Nat) (cs : Nat → Nat → List Value) (n p4 gq gk : Nat) (xss : List (List Int)) (pk : List Int) (vs : List Value) (w : World) : Prop where
 blk : Blk w p4 (cs gq gk) 101
 own : dn L w.heap.size w (.slice (some ⟨gq,0,none⟩) n n) xss vs
 pick : cO L w.heap.size w (.slice (some ⟨gk,0,none⟩) n n) pk
 rows : ∀ g,g ∈ vs.filterMap Go.Proofs.Ytiadchinhofieaa.blk → L + 3 ≤ g
 b4 : L ≤ p4 ∧ p4 < L + 3
 bq : L ≤ gq ∧ gq < L + 3
 bk : L ≤ gk ∧ gk < L + 3
 ne1 : p4 ≠ gq
 ne2 : p4 ≠ gk
 ne3 : gq ≠ gk
 sz : L + 3 ≤ w.heap.size
namespace Mk
variable {L : Nat} {cs : Nat → Nat → List Value} {n p4 gq gk : Nat} {xss : List (List Int)} {pk : List Int} {vs : List Value} {w : World}
theorem below {w' : World} (h : Mk L cs n p4 gq gk xss pk vs w) (hb : Below w.heap.size w w') : Mk L cs n p4 gq gk xss pk vs w' :=
 ⟨h.blk.below hb,(h.own.below hb).top,cO.top (cK.below h.pick hb),h.rows,h.b4,h.bq,h.bk,h.ne1,h.ne2,h.ne3,Nat.le_trans h.sz hb.size⟩
theorem cast {xss' : List (List Int)} {pk' : List Int} (h : Mk L cs n p4 gq gk xss pk vs w) (e1 : xss = xss') (e2 : pk = pk') : Mk L cs n p4 gq gk xss' pk' vs w:=by subst e1 e2;exact h
theorem cell (h : Mk L cs n p4 gq gk xss pk vs w) {u : Nat} (hu : u < xss.length) : w.cell? ⟨gq,u,none⟩ = some (vs.getD u (.slice none 0 0)) ∧ w.frozen? ⟨gq,u,none⟩ = false ∧ gq < w.heap.size:=by
 obtain ⟨g',cap',e,_,_,h2,h3,h4⟩:=h.own.2.1.at (.slice none 0 0) (k:=u) (by rw [h.own.1];exact hu)
 simp only [Value.slice.injEq,Option.some.injEq,Addr.mk.injEq,and_true] at e
 obtain ⟨rfl,_⟩:=e
 exact ⟨h3 u (by rw [h.own.1];exact hu),h4 u,h2⟩
end Mk
end Go.Proofs.Ytiadchinhofieaa
namespace Go.Proofs.Ytiadchinhofieaa
set_option linter.unusedVariables false
set_option linter.unusedSimpArgs false
open Go.RowKit
attribute [local go_sem ↓] Go.wp_at_zero Go.wp_at_succ
end Go.Proofs.Ytiadchinhofieaa
