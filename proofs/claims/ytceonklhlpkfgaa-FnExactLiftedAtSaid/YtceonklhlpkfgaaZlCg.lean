/-
  The reference's game with both ways of its edges: l7Of, l7Edge, l7Degree.
-/
import Derived.Test.YtceonklhlpkfgaaZlCb
namespace Go.Proofs.Ytceonklhlpkfgaa
set_option linter.unusedVariables false
set_option linter.unusedSimpArgs false
open Go.RowKit
attribute [local go_sem ↓] Go.wp_at_zero Go.wp_at_succ
def mT (n : Nat) (f : Nat → List Int) : List (List Int):=(List.range n).map f
@[simp] theorem oh (n : Nat) (f : Nat → List Int) : (mT n f).length = n:=by simp [mT]
theorem lZ {n k : Nat} (f : Nat → List Int) (h : k < n) : gr (mT n f) k = f k:=by simp [gr,mT,List.getD,h]
structure Gm where
 own : List Int
 prio : List Int
 nxt : List (List Int)
 prev : List (List Int)
 pick : List Int
def IsG (w : World) (v : Value) (g : Gm) : Prop:=∃ vo vp vn vq vk,v = .agg #[vo,vp,vn,vq,vk] ∧ IsI w vo g.own ∧ IsI w vp g.prio ∧ cg w vn g.nxt ∧ cg w vq g.prev ∧ IsI w vk g.pick
theorem IsG.below {w w' : World} {v : Value} {g : Gm} (h : IsG w v g) (hb : Below w.heap.size w w') : IsG w' v g :=
 let ⟨vo,vp,vn,vq,vk,e,h1,h2,h3,h4,h5⟩:=h;⟨vo,vp,vn,vq,vk,e,h1.below hb,h2.below hb,h3.below hb,h4.below hb,h5.below hb⟩
end Go.Proofs.Ytceonklhlpkfgaa
namespace Go.Proofs.Ytceonklhlpkfgaa
set_option linter.unusedVariables false
set_option linter.unusedSimpArgs false
open Go.RowKit
theorem aO.alloc {lo hi : Nat} {w : World} {v : Value} {xss : List (List Int)} {vs : List Value} (h : aO lo hi w v xss vs) (o : Obj) : aO lo hi (w.alloc o) v xss vs:=h.below (ao w o)
theorem aO.drew {lo hi : Nat} {w : World} {v : Value} {xss : List (List Int)} {vs : List Value} (h : aO lo hi w v xss vs) : aO lo hi w.drew v xss vs:=h.below (bg w)
theorem aO.off {lo hi : Nat} {w : World} {v : Value} {xss : List (List Int)} {vs : List Value} (h : aO lo hi w v xss vs) {g : Nat} (h1 : blk v ≠ some g) (h2 : ¬ g ∈ vs.filterMap blk) (k : Nat) (u : Value) : aO lo hi (w.setCell ⟨g,k,none⟩ u) v xss vs:=by
 refine ⟨h.1,aD.other h.2.1 h1 k u,fun j hj=>aD.other (h.2.2.1 j hj) (fun e=>h2 ?_) k u,h.2.2.2⟩
 have hj' : j < vs.length:=by rw [h.1];exact hj
 rw [List.getD_eq_getElem?_getD,List.getElem?_eq_getElem hj',Option.getD_some] at e
 exact List.mem_filterMap.2 ⟨_,List.getElem_mem hj',e⟩
end Go.Proofs.Ytceonklhlpkfgaa
namespace Go.Proofs.Ytceonklhlpkfgaa
set_option linter.unusedVariables false
set_option linter.unusedSimpArgs false
open Go.RowKit
attribute [local go_sem ↓] Go.wp_at_zero Go.wp_at_succ
end Go.Proofs.Ytceonklhlpkfgaa
