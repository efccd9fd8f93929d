/-
  The reference's game with both ways of its edges: l7Of, l7Edge, l7Degree.
-/
import Derived.Test.YtlodllmpndflcaaZoCb
namespace Go.Proofs.Ytlodllmpndflcaa
set_option linter.unusedVariables false
set_option linter.unusedSimpArgs false
open Go.RowKit
attribute [local go_sem ↓] Go.wp_at_zero Go.wp_at_succ
def vt (n : Nat) (f : Nat → List Int) : List (List Int):=(List.range n).map f
@[simp] theorem vu (n : Nat) (f : Nat → List Int) : (vt n f).length = n:=by simp [vt]
structure Gm where
 own : List Int
 prio : List Int
 nxt : List (List Int)
 prev : List (List Int)
 pick : List Int
def IsG (w : World) (v : Value) (g : Gm) : Prop:=∃ vo vp vn vq vk,v = .agg #[vo,vp,vn,vq,vk] ∧ IsI w vo g.own ∧ IsI w vp g.prio ∧ d5 w vn g.nxt ∧ d5 w vq g.prev ∧ IsI w vk g.pick
theorem IsG.below {w w' : World} {v : Value} {g : Gm} (h : IsG w v g) (hb : Below w.heap.size w w') : IsG w' v g :=
 let ⟨vo,vp,vn,vq,vk,e,h1,h2,h3,h4,h5⟩:=h;⟨vo,vp,vn,vq,vk,e,h1.below hb,h2.below hb,h3.below hb,h4.below hb,h5.below hb⟩
end Go.Proofs.Ytlodllmpndflcaa
namespace Go.Proofs.Ytlodllmpndflcaa
set_option linter.unusedVariables false
set_option linter.unusedSimpArgs false
open Go.RowKit
theorem cj.alloc {lo hi : Nat} {w : World} {v : Value} {xss : List (List Int)} {vs : List Value} (h : cj lo hi w v xss vs) (o : Obj) : cj lo hi (w.alloc o) v xss vs:=h.below (aL w o)
theorem cj.drew {lo hi : Nat} {w : World} {v : Value} {xss : List (List Int)} {vs : List Value} (h : cj lo hi w v xss vs) : cj lo hi w.drew v xss vs:=h.below (bW w)
theorem cj.off {lo hi : Nat} {w : World} {v : Value} {xss : List (List Int)} {vs : List Value} (h : cj lo hi w v xss vs) {g : Nat} (h1 : blk v ≠ some g) (h2 : ¬ g ∈ vs.filterMap blk) (k : Nat) (u : Value) : cj lo hi (w.setCell ⟨g,k,none⟩ u) v xss vs:=by
 refine ⟨h.1,bH.other h.2.1 h1 k u,fun j hj=>bH.other (h.2.2.1 j hj) (fun e=>h2 ?_) k u,h.2.2.2⟩
 have hj' : j < vs.length:=by rw [h.1];exact hj
 rw [List.getD_eq_getElem?_getD,List.getElem?_eq_getElem hj',Option.getD_some] at e
 exact List.mem_filterMap.2 ⟨_,List.getElem_mem hj',e⟩
end Go.Proofs.Ytlodllmpndflcaa
namespace Go.Proofs.Ytlodllmpndflcaa
set_option linter.unusedVariables false
set_option linter.unusedSimpArgs false
open Go.RowKit
attribute [local go_sem ↓] Go.wp_at_zero Go.wp_at_succ
end Go.Proofs.Ytlodllmpndflcaa
