/-
  The reference's game with both ways of its edges: l7Of, l7Edge, l7Degree.
-/
import Derived.Test.YtfkiloibifigfaaZLsCb
namespace Go.Proofs.Ytfkiloibifigfaa
set_option linter.unusedVariables false
set_option linter.unusedSimpArgs false
open Go.RowKit
attribute [local go_sem ↓] Go.wp_at_zero Go.wp_at_succ
def tabr (n : Nat) (f : Nat → List Int) : List (List Int) := (List.range n).map f
@[simp] theorem tabr_len (n : Nat) (f : Nat → List Int) : (tabr n f).length = n := by simp [tabr]
theorem gr_tabr {n k : Nat} (f : Nat → List Int) (h : k < n) : gr (tabr n f) k = f k := by simp [gr, tabr, List.getD, h]
theorem eq_tabr {xs : List (List Int)} {n : Nat} {f : Nat → List Int} (hl : xs.length = n) (h : ∀ k, k < n → gr xs k = f k) : xs = tabr n f := by
  apply List.ext_getElem (by simp [hl])
  intro k h1 h2
  have := h k (by omega)
  rw [← gr_tabr f (by omega : k < n)] at this
  rw [gr_get (by omega), gr_get (by simp; omega)] at this
  exact this
theorem tabr_set {n k : Nat} {f : Nat → List Int} {x : List Int} (hk : k < n) : (tabr n f).set k x = tabr n fun i => if i = k then x else f i :=
  eq_tabr (by simp) fun j hj => by rw [gr_set (by simpa using hk), gr_tabr f hj]
theorem tabr_congr {n : Nat} {f g : Nat → List Int} (h : ∀ k, k < n → f k = g k) : tabr n f = tabr n g := eq_tabr (by simp) fun k hk => by rw [gr_tabr _ hk, h k hk]
structure Gm where
  own : List Int
  prio : List Int
  nxt : List (List Int)
  prev : List (List Int)
  pick : List Int
def IsG (w : World) (v : Value) (g : Gm) : Prop := ∃ vo vp vn vq vk, v = .agg #[vo, vp, vn, vq, vk] ∧ IsI w vo g.own ∧ IsI w vp g.prio ∧ IsII w vn g.nxt ∧ IsII w vq g.prev ∧ IsI w vk g.pick
theorem IsG.below {w w' : World} {v : Value} {g : Gm} (h : IsG w v g) (hb : Below w.heap.size w w') : IsG w' v g :=
  let ⟨vo, vp, vn, vq, vk, e, h1, h2, h3, h4, h5⟩ := h; ⟨vo, vp, vn, vq, vk, e, h1.below hb, h2.below hb, h3.below hb, h4.below hb, h5.below hb⟩
end Go.Proofs.Ytfkiloibifigfaa
namespace Go.Proofs.Ytfkiloibifigfaa
set_option linter.unusedVariables false
set_option linter.unusedSimpArgs false
open Go.RowKit
theorem OwnR.alloc {lo hi : Nat} {w : World} {v : Value} {xss : List (List Int)} {vs : List Value} (h : OwnR lo hi w v xss vs) (o : Obj) : OwnR lo hi (w.alloc o) v xss vs := h.below (below_alloc w o)
theorem OwnR.drew {lo hi : Nat} {w : World} {v : Value} {xss : List (List Int)} {vs : List Value} (h : OwnR lo hi w v xss vs) : OwnR lo hi w.drew v xss vs := h.below (below_drew w)
theorem OwnR.off {lo hi : Nat} {w : World} {v : Value} {xss : List (List Int)} {vs : List Value} (h : OwnR lo hi w v xss vs) {g : Nat} (h1 : blk v ≠ some g) (h2 : ¬ g ∈ vs.filterMap blk) (k : Nat) (u : Value) : OwnR lo hi (w.setCell ⟨g, k, none⟩ u) v xss vs := by
  refine ⟨h.1, OwnV.other h.2.1 h1 k u, fun j hj => OwnV.other (h.2.2.1 j hj) (fun e => h2 ?_) k u, h.2.2.2⟩
  have hj' : j < vs.length := by rw [h.1]; exact hj
  rw [List.getD_eq_getElem?_getD, List.getElem?_eq_getElem hj', Option.getD_some] at e
  exact List.mem_filterMap.2 ⟨_, List.getElem_mem hj', e⟩
structure Mk (L : Nat) (cs : Nat → Nat → List Value) (n p4 gq gk : Nat) (xss : List (List Int)) (pk : List Int) (vs : List Value) (w : World) : Prop where
  blk : Blk w p4 (cs gq gk) 106
  own : OwnR L w.heap.size w (.slice (some ⟨gq, 0, none⟩) n n) xss vs
  pick : OwnI L w.heap.size w (.slice (some ⟨gk, 0, none⟩) n n) pk
  rows : ∀ g, g ∈ vs.filterMap Go.Proofs.Ytfkiloibifigfaa.blk → L + 3 ≤ g
  b4 : L ≤ p4 ∧ p4 < L + 3
  bq : L ≤ gq ∧ gq < L + 3
  bk : L ≤ gk ∧ gk < L + 3
  ne1 : p4 ≠ gq
  ne2 : p4 ≠ gk
  ne3 : gq ≠ gk
  sz : L + 3 ≤ w.heap.size
namespace Mk
variable {L : Nat} {cs : Nat → Nat → List Value} {n p4 gq gk : Nat} {xss : List (List Int)} {pk : List Int} {vs : List Value} {w : World}
theorem below {w' : World} (h : Mk L cs n p4 gq gk xss pk vs w) (hb : Below w.heap.size w w') : Mk L cs n p4 gq gk xss pk vs w' :=
  ⟨h.blk.below hb, (h.own.below hb).top, OwnI.top (OwnV.below h.pick hb), h.rows, h.b4, h.bq, h.bk, h.ne1, h.ne2, h.ne3, Nat.le_trans h.sz hb.size⟩
theorem cell (h : Mk L cs n p4 gq gk xss pk vs w) {u : Nat} (hu : u < xss.length) : w.cell? ⟨gq, u, none⟩ = some (vs.getD u (.slice none 0 0)) ∧ w.frozen? ⟨gq, u, none⟩ = false ∧ gq < w.heap.size := by
  obtain ⟨g', cap', e, _, _, h2, h3, h4⟩ := h.own.2.1.at (.slice none 0 0) (k := u) (by rw [h.own.1]; exact hu)
  simp only [Value.slice.injEq, Option.some.injEq, Addr.mk.injEq, and_true] at e
  obtain ⟨rfl, _⟩ := e
  exact ⟨h3 u (by rw [h.own.1]; exact hu), h4 u, h2⟩
end Mk
end Go.Proofs.Ytfkiloibifigfaa
namespace Go.Proofs.Ytfkiloibifigfaa
set_option linter.unusedVariables false
set_option linter.unusedSimpArgs false
open Go.RowKit
attribute [local go_sem ↓] Go.wp_at_zero Go.wp_at_succ
end Go.Proofs.Ytfkiloibifigfaa
