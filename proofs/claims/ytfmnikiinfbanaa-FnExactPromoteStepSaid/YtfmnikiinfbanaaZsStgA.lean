/-
  Stages as arguments of the laws: copied, opened.
-/
import Derived.Test.YtfmnikiinfbanaaZsStage
namespace Go.Proofs.Ytfmnikiinfbanaa
set_option linter.unusedVariables false
set_option linter.unusedSimpArgs false
open Go.RowKit Go.ChangeShapes Go.WideShapes Go.ChangeAt Go.Deep Go.Joins
section
variable {H : Type} {enc : TypeId × Value → H} {W : World} {base : Nat}
set_option maxRecDepth 100000 in
theorem openS {r : Reach} {b0 : Nat} {v : Value} {d : DataW H} {p : List MemPlace} (hv : Value.okWide Try.prog W r b0 40 v) (h : DataW.Trod enc Try.prog W base (fun _ => true) true 40 v d p) : ∃ x, IsS W v x ∧ WfS x := by
  obtain ⟨c0, c1, c2, y0, y1, y2, m, rfl, _, _, h0, h1, h2⟩ := open_agg3 Try.underlying40 (by kernel_rfl) (by kernel_rfl) hv h
  obtain ⟨b, e2, _, wb⟩ := DataW.trod_int Try.underlying2 h2
  obtain ⟨xs, hx, wx⟩ := openI h0
  obtain ⟨ys, hy, wy⟩ := openI h1
  simp only [List.cons.injEq, and_true] at e2
  subst e2
  exact ⟨⟨xs, ys, b⟩, ⟨_, _, rfl, hx, hy⟩, wx, wy, wb⟩
end
set_option maxHeartbeats 1000000 in
theorem toS_any (v : Value) (g : St) (w : World) (hS : IsS w v g) (hn : szS g ≤ 1048576) : Calls Try.prog 25 #[v] w (RetS w g) := by
  obtain ⟨s1, n1, c1, s2, n2, c2, b, rfl⟩ := hS.form
  obtain ⟨h1, h2, hb⟩ := hS.parts
  have HB := Lib.hid hb
  have hl1 : n1 ≤ 1048576 := by have := h1.1;unfold szS at hn;omega
  have hl2 : n2 ≤ 1048576 := by have := h2.1;unfold szS at hn;omega
  clear hb hn
  go_enter Try.func25, Try.ntmps25
  go_wp2_with fail
  refine (toI_any _ _ _ _ _ (h1.below (by repeat' (first | (with_reducible exact Below.refl _ _)|(with_reducible assumption)|(with_reducible apply below_set)|(with_reducible apply Below.alloc)|(with_reducible apply Below.drew)|(with_reducible apply below_drawn)|(with_reducible refine Below.trans ?_ (Below.mono (by assumption) ?_)) | omega | (simp only [World.size_alloc, World.size_setCell, World.size_drew];omega)))) hl1).mono ?_
  rintro e w3 ⟨hlk, s4, c4, rfl, ho3, hb3⟩
  clear hlk
  have hcf3 := bcell hb3
  obtain ⟨hcell3, hfr3⟩ := hcf3
  have hz3 := hb3.size
  simp only [World.size_alloc, World.size_setCell, World.size_drew] at hz3
  have hz3a : w.heap.size < w3.heap.size := (by omega)
  have hz3b : w.heap.size + 1 < w3.heap.size := (by omega)
  have hz3c : w.heap.size + 1 + 1 < w3.heap.size := (by omega)
  go_wp2_with fail
  refine (toI_any _ _ _ _ _ (h2.below (by repeat' (first | (with_reducible exact Below.refl _ _)|(with_reducible assumption)|(with_reducible apply below_set)|(with_reducible apply Below.alloc)|(with_reducible apply Below.drew)|(with_reducible apply below_drawn)|(with_reducible refine Below.trans ?_ (Below.mono (by assumption) ?_)) | omega | (simp only [World.size_alloc, World.size_setCell, World.size_drew];omega)))) hl2).mono ?_
  rintro e w5 ⟨hlk, s6, c6, rfl, ho5, hb5⟩
  clear hlk
  have hcf5 := bcell hb5
  obtain ⟨hcell5, hfr5⟩ := hcf5
  have hz5 := hb5.size
  simp only [World.size_alloc, World.size_setCell, World.size_drew] at hz5
  have hz5a : w.heap.size < w5.heap.size := (by omega)
  have hz5b : w.heap.size + 1 < w5.heap.size := (by omega)
  have hz5c : w.heap.size + 1 + 1 < w5.heap.size := (by omega)
  go_wp2_with fail
  refine bodyPost_ret (v := .agg #[.slice s4 n1 c4, .slice s6 n2 c6, .int .i64 b]) (by simp [results, Try.results25, go_sem, hcell3, hfr3, hcell5, hfr5, hz3a, hz3b, hz3c, hz5a, hz5b, hz5c]) rfl ?_
  refine ⟨_, _, _, _, _, _, _, rfl, ⟨.slice s4 n1 c4, .slice s6 n2 c6, ?_, ?_, ?_, ?_⟩, ?_⟩
  · rw [HB.out]
  · exact ho3.final (by repeat' (first | (with_reducible exact Kept.refl _ _ _)|(with_reducible apply Kept.set)|(with_reducible apply Kept.alloc)|(with_reducible apply Kept.drew)|(with_reducible apply Kept.drewN)|(with_reducible refine Kept.below ?_ (by assumption)) | omega | (simp only [World.size_alloc, World.size_setCell, World.size_drew];omega))) (by first | omega | (simp only [World.size_alloc, World.size_setCell, World.size_drew];omega))
  · exact ho5.final (by repeat' (first | (with_reducible exact Kept.refl _ _ _)|(with_reducible apply Kept.set)|(with_reducible apply Kept.alloc)|(with_reducible apply Kept.drew)|(with_reducible apply Kept.drewN)|(with_reducible refine Kept.below ?_ (by assumption)) | omega | (simp only [World.size_alloc, World.size_setCell, World.size_drew];omega))) (by first | omega | (simp only [World.size_alloc, World.size_setCell, World.size_drew];omega))
  · intro g hg hg'
    have h3 := (ho3.blks g hg).2
    have h5 := (ho5.blks g hg').1
    simp only [World.size_alloc, World.size_setCell, World.size_drew] at h5
    omega
  · exact (by repeat' (first | (with_reducible exact Below.refl _ _)|(with_reducible assumption)|(with_reducible apply below_set)|(with_reducible apply Below.alloc)|(with_reducible apply Below.drew)|(with_reducible apply below_drawn)|(with_reducible refine Below.trans ?_ (Below.mono (by assumption) ?_)) | omega | (simp only [World.size_alloc, World.size_setCell, World.size_drew];omega)))
structure After (N : Nat) (w W : World) (B : Nat) (cs : List Value) (T : TypeId) : Prop where
  blk : Blk W B cs T
  bel : Below N w W
  kept : ∀ lo hi, B < lo ∨ hi ≤ B → Kept lo hi w W
  size : w.heap.size ≤ W.heap.size
  le : N ≤ B
theorem after_set {N B : Nat} {w : World} {z0 z1 z2 : Value} {T : TypeId} (h : Blk w B [z0, z1, z2] T) (hN : N ≤ B) (v0 v1 v2 : Value) : After N w (((w.setCell ⟨B, 0, none⟩ v0).setCell ⟨B, 1, none⟩ v1).setCell ⟨B, 2, none⟩ v2) B [v0, v1, v2] T :=
  ⟨((h.set 0 _).set 1 _).set 2 _, below_set (below_set (below_set (Below.refl _ _) hN _) hN _) hN _, fun lo hi hh => (((Kept.refl _ _ _).set hh _).set hh _).set hh _, by simp only [World.size_setCell];exact Nat.le_refl _, hN⟩
theorem after_new {N : Nat} {w : World} {cs : List Value} {T : TypeId} (hN : N ≤ w.heap.size) : After N w (w.alloc (.cells cs.toArray T)) w.heap.size cs T :=
  ⟨blk_new _ _ _, (below_alloc _ _).mono hN, fun lo hi _ => (Kept.refl _ _ _).alloc _, (below_alloc _ _).size, hN⟩
structure KeepP (P : Prop) : Prop where
  out : P
theorem cutP {P G : Prop} (h : KeepP P → G) (p : P) : G := h ⟨p⟩
theorem below_s3 {N B : Nat} {w : World} {v0 v1 v2 : Value} (hN : N ≤ B) : Below N w (((w.setCell ⟨B, 0, none⟩ v0).setCell ⟨B, 1, none⟩ v1).setCell ⟨B, 2, none⟩ v2) := below_set (below_set (below_set (Below.refl _ _) hN _) hN _) hN _
theorem below_z {w w1 : World} {o : Obj} (h : Below (w.alloc o).heap.size (w.alloc o) w1) : Below w.heap.size w w1 := (below_alloc w o).trans (h.mono (below_alloc w o).size)
theorem below_d {w w1 : World} (h : Below w.drew.heap.size w.drew w1) : Below w.heap.size w w1 := (below_drew w).trans h
end Go.Proofs.Ytfmnikiinfbanaa
