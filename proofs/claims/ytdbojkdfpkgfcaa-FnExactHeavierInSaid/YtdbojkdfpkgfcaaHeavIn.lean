/-
  HeavierIn; RepliesIn.
-/
import Derived.Test.YtdbojkdfpkgfcaaHeavy
namespace Go.Proofs.Ytdbojkdfpkgfcaa
set_option linter.unusedVariables false
set_option linter.unusedSimpArgs false
open Go.RowKit

theorem isP_own {w : World} {v : Value} {g : Pa} (h : IsP w v g) : True := trivial

def HeavyIn (g : Pa) (x y : Int) : Prop := Small g ∧ Vert g.prio.length x ∧ Vert g.prio.length y ∧ Heavy g x.toNat y.toNat

set_option maxHeartbeats 1000000 in
theorem heavyIn_i (v : Value) (g : Pa) (x y : Int) (w : World) (hP : IsP w v g) : Calls Try.prog 21 #[v, .int .i64 x, .int .i64 y] w (Bb w (tf (HeavyIn g x y))) := by
  have hP0 := hP
  obtain ⟨_, _, _, rfl, ⟨s1, n1, c1, rfl, h1⟩, ⟨s2, n2, c2, rfl, h2⟩, ⟨s3, n3, c3, rfl, h3⟩⟩ := hP
  have hA : IsA w (.agg #[.slice s1 n1 c1, .slice s2 n2 c2]) g.ar := ⟨_, _, rfl, h1.is, h2.is⟩
  by_cases hg : Small g
  · have k1 := Lib.hid (tf_true hg)
    have hl := Lib.hid hg.1.len
    have G := Lib.hid hg
    clear hg
    by_cases hx : Vert g.ar.own.length x
    · have k2 := Lib.hid (tf_true hx)
      by_cases hy : Vert g.ar.own.length y
      · have k3 := Lib.hid (tf_true hy)
        have X := Lib.hid hx
        have Y := Lib.hid hy
        have a1 : 0 ≤ x := hx.1
        have a2 : x < g.prio.length := by rw [hl.out]; exact hx.2
        have a3 : 0 ≤ y := hy.1
        have a4 : y < g.prio.length := by rw [hl.out]; exact hy.2
        clear hx hy
        have e : tf (HeavyIn g x y) = tf (Heavy g x.toNat y.toNat) := tf_congr ⟨fun h => h.2.2.2, fun h => ⟨G.out, ⟨a1, a2⟩, ⟨a3, a4⟩, h⟩⟩
        rw [e]
        clear e
        have A2 := Lib.hid a2
        have A4 := Lib.hid a4
        clear a2 a4
        go_enter Try.func21, Try.ntmps21
        go_wp2_with (first
          | (go_at_call 67; refine (small_i _ _ _ (hP0.below (by repeat' (first | (with_reducible exact Below.refl _ _) | (with_reducible assumption) | (with_reducible apply below_set) | (with_reducible apply Below.alloc) | (with_reducible apply Below.drew) | (with_reducible apply below_drawn) | (with_reducible refine Below.trans ?_ (Below.mono (by assumption) ?_)) | omega | (simp only [World.size_alloc, World.size_setCell, World.size_drew]; omega))))).mono ?_; rw [k1.out]; rintro e w2 ⟨rfl, hb2⟩; have hcf2 := bcell hb2; obtain ⟨hcell2, hfr2⟩ := hcf2; have hz2 := hb2.size; (try simp only [World.size_alloc, World.size_setCell, World.size_drew] at hz2); have hz2a : w.heap.size < w2.heap.size := (by omega))
          | (go_at_call 69; refine (heavy_i _ _ _ _ _ (hP0.below (by repeat' (first | (with_reducible exact Below.refl _ _) | (with_reducible assumption) | (with_reducible apply below_set) | (with_reducible apply Below.alloc) | (with_reducible apply Below.drew) | (with_reducible apply below_drawn) | (with_reducible refine Below.trans ?_ (Below.mono (by assumption) ?_)) | omega | (simp only [World.size_alloc, World.size_setCell, World.size_drew]; omega)))) a1 A2.out a3 A4.out).mono ?_; rintro e w5 ⟨rfl, hb5⟩; have hcf5 := bcell hb5; obtain ⟨hcell5, hfr5⟩ := hcf5; have hz5 := hb5.size; (try simp only [World.size_alloc, World.size_setCell, World.size_drew] at hz5); have hz5a : w.heap.size < w5.heap.size := (by omega)))
        refine (hasV_i _ _ _ _ (hA.below (by repeat' (first | (with_reducible exact Below.refl _ _) | (with_reducible assumption) | (with_reducible apply below_set) | (with_reducible apply Below.alloc) | (with_reducible apply Below.drew) | (with_reducible apply below_drawn) | (with_reducible refine Below.trans ?_ (Below.mono (by assumption) ?_)) | omega | (simp only [World.size_alloc, World.size_setCell, World.size_drew]; omega))))).mono ?_
        rw [k2.out]
        rintro e w3 ⟨rfl, hb3⟩
        obtain ⟨hcell3, hfr3⟩ := bcell hb3
        have hz3 := hb3.size
        have hz3b : w.heap.size < w3.heap.size := by omega
        go_wp2_with (first
          | (go_at_call 69; refine (heavy_i _ _ _ _ _ (hP0.below (by repeat' (first | (with_reducible exact Below.refl _ _) | (with_reducible assumption) | (with_reducible apply below_set) | (with_reducible apply Below.alloc) | (with_reducible apply Below.drew) | (with_reducible apply below_drawn) | (with_reducible refine Below.trans ?_ (Below.mono (by assumption) ?_)) | omega | (simp only [World.size_alloc, World.size_setCell, World.size_drew]; omega)))) a1 A2.out a3 A4.out).mono ?_; rintro e w5 ⟨rfl, hb5⟩; have hcf5 := bcell hb5; obtain ⟨hcell5, hfr5⟩ := hcf5; have hz5 := hb5.size; (try simp only [World.size_alloc, World.size_setCell, World.size_drew] at hz5); have hz5a : w.heap.size < w5.heap.size := (by omega)))
        refine (hasV_i _ _ _ _ (hA.below (by repeat' (first | (with_reducible exact Below.refl _ _) | (with_reducible assumption) | (with_reducible apply below_set) | (with_reducible apply Below.alloc) | (with_reducible apply Below.drew) | (with_reducible apply below_drawn) | (with_reducible refine Below.trans ?_ (Below.mono (by assumption) ?_)) | omega | (simp only [World.size_alloc, World.size_setCell, World.size_drew]; omega))))).mono ?_
        rw [k3.out]
        rintro e w4 ⟨rfl, hb4⟩
        obtain ⟨hcell4, hfr4⟩ := bcell hb4
        have hz4 := hb4.size
        have hz4b : w.heap.size < w4.heap.size := by omega
        go_wp2_with (first
          | (go_at_call 69; refine (heavy_i _ _ _ _ _ (hP0.below (by repeat' (first | (with_reducible exact Below.refl _ _) | (with_reducible assumption) | (with_reducible apply below_set) | (with_reducible apply Below.alloc) | (with_reducible apply Below.drew) | (with_reducible apply below_drawn) | (with_reducible refine Below.trans ?_ (Below.mono (by assumption) ?_)) | omega | (simp only [World.size_alloc, World.size_setCell, World.size_drew]; omega)))) a1 A2.out a3 A4.out).mono ?_; rintro e w5 ⟨rfl, hb5⟩; have hcf5 := bcell hb5; obtain ⟨hcell5, hfr5⟩ := hcf5; have hz5 := hb5.size; (try simp only [World.size_alloc, World.size_setCell, World.size_drew] at hz5); have hz5a : w.heap.size < w5.heap.size := (by omega)))
        go_ret
        exact ⟨rfl, (by repeat' (first | (with_reducible exact Below.refl _ _) | (with_reducible assumption) | (with_reducible apply below_set) | (with_reducible apply Below.alloc) | (with_reducible apply Below.drew) | (with_reducible apply below_drawn) | (with_reducible refine Below.trans ?_ (Below.mono (by assumption) ?_)) | omega | (simp only [World.size_alloc, World.size_setCell, World.size_drew]; omega)))⟩
      · have k3 := Lib.hid (tf_false hy)
        rw [tf_false (show ¬ HeavyIn g x y from fun h => hy (by have := h.2.2.1; rw [hl.out] at this; exact this))]
        clear hx hy
        go_enter Try.func21, Try.ntmps21
        go_wp2_with (first
          | (go_at_call 67; refine (small_i _ _ _ (hP0.below (by repeat' (first | (with_reducible exact Below.refl _ _) | (with_reducible assumption) | (with_reducible apply below_set) | (with_reducible apply Below.alloc) | (with_reducible apply Below.drew) | (with_reducible apply below_drawn) | (with_reducible refine Below.trans ?_ (Below.mono (by assumption) ?_)) | omega | (simp only [World.size_alloc, World.size_setCell, World.size_drew]; omega))))).mono ?_; rw [k1.out]; rintro e w2 ⟨rfl, hb2⟩; have hcf2 := bcell hb2; obtain ⟨hcell2, hfr2⟩ := hcf2; have hz2 := hb2.size; (try simp only [World.size_alloc, World.size_setCell, World.size_drew] at hz2); have hz2a : w.heap.size < w2.heap.size := (by omega)))
        refine (hasV_i _ _ _ _ (hA.below (by repeat' (first | (with_reducible exact Below.refl _ _) | (with_reducible assumption) | (with_reducible apply below_set) | (with_reducible apply Below.alloc) | (with_reducible apply Below.drew) | (with_reducible apply below_drawn) | (with_reducible refine Below.trans ?_ (Below.mono (by assumption) ?_)) | omega | (simp only [World.size_alloc, World.size_setCell, World.size_drew]; omega))))).mono ?_
        rw [k2.out]
        rintro e w3 ⟨rfl, hb3⟩
        obtain ⟨hcell3, hfr3⟩ := bcell hb3
        have hz3 := hb3.size
        have hz3b : w.heap.size < w3.heap.size := by omega
        go_wp2_with fail
        refine (hasV_i _ _ _ _ (hA.below (by repeat' (first | (with_reducible exact Below.refl _ _) | (with_reducible assumption) | (with_reducible apply below_set) | (with_reducible apply Below.alloc) | (with_reducible apply Below.drew) | (with_reducible apply below_drawn) | (with_reducible refine Below.trans ?_ (Below.mono (by assumption) ?_)) | omega | (simp only [World.size_alloc, World.size_setCell, World.size_drew]; omega))))).mono ?_
        rw [k3.out]
        rintro e w4 ⟨rfl, hb4⟩
        go_wp2_with fail
        go_ret
        exact ⟨rfl, (by repeat' (first | (with_reducible exact Below.refl _ _) | (with_reducible assumption) | (with_reducible apply below_set) | (with_reducible apply Below.alloc) | (with_reducible apply Below.drew) | (with_reducible apply below_drawn) | (with_reducible refine Below.trans ?_ (Below.mono (by assumption) ?_)) | omega | (simp only [World.size_alloc, World.size_setCell, World.size_drew]; omega)))⟩
    · have k2 := Lib.hid (tf_false hx)
      rw [tf_false (show ¬ HeavyIn g x y from fun h => hx (by have := h.2.1; rw [hl.out] at this; exact this))]
      clear hx
      go_enter Try.func21, Try.ntmps21
      go_wp2_with (first
        | (go_at_call 67; refine (small_i _ _ _ (hP0.below (by repeat' (first | (with_reducible exact Below.refl _ _) | (with_reducible assumption) | (with_reducible apply below_set) | (with_reducible apply Below.alloc) | (with_reducible apply Below.drew) | (with_reducible apply below_drawn) | (with_reducible refine Below.trans ?_ (Below.mono (by assumption) ?_)) | omega | (simp only [World.size_alloc, World.size_setCell, World.size_drew]; omega))))).mono ?_; rw [k1.out]; rintro e w2 ⟨rfl, hb2⟩; have hcf2 := bcell hb2; obtain ⟨hcell2, hfr2⟩ := hcf2; have hz2 := hb2.size; (try simp only [World.size_alloc, World.size_setCell, World.size_drew] at hz2); have hz2a : w.heap.size < w2.heap.size := (by omega))
        | (go_at_call 68; refine (hasV_i _ _ _ _ (hA.below (by repeat' (first | (with_reducible exact Below.refl _ _) | (with_reducible assumption) | (with_reducible apply below_set) | (with_reducible apply Below.alloc) | (with_reducible apply Below.drew) | (with_reducible apply below_drawn) | (with_reducible refine Below.trans ?_ (Below.mono (by assumption) ?_)) | omega | (simp only [World.size_alloc, World.size_setCell, World.size_drew]; omega))))).mono ?_; rw [k2.out]; rintro e w3 ⟨rfl, hb3⟩; have hcf3 := bcell hb3; obtain ⟨hcell3, hfr3⟩ := hcf3; have hz3 := hb3.size; (try simp only [World.size_alloc, World.size_setCell, World.size_drew] at hz3); have hz3a : w.heap.size < w3.heap.size := (by omega)))
      go_ret
      exact ⟨rfl, (by repeat' (first | (with_reducible exact Below.refl _ _) | (with_reducible assumption) | (with_reducible apply below_set) | (with_reducible apply Below.alloc) | (with_reducible apply Below.drew) | (with_reducible apply below_drawn) | (with_reducible refine Below.trans ?_ (Below.mono (by assumption) ?_)) | omega | (simp only [World.size_alloc, World.size_setCell, World.size_drew]; omega)))⟩
  · have k1 := Lib.hid (tf_false hg)
    rw [tf_false (show ¬ HeavyIn g x y from fun h => hg h.1)]
    clear hg
    go_enter Try.func21, Try.ntmps21
    go_wp2_with (go_at_call 67; refine (small_i _ _ _ (hP0.below (by repeat' (first | (with_reducible exact Below.refl _ _) | (with_reducible assumption) | (with_reducible apply below_set) | (with_reducible apply Below.alloc) | (with_reducible apply Below.drew) | (with_reducible apply below_drawn) | (with_reducible refine Below.trans ?_ (Below.mono (by assumption) ?_)) | omega | (simp only [World.size_alloc, World.size_setCell, World.size_drew]; omega))))).mono ?_; rw [k1.out]; rintro e w2 ⟨rfl, hb2⟩; have hcf2 := bcell hb2; obtain ⟨hcell2, hfr2⟩ := hcf2; have hz2 := hb2.size; (try simp only [World.size_alloc, World.size_setCell, World.size_drew] at hz2); have hz2a : w.heap.size < w2.heap.size := (by omega))
    go_ret
    exact ⟨rfl, (by repeat' (first | (with_reducible exact Below.refl _ _) | (with_reducible assumption) | (with_reducible apply below_set) | (with_reducible apply Below.alloc) | (with_reducible apply Below.drew) | (with_reducible apply below_drawn) | (with_reducible refine Below.trans ?_ (Below.mono (by assumption) ?_)) | omega | (simp only [World.size_alloc, World.size_setCell, World.size_drew]; omega)))⟩

set_option maxHeartbeats 1000000 in
theorem heavyIn_s (v : Value) (g : Pa) (x y : Int) (w : World) (hP : IsP w v g) : Calls Try.prog 20 #[v, .int .i64 x, .int .i64 y] w (Bb w (tf (HeavyIn g x y))) := by
  have hP0 := hP
  obtain ⟨_, _, _, rfl, ⟨s1, n1, c1, rfl, h1⟩, ⟨s2, n2, c2, rfl, h2⟩, ⟨s3, n3, c3, rfl, h3⟩⟩ := hP
  by_cases hg : Small g
  · have k1 := Lib.hid (tf_true hg)
    have G := Lib.hid hg
    clear hg
    by_cases hx : Vert g.prio.length x
    · have k2 := Lib.hid (tf_true hx)
      by_cases hy : Vert g.prio.length y
      · have k3 := Lib.hid (tf_true hy)
        have a1 : 0 ≤ x := hx.1
        have A2 := Lib.hid hx.2
        have a3 : 0 ≤ y := hy.1
        have A4 := Lib.hid hy.2
        have e : tf (HeavyIn g x y) = tf (Heavy g x.toNat y.toNat) := tf_congr ⟨fun h => h.2.2.2, fun h => ⟨G.out, hx, hy, h⟩⟩
        rw [e]
        clear e hx hy
        go_enter Try.func20, Try.ntmps20
        go_wp2_with (go_at_call 64; refine (small_s _ _ _ (hP0.below (by repeat' (first | (with_reducible exact Below.refl _ _) | (with_reducible assumption) | (with_reducible apply below_set) | (with_reducible apply Below.alloc) | (with_reducible apply Below.drew) | (with_reducible apply below_drawn) | (with_reducible refine Below.trans ?_ (Below.mono (by assumption) ?_)) | omega | (simp only [World.size_alloc, World.size_setCell, World.size_drew]; omega))))).mono ?_; rw [k1.out]; rintro e w2 ⟨rfl, hb2⟩; have hcf2 := bcell hb2; obtain ⟨hcell2, hfr2⟩ := hcf2; have hz2 := hb2.size; (try simp only [World.size_alloc, World.size_setCell, World.size_drew] at hz2); have hz2a : w.heap.size < w2.heap.size := (by omega))
        refine (vert_s _ _ _ _ (hP0.below (by repeat' (first | (with_reducible exact Below.refl _ _) | (with_reducible assumption) | (with_reducible apply below_set) | (with_reducible apply Below.alloc) | (with_reducible apply Below.drew) | (with_reducible apply below_drawn) | (with_reducible refine Below.trans ?_ (Below.mono (by assumption) ?_)) | omega | (simp only [World.size_alloc, World.size_setCell, World.size_drew]; omega))))).mono ?_
        rw [k2.out]
        rintro e w3 ⟨rfl, hb3⟩
        obtain ⟨hcell3, hfr3⟩ := bcell hb3
        have hz3 := hb3.size
        have hz3b : w.heap.size < w3.heap.size := by omega
        go_wp2_with fail
        refine (vert_s _ _ _ _ (hP0.below (by repeat' (first | (with_reducible exact Below.refl _ _) | (with_reducible assumption) | (with_reducible apply below_set) | (with_reducible apply Below.alloc) | (with_reducible apply Below.drew) | (with_reducible apply below_drawn) | (with_reducible refine Below.trans ?_ (Below.mono (by assumption) ?_)) | omega | (simp only [World.size_alloc, World.size_setCell, World.size_drew]; omega))))).mono ?_
        rw [k3.out]
        rintro e w4 ⟨rfl, hb4⟩
        obtain ⟨hcell4, hfr4⟩ := bcell hb4
        have hz4 := hb4.size
        have hz4b : w.heap.size < w4.heap.size := by omega
        go_wp2_with (first
          | (go_at_call 66; refine (heavy_s _ _ _ _ _ (hP0.below (by repeat' (first | (with_reducible exact Below.refl _ _) | (with_reducible assumption) | (with_reducible apply below_set) | (with_reducible apply Below.alloc) | (with_reducible apply Below.drew) | (with_reducible apply below_drawn) | (with_reducible refine Below.trans ?_ (Below.mono (by assumption) ?_)) | omega | (simp only [World.size_alloc, World.size_setCell, World.size_drew]; omega)))) a1 A2.out a3 A4.out).mono ?_; rintro e w5 ⟨rfl, hb5⟩; have hcf5 := bcell hb5; obtain ⟨hcell5, hfr5⟩ := hcf5; have hz5 := hb5.size; (try simp only [World.size_alloc, World.size_setCell, World.size_drew] at hz5); have hz5a : w.heap.size < w5.heap.size := (by omega)))
        go_ret
        exact ⟨rfl, (by repeat' (first | (with_reducible exact Below.refl _ _) | (with_reducible assumption) | (with_reducible apply below_set) | (with_reducible apply Below.alloc) | (with_reducible apply Below.drew) | (with_reducible apply below_drawn) | (with_reducible refine Below.trans ?_ (Below.mono (by assumption) ?_)) | omega | (simp only [World.size_alloc, World.size_setCell, World.size_drew]; omega)))⟩
      · have k3 := Lib.hid (tf_false hy)
        rw [tf_false (show ¬ HeavyIn g x y from fun h => hy h.2.2.1)]
        clear hx hy
        go_enter Try.func20, Try.ntmps20
        go_wp2_with (go_at_call 64; refine (small_s _ _ _ (hP0.below (by repeat' (first | (with_reducible exact Below.refl _ _) | (with_reducible assumption) | (with_reducible apply below_set) | (with_reducible apply Below.alloc) | (with_reducible apply Below.drew) | (with_reducible apply below_drawn) | (with_reducible refine Below.trans ?_ (Below.mono (by assumption) ?_)) | omega | (simp only [World.size_alloc, World.size_setCell, World.size_drew]; omega))))).mono ?_; rw [k1.out]; rintro e w2 ⟨rfl, hb2⟩; have hcf2 := bcell hb2; obtain ⟨hcell2, hfr2⟩ := hcf2; have hz2 := hb2.size; (try simp only [World.size_alloc, World.size_setCell, World.size_drew] at hz2); have hz2a : w.heap.size < w2.heap.size := (by omega))
        refine (vert_s _ _ _ _ (hP0.below (by repeat' (first | (with_reducible exact Below.refl _ _) | (with_reducible assumption) | (with_reducible apply below_set) | (with_reducible apply Below.alloc) | (with_reducible apply Below.drew) | (with_reducible apply below_drawn) | (with_reducible refine Below.trans ?_ (Below.mono (by assumption) ?_)) | omega | (simp only [World.size_alloc, World.size_setCell, World.size_drew]; omega))))).mono ?_
        rw [k2.out]
        rintro e w3 ⟨rfl, hb3⟩
        obtain ⟨hcell3, hfr3⟩ := bcell hb3
        have hz3 := hb3.size
        have hz3b : w.heap.size < w3.heap.size := by omega
        go_wp2_with fail
        refine (vert_s _ _ _ _ (hP0.below (by repeat' (first | (with_reducible exact Below.refl _ _) | (with_reducible assumption) | (with_reducible apply below_set) | (with_reducible apply Below.alloc) | (with_reducible apply Below.drew) | (with_reducible apply below_drawn) | (with_reducible refine Below.trans ?_ (Below.mono (by assumption) ?_)) | omega | (simp only [World.size_alloc, World.size_setCell, World.size_drew]; omega))))).mono ?_
        rw [k3.out]
        rintro e w4 ⟨rfl, hb4⟩
        go_wp2_with fail
        go_ret
        exact ⟨rfl, (by repeat' (first | (with_reducible exact Below.refl _ _) | (with_reducible assumption) | (with_reducible apply below_set) | (with_reducible apply Below.alloc) | (with_reducible apply Below.drew) | (with_reducible apply below_drawn) | (with_reducible refine Below.trans ?_ (Below.mono (by assumption) ?_)) | omega | (simp only [World.size_alloc, World.size_setCell, World.size_drew]; omega)))⟩
    · have k2 := Lib.hid (tf_false hx)
      rw [tf_false (show ¬ HeavyIn g x y from fun h => hx h.2.1)]
      clear hx
      go_enter Try.func20, Try.ntmps20
      go_wp2_with (first
        | (go_at_call 64; refine (small_s _ _ _ (hP0.below (by repeat' (first | (with_reducible exact Below.refl _ _) | (with_reducible assumption) | (with_reducible apply below_set) | (with_reducible apply Below.alloc) | (with_reducible apply Below.drew) | (with_reducible apply below_drawn) | (with_reducible refine Below.trans ?_ (Below.mono (by assumption) ?_)) | omega | (simp only [World.size_alloc, World.size_setCell, World.size_drew]; omega))))).mono ?_; rw [k1.out]; rintro e w2 ⟨rfl, hb2⟩; have hcf2 := bcell hb2; obtain ⟨hcell2, hfr2⟩ := hcf2; have hz2 := hb2.size; (try simp only [World.size_alloc, World.size_setCell, World.size_drew] at hz2); have hz2a : w.heap.size < w2.heap.size := (by omega))
        | (go_at_call 65; refine (vert_s _ _ _ _ (hP0.below (by repeat' (first | (with_reducible exact Below.refl _ _) | (with_reducible assumption) | (with_reducible apply below_set) | (with_reducible apply Below.alloc) | (with_reducible apply Below.drew) | (with_reducible apply below_drawn) | (with_reducible refine Below.trans ?_ (Below.mono (by assumption) ?_)) | omega | (simp only [World.size_alloc, World.size_setCell, World.size_drew]; omega))))).mono ?_; rw [k2.out]; rintro e w3 ⟨rfl, hb3⟩; have hcf3 := bcell hb3; obtain ⟨hcell3, hfr3⟩ := hcf3; have hz3 := hb3.size; (try simp only [World.size_alloc, World.size_setCell, World.size_drew] at hz3); have hz3a : w.heap.size < w3.heap.size := (by omega)))
      go_ret
      exact ⟨rfl, (by repeat' (first | (with_reducible exact Below.refl _ _) | (with_reducible assumption) | (with_reducible apply below_set) | (with_reducible apply Below.alloc) | (with_reducible apply Below.drew) | (with_reducible apply below_drawn) | (with_reducible refine Below.trans ?_ (Below.mono (by assumption) ?_)) | omega | (simp only [World.size_alloc, World.size_setCell, World.size_drew]; omega)))⟩
  · have k1 := Lib.hid (tf_false hg)
    rw [tf_false (show ¬ HeavyIn g x y from fun h => hg h.1)]
    clear hg
    go_enter Try.func20, Try.ntmps20
    go_wp2_with (go_at_call 64; refine (small_s _ _ _ (hP0.below (by repeat' (first | (with_reducible exact Below.refl _ _) | (with_reducible assumption) | (with_reducible apply below_set) | (with_reducible apply Below.alloc) | (with_reducible apply Below.drew) | (with_reducible apply below_drawn) | (with_reducible refine Below.trans ?_ (Below.mono (by assumption) ?_)) | omega | (simp only [World.size_alloc, World.size_setCell, World.size_drew]; omega))))).mono ?_; rw [k1.out]; rintro e w2 ⟨rfl, hb2⟩; have hcf2 := bcell hb2; obtain ⟨hcell2, hfr2⟩ := hcf2; have hz2 := hb2.size; (try simp only [World.size_alloc, World.size_setCell, World.size_drew] at hz2); have hz2a : w.heap.size < w2.heap.size := (by omega))
    go_ret
    exact ⟨rfl, (by repeat' (first | (with_reducible exact Below.refl _ _) | (with_reducible assumption) | (with_reducible apply below_set) | (with_reducible apply Below.alloc) | (with_reducible apply Below.drew) | (with_reducible apply below_drawn) | (with_reducible refine Below.trans ?_ (Below.mono (by assumption) ?_)) | omega | (simp only [World.size_alloc, World.size_setCell, World.size_drew]; omega)))⟩
end Go.Proofs.Ytdbojkdfpkgfcaa
