/-
  Small games, in the old words.
-/
import Derived.Test.YtfkiloibifigfaaCb
namespace Go.Proofs.Ytfkiloibifigfaa
set_option linter.unusedVariables false
set_option linter.unusedSimpArgs false
open Go.RowKit

def Small (g : Pa) : Prop := PaOk g ∧ g.prio.length ≤ 12
def Vert (n : Nat) (x : Int) : Prop := 0 ≤ x ∧ x < n
theorem small_i (v : Value) (g : Pa) (w : World) (hP : IsP w v g) : Calls Try.prog 61 #[v] w (Bb w (tf (Small g))) := by
  have hP0 := hP
  obtain ⟨_, _, _, rfl, ⟨s1, n1, c1, rfl, h1⟩, ⟨s2, n2, c2, rfl, h2⟩, ⟨s3, n3, c3, rfl, h3⟩⟩ := hP
  have H3 := Lib.hid h3.1
  by_cases hg : PaOk g
  · have k1 := Lib.hid (tf_true hg)
    have G := Lib.hid hg
    clear hg
    by_cases hn : n3 ≤ 12
    · go_enter Try.func61, Try.ntmps61
      go_wp2_with (go_at_call 96; refine (paOk_i _ _ _ (hP0.below (by repeat' (first | (with_reducible exact Below.refl _ _) | (with_reducible assumption) | (with_reducible apply below_set) | (with_reducible apply Below.alloc) | (with_reducible apply Below.drew) | (with_reducible apply below_drawn) | (with_reducible refine Below.trans ?_ (Below.mono (by assumption) ?_)) | omega | (simp only [World.size_alloc, World.size_setCell, World.size_drew]; omega))))).mono ?_; rw [k1.out]; rintro e w2 ⟨rfl, hb2⟩; have hcf2 := bcell hb2; obtain ⟨hcell2, hfr2⟩ := hcf2; have hz2 := hb2.size; (try simp only [World.size_alloc, World.size_setCell, World.size_drew] at hz2); have hz2a : w.heap.size < w2.heap.size := (by omega))
      go_ret
      exact ⟨ret_bool (by rw [tf_true (p := Small g) ⟨G.out, by rw [H3.out]; exact hn⟩]; try (simp; omega)), (by repeat' (first | (with_reducible exact Below.refl _ _) | (with_reducible assumption) | (with_reducible apply below_set) | (with_reducible apply Below.alloc) | (with_reducible apply Below.drew) | (with_reducible apply below_drawn) | (with_reducible refine Below.trans ?_ (Below.mono (by assumption) ?_)) | omega | (simp only [World.size_alloc, World.size_setCell, World.size_drew]; omega)))⟩
    · go_enter Try.func61, Try.ntmps61
      go_wp2_with (go_at_call 96; refine (paOk_i _ _ _ (hP0.below (by repeat' (first | (with_reducible exact Below.refl _ _) | (with_reducible assumption) | (with_reducible apply below_set) | (with_reducible apply Below.alloc) | (with_reducible apply Below.drew) | (with_reducible apply below_drawn) | (with_reducible refine Below.trans ?_ (Below.mono (by assumption) ?_)) | omega | (simp only [World.size_alloc, World.size_setCell, World.size_drew]; omega))))).mono ?_; rw [k1.out]; rintro e w2 ⟨rfl, hb2⟩; have hcf2 := bcell hb2; obtain ⟨hcell2, hfr2⟩ := hcf2; have hz2 := hb2.size; (try simp only [World.size_alloc, World.size_setCell, World.size_drew] at hz2); have hz2a : w.heap.size < w2.heap.size := (by omega))
      go_ret
      exact ⟨ret_bool (by rw [tf_false (p := Small g) (fun h => by have := h.2; rw [H3.out] at this; omega)]; try (simp; omega)), (by repeat' (first | (with_reducible exact Below.refl _ _) | (with_reducible assumption) | (with_reducible apply below_set) | (with_reducible apply Below.alloc) | (with_reducible apply Below.drew) | (with_reducible apply below_drawn) | (with_reducible refine Below.trans ?_ (Below.mono (by assumption) ?_)) | omega | (simp only [World.size_alloc, World.size_setCell, World.size_drew]; omega)))⟩
  · have k1 := Lib.hid (tf_false hg)
    have G := Lib.hid hg
    clear hg
    go_enter Try.func61, Try.ntmps61
    go_wp2_with (go_at_call 96; refine (paOk_i _ _ _ (hP0.below (by repeat' (first | (with_reducible exact Below.refl _ _) | (with_reducible assumption) | (with_reducible apply below_set) | (with_reducible apply Below.alloc) | (with_reducible apply Below.drew) | (with_reducible apply below_drawn) | (with_reducible refine Below.trans ?_ (Below.mono (by assumption) ?_)) | omega | (simp only [World.size_alloc, World.size_setCell, World.size_drew]; omega))))).mono ?_; rw [k1.out]; rintro e w2 ⟨rfl, hb2⟩; have hcf2 := bcell hb2; obtain ⟨hcell2, hfr2⟩ := hcf2; have hz2 := hb2.size; (try simp only [World.size_alloc, World.size_setCell, World.size_drew] at hz2); have hz2a : w.heap.size < w2.heap.size := (by omega))
    go_ret
    exact ⟨ret_bool (tf_false (fun h => G.out h.1)).symm, (by repeat' (first | (with_reducible exact Below.refl _ _) | (with_reducible assumption) | (with_reducible apply below_set) | (with_reducible apply Below.alloc) | (with_reducible apply Below.drew) | (with_reducible apply below_drawn) | (with_reducible refine Below.trans ?_ (Below.mono (by assumption) ?_)) | omega | (simp only [World.size_alloc, World.size_setCell, World.size_drew]; omega)))⟩
theorem small_s (v : Value) (g : Pa) (w : World) (hP : IsP w v g) : Calls Try.prog 57 #[v] w (Bb w (tf (Small g))) := by
  have hP0 := hP
  obtain ⟨_, _, _, rfl, ⟨s1, n1, c1, rfl, h1⟩, ⟨s2, n2, c2, rfl, h2⟩, ⟨s3, n3, c3, rfl, h3⟩⟩ := hP
  have H3 := Lib.hid h3.1
  by_cases hn : n3 ≤ 12
  · by_cases hg : PaOk g
    · have k1 := Lib.hid (tf_true hg)
      have G := Lib.hid hg
      clear hg
      go_enter Try.func57, Try.ntmps57
      go_wp2_with (go_at_call 86; refine (paOk_s _ _ _ (hP0.below (by repeat' (first | (with_reducible exact Below.refl _ _) | (with_reducible assumption) | (with_reducible apply below_set) | (with_reducible apply Below.alloc) | (with_reducible apply Below.drew) | (with_reducible apply below_drawn) | (with_reducible refine Below.trans ?_ (Below.mono (by assumption) ?_)) | omega | (simp only [World.size_alloc, World.size_setCell, World.size_drew]; omega))))).mono ?_; rw [k1.out]; rintro e w2 ⟨rfl, hb2⟩; have hcf2 := bcell hb2; obtain ⟨hcell2, hfr2⟩ := hcf2; have hz2 := hb2.size; (try simp only [World.size_alloc, World.size_setCell, World.size_drew] at hz2); have hz2a : w.heap.size < w2.heap.size := (by omega))
      go_ret
      exact ⟨ret_bool (by rw [tf_true (p := Small g) ⟨G.out, by rw [H3.out]; exact hn⟩]; try (simp; omega)), (by repeat' (first | (with_reducible exact Below.refl _ _) | (with_reducible assumption) | (with_reducible apply below_set) | (with_reducible apply Below.alloc) | (with_reducible apply Below.drew) | (with_reducible apply below_drawn) | (with_reducible refine Below.trans ?_ (Below.mono (by assumption) ?_)) | omega | (simp only [World.size_alloc, World.size_setCell, World.size_drew]; omega)))⟩
    · have k1 := Lib.hid (tf_false hg)
      have G := Lib.hid hg
      clear hg
      go_enter Try.func57, Try.ntmps57
      go_wp2_with (go_at_call 86; refine (paOk_s _ _ _ (hP0.below (by repeat' (first | (with_reducible exact Below.refl _ _) | (with_reducible assumption) | (with_reducible apply below_set) | (with_reducible apply Below.alloc) | (with_reducible apply Below.drew) | (with_reducible apply below_drawn) | (with_reducible refine Below.trans ?_ (Below.mono (by assumption) ?_)) | omega | (simp only [World.size_alloc, World.size_setCell, World.size_drew]; omega))))).mono ?_; rw [k1.out]; rintro e w2 ⟨rfl, hb2⟩; have hcf2 := bcell hb2; obtain ⟨hcell2, hfr2⟩ := hcf2; have hz2 := hb2.size; (try simp only [World.size_alloc, World.size_setCell, World.size_drew] at hz2); have hz2a : w.heap.size < w2.heap.size := (by omega))
      go_ret
      exact ⟨ret_bool (tf_false (fun h => G.out h.1)).symm, (by repeat' (first | (with_reducible exact Below.refl _ _) | (with_reducible assumption) | (with_reducible apply below_set) | (with_reducible apply Below.alloc) | (with_reducible apply Below.drew) | (with_reducible apply below_drawn) | (with_reducible refine Below.trans ?_ (Below.mono (by assumption) ?_)) | omega | (simp only [World.size_alloc, World.size_setCell, World.size_drew]; omega)))⟩
  · go_enter Try.func57, Try.ntmps57
    go_wp2_with fail
    go_ret
    exact ⟨ret_bool (by rw [tf_false (p := Small g) (fun h => by have := h.2; rw [H3.out] at this; omega)]; try (simp; omega)), (by repeat' (first | (with_reducible exact Below.refl _ _) | (with_reducible assumption) | (with_reducible apply below_set) | (with_reducible apply Below.alloc) | (with_reducible apply Below.drew) | (with_reducible apply below_drawn) | (with_reducible refine Below.trans ?_ (Below.mono (by assumption) ?_)) | omega | (simp only [World.size_alloc, World.size_setCell, World.size_drew]; omega)))⟩
theorem hasV_i (v : Value) (a : Ar) (x : Int) (w : World) (hA : IsA w v a) : Calls Try.prog 70 #[v, .int .i64 x] w (Bb w (tf (Vert a.own.length x))) := by
  obtain ⟨_, _, rfl, ⟨s1, n1, c1, rfl, h1⟩, ⟨s2, n2, c2, rfl, h2⟩⟩ := hA
  have H1 := Lib.hid h1.1
  have hm := h1.max
  by_cases h0 : 0 ≤ x
  · by_cases hn : x < n1
    · go_enter Try.func70, Try.ntmps70
      go_wp2
      go_ret
      exact ⟨ret_bool (by rw [tf_true (p := Vert a.own.length x) ⟨h0, by rw [H1.out]; exact hn⟩]; try (simp; omega)), (by repeat' (first | (with_reducible exact Below.refl _ _) | (with_reducible assumption) | (with_reducible apply below_set) | (with_reducible apply Below.alloc) | (with_reducible apply Below.drew) | (with_reducible apply below_drawn) | (with_reducible refine Below.trans ?_ (Below.mono (by assumption) ?_)) | omega | (simp only [World.size_alloc, World.size_setCell, World.size_drew]; omega)))⟩
    · go_enter Try.func70, Try.ntmps70
      go_wp2
      go_ret
      exact ⟨ret_bool (by rw [tf_false (p := Vert a.own.length x) (fun h => by have := h.2; rw [H1.out] at this; omega)]; try (simp; omega)), (by repeat' (first | (with_reducible exact Below.refl _ _) | (with_reducible assumption) | (with_reducible apply below_set) | (with_reducible apply Below.alloc) | (with_reducible apply Below.drew) | (with_reducible apply below_drawn) | (with_reducible refine Below.trans ?_ (Below.mono (by assumption) ?_)) | omega | (simp only [World.size_alloc, World.size_setCell, World.size_drew]; omega)))⟩
  · go_enter Try.func70, Try.ntmps70
    go_wp2
    go_ret
    exact ⟨ret_bool (tf_false (fun h => by have := h.1; omega)).symm, (by repeat' (first | (with_reducible exact Below.refl _ _) | (with_reducible assumption) | (with_reducible apply below_set) | (with_reducible apply Below.alloc) | (with_reducible apply Below.drew) | (with_reducible apply below_drawn) | (with_reducible refine Below.trans ?_ (Below.mono (by assumption) ?_)) | omega | (simp only [World.size_alloc, World.size_setCell, World.size_drew]; omega)))⟩
end Go.Proofs.Ytfkiloibifigfaa
