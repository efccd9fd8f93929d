/-
  Small games, in the old words.
-/
import Derived.Test.YtfkiloibifigfaaZLsCb
namespace Go.Proofs.Ytfkiloibifigfaa
set_option linter.unusedVariables false
set_option linter.unusedSimpArgs false
open Go.RowKit
def Small (g : Pa) : Prop := PaOk g ∧ g.prio.length ≤ 12
def Vert (n : Nat) (x : Int) : Prop := 0 ≤ x ∧ x < n
theorem small_s (v : Value) (g : Pa) (w : World) (hP : IsP w v g) : Calls Try.prog 57 #[v] w (Bb w (tf (Small g))) := by
  have hP0 := hP
  obtain ⟨_, _, _, rfl, ⟨s1, n1, c1, rfl, h1⟩, ⟨s2, n2, c2, rfl, h2⟩, ⟨s3, n3, c3, rfl, h3⟩⟩ := hP
  have H3 := Lib.hid h3.1
  by_cases hn : n3 ≤ 12
  · by_cases hg : PaOk g
    · have k1 := Lib.hid (tf_true hg)
      have G := Lib.hid hg
      clear hg
      go_enter Try.func57, Try.ntmps57
      go_wp2_with (go_at_call 86; refine (paOk_s _ _ _ (hP0.below (by repeat' (first | (with_reducible exact Below.refl _ _) | (with_reducible assumption) | (with_reducible apply below_set) | (with_reducible apply Below.alloc) | (with_reducible apply Below.drew) | (with_reducible apply below_drawn) | (with_reducible refine Below.trans ?_ (Below.mono (by assumption) ?_)) | omega | (simp only [World.size_alloc, World.size_setCell, World.size_drew]; omega))))).mono ?_; rw [k1.out]; rintro e w2 ⟨rfl, hb2⟩; have hcf2 := bcell hb2; obtain ⟨hcell2, hfr2⟩ := hcf2; have hz2 := hb2.size; (try simp only [World.size_alloc, World.size_setCell, World.size_drew] at hz2); have hz2a : w.heap.size < w2.heap.size := (by omega))
      go_ret
      exact ⟨ret_bool (by rw [tf_true (p := Small g) ⟨G.out, by rw [H3.out]; exact hn⟩]; try (simp; omega)), (by repeat' (first | (with_reducible exact Below.refl _ _) | (with_reducible assumption) | (with_reducible apply below_set) | (with_reducible apply Below.alloc) | (with_reducible apply Below.drew) | (with_reducible apply below_drawn) | (with_reducible refine Below.trans ?_ (Below.mono (by assumption) ?_)) | omega | (simp only [World.size_alloc, World.size_setCell, World.size_drew]; omega)))⟩
    · have k1 := Lib.hid (tf_false hg)
      have G := Lib.hid hg
      clear hg
      go_enter Try.func57, Try.ntmps57
      go_wp2_with (go_at_call 86; refine (paOk_s _ _ _ (hP0.below (by repeat' (first | (with_reducible exact Below.refl _ _) | (with_reducible assumption) | (with_reducible apply below_set) | (with_reducible apply Below.alloc) | (with_reducible apply Below.drew) | (with_reducible apply below_drawn) | (with_reducible refine Below.trans ?_ (Below.mono (by assumption) ?_)) | omega | (simp only [World.size_alloc, World.size_setCell, World.size_drew]; omega))))).mono ?_; rw [k1.out]; rintro e w2 ⟨rfl, hb2⟩; have hcf2 := bcell hb2; obtain ⟨hcell2, hfr2⟩ := hcf2; have hz2 := hb2.size; (try simp only [World.size_alloc, World.size_setCell, World.size_drew] at hz2); have hz2a : w.heap.size < w2.heap.size := (by omega))
      go_ret
      exact ⟨ret_bool (tf_false (fun h => G.out h.1)).symm, (by repeat' (first | (with_reducible exact Below.refl _ _) | (with_reducible assumption) | (with_reducible apply below_set) | (with_reducible apply Below.alloc) | (with_reducible apply Below.drew) | (with_reducible apply below_drawn) | (with_reducible refine Below.trans ?_ (Below.mono (by assumption) ?_)) | omega | (simp only [World.size_alloc, World.size_setCell, World.size_drew]; omega)))⟩
  · go_enter Try.func57, Try.ntmps57
    go_wp2_with fail
    go_ret
    exact ⟨ret_bool (by rw [tf_false (p := Small g) (fun h => by have := h.2; rw [H3.out] at this; omega)]; try (simp; omega)), (by repeat' (first | (with_reducible exact Below.refl _ _) | (with_reducible assumption) | (with_reducible apply below_set) | (with_reducible apply Below.alloc) | (with_reducible apply Below.drew) | (with_reducible apply below_drawn) | (with_reducible refine Below.trans ?_ (Below.mono (by assumption) ?_)) | omega | (simp only [World.size_alloc, World.size_setCell, World.size_drew]; omega)))⟩
end Go.Proofs.Ytfkiloibifigfaa
