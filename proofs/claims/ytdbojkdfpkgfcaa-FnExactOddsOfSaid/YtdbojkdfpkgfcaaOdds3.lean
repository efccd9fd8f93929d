/-
  OddsOf: the program's and the reference's.
-/
import Derived.Test.YtdbojkdfpkgfcaaOdds2
namespace Go.Proofs.Ytdbojkdfpkgfcaa
set_option linter.unusedVariables false
set_option linter.unusedSimpArgs false
open Go.RowKit
attribute [local go_sem ↓] Go.wp_at_zero Go.wp_at_succ
noncomputable def oddsOf (g : Pa) : List Int := @ite _ (Small g) (Classical.propDecidable _) (oddsL g) []
theorem oddsOf_ok {g : Pa} (h : Small g) : oddsOf g = oddsL g := if_pos h
theorem oddsOf_no {g : Pa} (h : ¬ Small g) : oddsOf g = [] := if_neg h
theorem oddsOf_len (g : Pa) : (oddsOf g).length ≤ 1048576 := by
  by_cases h : Small g
  · rw [oddsOf_ok h]; have := oddsL_len g; omega
  · rw [oddsOf_no h]; simp
set_option maxHeartbeats 1000000 in
theorem oddsOf_i (v : Value) (g : Pa) (w : World) (hP : IsP w v g) : Calls Try.prog 55 #[v] w (RetI' w (oddsOf g)) := by
  have hP0 := hP
  obtain ⟨_, _, _, rfl, ⟨s1, n1, c1, rfl, h1⟩, ⟨s2, n2, c2, rfl, h2⟩, ⟨s3, n3, c3, rfl, h3⟩⟩ := hP
  by_cases hg : Small g
  · have k1 := Lib.hid (tf_true hg)
    rw [oddsOf_ok hg]
    have G := Lib.hid hg
    clear hg
    go_enter Try.func55, Try.ntmps55
    go_wp2_with fail
    generalize hqw1 : w.alloc (.cells #[.slice s1 n1 c1, .slice s2 n2 c2, .slice s3 n3 c3] 32) = w1
    have hbw : Below w.heap.size w w1 := by rw [← hqw1]; exact (by repeat' (first | (with_reducible exact Below.refl _ _) | (with_reducible apply Below.alloc) | (with_reducible apply Below.drew) | (with_reducible apply below_drawn) | omega | (simp only [World.size_alloc, World.size_setCell, World.size_drew]; omega)))
    have hew1 := Lib.hid (show w1.heap.size = w.heap.size + 1 by rw [← hqw1]; simp)
    have hsw : w.heap.size + 1 ≤ w1.heap.size := by rw [← hqw1]; simp only [World.size_alloc]; omega
    have hswa : w.heap.size < w1.heap.size := by omega
    have HQw1_0 : Blk w1 (w.heap.size) [.slice s1 n1 c1, .slice s2 n2 c2, .slice s3 n3 c3] 32 := by rw [← hqw1]; have hnew := blk_new w [.slice s1 n1 c1, .slice s2 n2 c2, .slice s3 n3 c3] 32; (try simp only [World.size_alloc] at hnew); exact hnew
    have b0_0 : w1.cell? ⟨w.heap.size, 0, none⟩ = some (.slice s1 n1 c1) := HQw1_0.cell 0 rfl
    have b0_1 : w1.cell? ⟨w.heap.size, 1, none⟩ = some (.slice s2 n2 c2) := HQw1_0.cell 1 rfl
    have b0_2 : w1.cell? ⟨w.heap.size, 2, none⟩ = some (.slice s3 n3 c3) := HQw1_0.cell 2 rfl
    have HRw1 := Lib.hid HQw1_0
    clear HQw1_0
    clear hqw1
    clear HRw1
    go_wp2_with (go_at_call 67; refine (small_i _ _ _ (hP0.below hbw)).mono ?_; rw [k1.out]; rintro e w2 ⟨rfl, hbw2⟩; replace b0_0 := cell_b b0_0 hbw2; replace b0_1 := cell_b b0_1 hbw2; replace b0_2 := cell_b b0_2 hbw2; replace hbw : Below w.heap.size w w2 := hbw.trans (hbw2.mono hbw.size); have hz2 := hbw2.size)
    refine (odds_i _ _ _ (hP0.below hbw) G.out.1).mono ?_
    rintro e w3 ⟨s4, n4, c4, rfl, ho3, hb3⟩
    go_wp2_with fail
    go_ret
    exact ⟨_, _, _, rfl, ho3.mono (by omega) (Nat.le_refl _), hbw.trans (hb3.mono hbw.size)⟩
  · have k1 := Lib.hid (tf_false hg)
    rw [oddsOf_no hg]
    clear hg
    go_enter Try.func55, Try.ntmps55
    go_wp2_with fail
    generalize hqw1 : w.alloc (.cells #[.slice s1 n1 c1, .slice s2 n2 c2, .slice s3 n3 c3] 32) = w1
    have hbw : Below w.heap.size w w1 := by rw [← hqw1]; exact (by repeat' (first | (with_reducible exact Below.refl _ _) | (with_reducible apply Below.alloc) | (with_reducible apply Below.drew) | (with_reducible apply below_drawn) | omega | (simp only [World.size_alloc, World.size_setCell, World.size_drew]; omega)))
    have hew1 := Lib.hid (show w1.heap.size = w.heap.size + 1 by rw [← hqw1]; simp)
    have hsw : w.heap.size + 1 ≤ w1.heap.size := by rw [← hqw1]; simp only [World.size_alloc]; omega
    have hswa : w.heap.size < w1.heap.size := by omega
    have HQw1_0 : Blk w1 (w.heap.size) [.slice s1 n1 c1, .slice s2 n2 c2, .slice s3 n3 c3] 32 := by rw [← hqw1]; have hnew := blk_new w [.slice s1 n1 c1, .slice s2 n2 c2, .slice s3 n3 c3] 32; (try simp only [World.size_alloc] at hnew); exact hnew
    have b0_0 : w1.cell? ⟨w.heap.size, 0, none⟩ = some (.slice s1 n1 c1) := HQw1_0.cell 0 rfl
    have b0_1 : w1.cell? ⟨w.heap.size, 1, none⟩ = some (.slice s2 n2 c2) := HQw1_0.cell 1 rfl
    have b0_2 : w1.cell? ⟨w.heap.size, 2, none⟩ = some (.slice s3 n3 c3) := HQw1_0.cell 2 rfl
    have HRw1 := Lib.hid HQw1_0
    clear HQw1_0
    clear hqw1
    clear HRw1
    go_wp2_with (go_at_call 67; refine (small_i _ _ _ (hP0.below hbw)).mono ?_; rw [k1.out]; rintro e w2 ⟨rfl, hbw2⟩; replace b0_0 := cell_b b0_0 hbw2; replace hbw : Below w.heap.size w w2 := hbw.trans (hbw2.mono hbw.size); have hz2 := hbw2.size)
    go_ret
    exact ⟨_, _, _, rfl, ownV_nil _ _ _ _, hbw⟩
set_option maxHeartbeats 1000000 in
theorem oddsOf_s (v : Value) (g : Pa) (w : World) (hP : IsP w v g) : Calls Try.prog 54 #[v] w (RetI' w (oddsOf g)) := by
  have hP0 := hP
  obtain ⟨_, _, _, rfl, ⟨s1, n1, c1, rfl, h1⟩, ⟨s2, n2, c2, rfl, h2⟩, ⟨s3, n3, c3, rfl, h3⟩⟩ := hP
  by_cases hg : Small g
  · have k1 := Lib.hid (tf_true hg)
    rw [oddsOf_ok hg]
    have G := Lib.hid hg
    clear hg
    go_enter Try.func54, Try.ntmps54
    go_wp2_with fail
    generalize hqw1 : w.alloc (.cells #[.slice s1 n1 c1, .slice s2 n2 c2, .slice s3 n3 c3] 32) = w1
    have hbw : Below w.heap.size w w1 := by rw [← hqw1]; exact (by repeat' (first | (with_reducible exact Below.refl _ _) | (with_reducible apply Below.alloc) | (with_reducible apply Below.drew) | (with_reducible apply below_drawn) | omega | (simp only [World.size_alloc, World.size_setCell, World.size_drew]; omega)))
    have hew1 := Lib.hid (show w1.heap.size = w.heap.size + 1 by rw [← hqw1]; simp)
    have hsw : w.heap.size + 1 ≤ w1.heap.size := by rw [← hqw1]; simp only [World.size_alloc]; omega
    have hswa : w.heap.size < w1.heap.size := by omega
    have HQw1_0 : Blk w1 (w.heap.size) [.slice s1 n1 c1, .slice s2 n2 c2, .slice s3 n3 c3] 32 := by rw [← hqw1]; have hnew := blk_new w [.slice s1 n1 c1, .slice s2 n2 c2, .slice s3 n3 c3] 32; (try simp only [World.size_alloc] at hnew); exact hnew
    have b0_0 : w1.cell? ⟨w.heap.size, 0, none⟩ = some (.slice s1 n1 c1) := HQw1_0.cell 0 rfl
    have b0_1 : w1.cell? ⟨w.heap.size, 1, none⟩ = some (.slice s2 n2 c2) := HQw1_0.cell 1 rfl
    have b0_2 : w1.cell? ⟨w.heap.size, 2, none⟩ = some (.slice s3 n3 c3) := HQw1_0.cell 2 rfl
    have HRw1 := Lib.hid HQw1_0
    clear HQw1_0
    clear hqw1
    clear HRw1
    go_wp2_with (go_at_call 64; refine (small_s _ _ _ (hP0.below hbw)).mono ?_; rw [k1.out]; rintro e w2 ⟨rfl, hbw2⟩; replace b0_0 := cell_b b0_0 hbw2; replace b0_1 := cell_b b0_1 hbw2; replace b0_2 := cell_b b0_2 hbw2; replace hbw : Below w.heap.size w w2 := hbw.trans (hbw2.mono hbw.size); have hz2 := hbw2.size)
    refine (odds_s _ _ _ (hP0.below hbw)).mono ?_
    rintro e w3 ⟨s4, n4, c4, rfl, ho3, hb3⟩
    go_wp2_with fail
    go_ret
    exact ⟨_, _, _, rfl, ho3.mono (by omega) (Nat.le_refl _), hbw.trans (hb3.mono hbw.size)⟩
  · have k1 := Lib.hid (tf_false hg)
    rw [oddsOf_no hg]
    clear hg
    go_enter Try.func54, Try.ntmps54
    go_wp2_with fail
    generalize hqw1 : w.alloc (.cells #[.slice s1 n1 c1, .slice s2 n2 c2, .slice s3 n3 c3] 32) = w1
    have hbw : Below w.heap.size w w1 := by rw [← hqw1]; exact (by repeat' (first | (with_reducible exact Below.refl _ _) | (with_reducible apply Below.alloc) | (with_reducible apply Below.drew) | (with_reducible apply below_drawn) | omega | (simp only [World.size_alloc, World.size_setCell, World.size_drew]; omega)))
    have hew1 := Lib.hid (show w1.heap.size = w.heap.size + 1 by rw [← hqw1]; simp)
    have hsw : w.heap.size + 1 ≤ w1.heap.size := by rw [← hqw1]; simp only [World.size_alloc]; omega
    have hswa : w.heap.size < w1.heap.size := by omega
    have HQw1_0 : Blk w1 (w.heap.size) [.slice s1 n1 c1, .slice s2 n2 c2, .slice s3 n3 c3] 32 := by rw [← hqw1]; have hnew := blk_new w [.slice s1 n1 c1, .slice s2 n2 c2, .slice s3 n3 c3] 32; (try simp only [World.size_alloc] at hnew); exact hnew
    have b0_0 : w1.cell? ⟨w.heap.size, 0, none⟩ = some (.slice s1 n1 c1) := HQw1_0.cell 0 rfl
    have b0_1 : w1.cell? ⟨w.heap.size, 1, none⟩ = some (.slice s2 n2 c2) := HQw1_0.cell 1 rfl
    have b0_2 : w1.cell? ⟨w.heap.size, 2, none⟩ = some (.slice s3 n3 c3) := HQw1_0.cell 2 rfl
    have HRw1 := Lib.hid HQw1_0
    clear HQw1_0
    clear hqw1
    clear HRw1
    go_wp2_with (go_at_call 64; refine (small_s _ _ _ (hP0.below hbw)).mono ?_; rw [k1.out]; rintro e w2 ⟨rfl, hbw2⟩; replace b0_0 := cell_b b0_0 hbw2; replace hbw : Below w.heap.size w w2 := hbw.trans (hbw2.mono hbw.size); have hz2 := hbw2.size)
    go_ret
    exact ⟨_, _, _, rfl, (own_nil w.heap.size w2 0 hbw.size), hbw.trans (below_alloc w2 _ |>.mono hbw.size)⟩
end Go.Proofs.Ytdbojkdfpkgfcaa
