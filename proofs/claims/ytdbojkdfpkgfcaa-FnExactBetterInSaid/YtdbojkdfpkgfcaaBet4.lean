/-
  BetterIn: the program's and the reference's.
-/
import Derived.Test.YtdbojkdfpkgfcaaBet3
import Derived.Test.YtdbojkdfpkgfcaaWorth3
namespace Go.Proofs.Ytdbojkdfpkgfcaa
set_option linter.unusedVariables false
set_option linter.unusedSimpArgs false
open Go.RowKit
attribute [local go_sem ↓] Go.wp_at_zero Go.wp_at_succ

def BetIs (g : Pa) (a b : Wo) : Prop := Small g ∧ WoOk g a ∧ WoOk g b ∧ Bet g a b
set_option maxRecDepth 100000 in
set_option maxHeartbeats 4000000 in
theorem betterIn_i (v va vb : Value) (g : Pa) (a b : Wo) (w : World) (hP : IsP w v g) (hA : IsW w va a) (hB : IsW w vb b) : Calls Try.prog 44 #[v, va, vb] w (Bb w (tf (BetIs g a b))) := by
  have hP0 := hP
  obtain ⟨_, _, _, rfl, ⟨s1, n1, c1, rfl, h1⟩, ⟨s2, n2, c2, rfl, h2⟩, ⟨s3, n3, c3, rfl, h3⟩⟩ := hP
  have hA0 := hA
  have hB0 := hB
  obtain ⟨p0, s4, n4, c4, p1, rfl⟩ := hA.form
  obtain ⟨r0, s5, n5, c5, r1, rfl⟩ := hB.form
  clear h1 h2 h3 hA hB
  rcases tf_cases (Small g) with ⟨k0, x0⟩ | ⟨k0, x0⟩
  · skip
    rcases tf_cases (WoOk g a) with ⟨k1, x1⟩ | ⟨k1, x1⟩
    · skip
      rcases tf_cases (WoOk g b) with ⟨k2, x2⟩ | ⟨k2, x2⟩
      · skip
        rw [tf_congr (show BetIs g a b ↔ Bet g a b from ⟨fun h => h.2.2.2, fun h => ⟨x0.out, x1.out, x2.out, h⟩⟩)]
        go_enter Try.func44, Try.ntmps44
        go_wp2_with fail
        generalize hqw1 : ((w.alloc (.cells #[.slice s1 n1 c1, .slice s2 n2 c2, .slice s3 n3 c3] 32)).alloc (.cells #[.int .i64 p0, .slice s4 n4 c4, .int .i64 p1] 42)).alloc (.cells #[.int .i64 r0, .slice s5 n5 c5, .int .i64 r1] 42) = w1
        have hbw : Below w.heap.size w w1 := by rw [← hqw1]; exact (by repeat' (first | (with_reducible exact Below.refl _ _) | (with_reducible apply Below.alloc) | (with_reducible apply Below.drew) | (with_reducible apply below_drawn) | omega | (simp only [World.size_alloc, World.size_setCell, World.size_drew]; omega)))
        have hew1 := Lib.hid (show w1.heap.size = w.heap.size + 1 + 1 + 1 by rw [← hqw1]; simp)
        have hsw : w.heap.size + 3 ≤ w1.heap.size := by rw [← hqw1]; simp only [World.size_alloc]; omega
        have hswa : w.heap.size < w1.heap.size := by omega
        have hswb : w.heap.size + 1 < w1.heap.size := by omega
        have hswc : w.heap.size + 1 + 1 < w1.heap.size := by omega
        have HQw1_0 : Blk w1 (w.heap.size) [.slice s1 n1 c1, .slice s2 n2 c2, .slice s3 n3 c3] 32 := by rw [← hqw1]; have hnew := blk_new w [.slice s1 n1 c1, .slice s2 n2 c2, .slice s3 n3 c3] 32; (try simp only [World.size_alloc] at hnew); exact (Blk.alloc (Blk.alloc hnew _) _)
        have b0_0 : w1.cell? ⟨w.heap.size, 0, none⟩ = some (.slice s1 n1 c1) := HQw1_0.cell 0 rfl
        have b0_1 : w1.cell? ⟨w.heap.size, 1, none⟩ = some (.slice s2 n2 c2) := HQw1_0.cell 1 rfl
        have b0_2 : w1.cell? ⟨w.heap.size, 2, none⟩ = some (.slice s3 n3 c3) := HQw1_0.cell 2 rfl
        clear HQw1_0
        have HQw1_1 : Blk w1 (w.heap.size + 1) [.int .i64 p0, .slice s4 n4 c4, .int .i64 p1] 42 := by rw [← hqw1]; have hnew := blk_new (w.alloc (.cells #[.slice s1 n1 c1, .slice s2 n2 c2, .slice s3 n3 c3] 32)) [.int .i64 p0, .slice s4 n4 c4, .int .i64 p1] 42; (try simp only [World.size_alloc] at hnew); exact (Blk.alloc hnew _)
        have b1_0 : w1.cell? ⟨w.heap.size + 1, 0, none⟩ = some (.int .i64 p0) := HQw1_1.cell 0 rfl
        have b1_1 : w1.cell? ⟨w.heap.size + 1, 1, none⟩ = some (.slice s4 n4 c4) := HQw1_1.cell 1 rfl
        have b1_2 : w1.cell? ⟨w.heap.size + 1, 2, none⟩ = some (.int .i64 p1) := HQw1_1.cell 2 rfl
        clear HQw1_1
        have HQw1_2 : Blk w1 (w.heap.size + 1 + 1) [.int .i64 r0, .slice s5 n5 c5, .int .i64 r1] 42 := by rw [← hqw1]; have hnew := blk_new ((w.alloc (.cells #[.slice s1 n1 c1, .slice s2 n2 c2, .slice s3 n3 c3] 32)).alloc (.cells #[.int .i64 p0, .slice s4 n4 c4, .int .i64 p1] 42)) [.int .i64 r0, .slice s5 n5 c5, .int .i64 r1] 42; (try simp only [World.size_alloc] at hnew); exact hnew
        have b2_0 : w1.cell? ⟨w.heap.size + 1 + 1, 0, none⟩ = some (.int .i64 r0) := HQw1_2.cell 0 rfl
        have b2_1 : w1.cell? ⟨w.heap.size + 1 + 1, 1, none⟩ = some (.slice s5 n5 c5) := HQw1_2.cell 1 rfl
        have b2_2 : w1.cell? ⟨w.heap.size + 1 + 1, 2, none⟩ = some (.int .i64 r1) := HQw1_2.cell 2 rfl
        have HRw1 := Lib.hid HQw1_2
        clear HQw1_2
        clear hqw1
        clear HRw1
        go_wp2_with fail
        refine (small_i _ _ _ (hP0.below hbw)).mono ?_
        rw [k0.out]
        rintro e w2 ⟨rfl, hbw2⟩
        replace b0_0 := cell_b b0_0 hbw2
        replace b0_1 := cell_b b0_1 hbw2
        replace b0_2 := cell_b b0_2 hbw2
        replace b1_0 := cell_b b1_0 hbw2
        replace b1_1 := cell_b b1_1 hbw2
        replace b1_2 := cell_b b1_2 hbw2
        replace b2_0 := cell_b b2_0 hbw2
        replace b2_1 := cell_b b2_1 hbw2
        replace b2_2 := cell_b b2_2 hbw2
        replace hbw := hbw.trans (hbw2.mono hbw.size)
        go_wp2_with fail
        refine (isWorth_i _ _ _ _ _ (hP0.below hbw) (hA0.below hbw) x0.out.1).mono ?_
        rw [k1.out]
        rintro e w3 ⟨rfl, hbw3⟩
        replace b0_0 := cell_b b0_0 hbw3
        replace b0_1 := cell_b b0_1 hbw3
        replace b0_2 := cell_b b0_2 hbw3
        replace b1_0 := cell_b b1_0 hbw3
        replace b1_1 := cell_b b1_1 hbw3
        replace b1_2 := cell_b b1_2 hbw3
        replace b2_0 := cell_b b2_0 hbw3
        replace b2_1 := cell_b b2_1 hbw3
        replace b2_2 := cell_b b2_2 hbw3
        replace hbw := hbw.trans (hbw3.mono hbw.size)
        go_wp2_with fail
        refine (isWorth_i _ _ _ _ _ (hP0.below hbw) (hB0.below hbw) x0.out.1).mono ?_
        rw [k2.out]
        rintro e w4 ⟨rfl, hbw4⟩
        replace b0_0 := cell_b b0_0 hbw4
        replace b0_1 := cell_b b0_1 hbw4
        replace b0_2 := cell_b b0_2 hbw4
        replace b1_0 := cell_b b1_0 hbw4
        replace b1_1 := cell_b b1_1 hbw4
        replace b1_2 := cell_b b1_2 hbw4
        replace b2_0 := cell_b b2_0 hbw4
        replace b2_1 := cell_b b2_1 hbw4
        replace b2_2 := cell_b b2_2 hbw4
        replace hbw := hbw.trans (hbw4.mono hbw.size)
        go_wp2_with fail
        refine (better_i _ _ _ _ _ _ _ (hP0.below hbw) (hA0.below hbw) (hB0.below hbw) x0.out.1 x1.out.head x2.out.head).mono ?_
        rintro e w5 ⟨rfl, hbw5⟩
        replace b0_0 := cell_b b0_0 hbw5
        replace b0_1 := cell_b b0_1 hbw5
        replace b0_2 := cell_b b0_2 hbw5
        replace b1_0 := cell_b b1_0 hbw5
        replace b1_1 := cell_b b1_1 hbw5
        replace b1_2 := cell_b b1_2 hbw5
        replace b2_0 := cell_b b2_0 hbw5
        replace b2_1 := cell_b b2_1 hbw5
        replace b2_2 := cell_b b2_2 hbw5
        replace hbw := hbw.trans (hbw5.mono hbw.size)
        go_wp2_with fail
        go_ret
        exact ⟨rfl, hbw⟩
      · rw [tf_false (show ¬ BetIs g a b from fun h => x2.out h.2.2.1)]
        go_enter Try.func44, Try.ntmps44
        go_wp2_with fail
        generalize hqw1 : ((w.alloc (.cells #[.slice s1 n1 c1, .slice s2 n2 c2, .slice s3 n3 c3] 32)).alloc (.cells #[.int .i64 p0, .slice s4 n4 c4, .int .i64 p1] 42)).alloc (.cells #[.int .i64 r0, .slice s5 n5 c5, .int .i64 r1] 42) = w1
        have hbw : Below w.heap.size w w1 := by rw [← hqw1]; exact (by repeat' (first | (with_reducible exact Below.refl _ _) | (with_reducible apply Below.alloc) | (with_reducible apply Below.drew) | (with_reducible apply below_drawn) | omega | (simp only [World.size_alloc, World.size_setCell, World.size_drew]; omega)))
        have hew1 := Lib.hid (show w1.heap.size = w.heap.size + 1 + 1 + 1 by rw [← hqw1]; simp)
        have hsw : w.heap.size + 3 ≤ w1.heap.size := by rw [← hqw1]; simp only [World.size_alloc]; omega
        have hswa : w.heap.size < w1.heap.size := by omega
        have hswb : w.heap.size + 1 < w1.heap.size := by omega
        have hswc : w.heap.size + 1 + 1 < w1.heap.size := by omega
        have HQw1_0 : Blk w1 (w.heap.size) [.slice s1 n1 c1, .slice s2 n2 c2, .slice s3 n3 c3] 32 := by rw [← hqw1]; have hnew := blk_new w [.slice s1 n1 c1, .slice s2 n2 c2, .slice s3 n3 c3] 32; (try simp only [World.size_alloc] at hnew); exact (Blk.alloc (Blk.alloc hnew _) _)
        have b0_0 : w1.cell? ⟨w.heap.size, 0, none⟩ = some (.slice s1 n1 c1) := HQw1_0.cell 0 rfl
        have b0_1 : w1.cell? ⟨w.heap.size, 1, none⟩ = some (.slice s2 n2 c2) := HQw1_0.cell 1 rfl
        have b0_2 : w1.cell? ⟨w.heap.size, 2, none⟩ = some (.slice s3 n3 c3) := HQw1_0.cell 2 rfl
        clear HQw1_0
        have HQw1_1 : Blk w1 (w.heap.size + 1) [.int .i64 p0, .slice s4 n4 c4, .int .i64 p1] 42 := by rw [← hqw1]; have hnew := blk_new (w.alloc (.cells #[.slice s1 n1 c1, .slice s2 n2 c2, .slice s3 n3 c3] 32)) [.int .i64 p0, .slice s4 n4 c4, .int .i64 p1] 42; (try simp only [World.size_alloc] at hnew); exact (Blk.alloc hnew _)
        have b1_0 : w1.cell? ⟨w.heap.size + 1, 0, none⟩ = some (.int .i64 p0) := HQw1_1.cell 0 rfl
        have b1_1 : w1.cell? ⟨w.heap.size + 1, 1, none⟩ = some (.slice s4 n4 c4) := HQw1_1.cell 1 rfl
        have b1_2 : w1.cell? ⟨w.heap.size + 1, 2, none⟩ = some (.int .i64 p1) := HQw1_1.cell 2 rfl
        clear HQw1_1
        have HQw1_2 : Blk w1 (w.heap.size + 1 + 1) [.int .i64 r0, .slice s5 n5 c5, .int .i64 r1] 42 := by rw [← hqw1]; have hnew := blk_new ((w.alloc (.cells #[.slice s1 n1 c1, .slice s2 n2 c2, .slice s3 n3 c3] 32)).alloc (.cells #[.int .i64 p0, .slice s4 n4 c4, .int .i64 p1] 42)) [.int .i64 r0, .slice s5 n5 c5, .int .i64 r1] 42; (try simp only [World.size_alloc] at hnew); exact hnew
        have b2_0 : w1.cell? ⟨w.heap.size + 1 + 1, 0, none⟩ = some (.int .i64 r0) := HQw1_2.cell 0 rfl
        have b2_1 : w1.cell? ⟨w.heap.size + 1 + 1, 1, none⟩ = some (.slice s5 n5 c5) := HQw1_2.cell 1 rfl
        have b2_2 : w1.cell? ⟨w.heap.size + 1 + 1, 2, none⟩ = some (.int .i64 r1) := HQw1_2.cell 2 rfl
        have HRw1 := Lib.hid HQw1_2
        clear HQw1_2
        clear hqw1
        clear HRw1
        go_wp2_with fail
        refine (small_i _ _ _ (hP0.below hbw)).mono ?_
        rw [k0.out]
        rintro e w2 ⟨rfl, hbw2⟩
        replace b0_0 := cell_b b0_0 hbw2
        replace b0_1 := cell_b b0_1 hbw2
        replace b0_2 := cell_b b0_2 hbw2
        replace b1_0 := cell_b b1_0 hbw2
        replace b1_1 := cell_b b1_1 hbw2
        replace b1_2 := cell_b b1_2 hbw2
        replace b2_0 := cell_b b2_0 hbw2
        replace b2_1 := cell_b b2_1 hbw2
        replace b2_2 := cell_b b2_2 hbw2
        replace hbw := hbw.trans (hbw2.mono hbw.size)
        go_wp2_with fail
        refine (isWorth_i _ _ _ _ _ (hP0.below hbw) (hA0.below hbw) x0.out.1).mono ?_
        rw [k1.out]
        rintro e w3 ⟨rfl, hbw3⟩
        replace b0_0 := cell_b b0_0 hbw3
        replace b0_1 := cell_b b0_1 hbw3
        replace b0_2 := cell_b b0_2 hbw3
        replace b1_0 := cell_b b1_0 hbw3
        replace b1_1 := cell_b b1_1 hbw3
        replace b1_2 := cell_b b1_2 hbw3
        replace b2_0 := cell_b b2_0 hbw3
        replace b2_1 := cell_b b2_1 hbw3
        replace b2_2 := cell_b b2_2 hbw3
        replace hbw := hbw.trans (hbw3.mono hbw.size)
        go_wp2_with fail
        refine (isWorth_i _ _ _ _ _ (hP0.below hbw) (hB0.below hbw) x0.out.1).mono ?_
        rw [k2.out]
        rintro e w4 ⟨rfl, hbw4⟩
        replace b0_0 := cell_b b0_0 hbw4
        replace b0_1 := cell_b b0_1 hbw4
        replace b0_2 := cell_b b0_2 hbw4
        replace b1_0 := cell_b b1_0 hbw4
        replace b1_1 := cell_b b1_1 hbw4
        replace b1_2 := cell_b b1_2 hbw4
        replace b2_0 := cell_b b2_0 hbw4
        replace b2_1 := cell_b b2_1 hbw4
        replace b2_2 := cell_b b2_2 hbw4
        replace hbw := hbw.trans (hbw4.mono hbw.size)
        go_wp2_with fail
        go_ret
        exact ⟨rfl, hbw⟩
    · rw [tf_false (show ¬ BetIs g a b from fun h => x1.out h.2.1)]
      go_enter Try.func44, Try.ntmps44
      go_wp2_with fail
      generalize hqw1 : ((w.alloc (.cells #[.slice s1 n1 c1, .slice s2 n2 c2, .slice s3 n3 c3] 32)).alloc (.cells #[.int .i64 p0, .slice s4 n4 c4, .int .i64 p1] 42)).alloc (.cells #[.int .i64 r0, .slice s5 n5 c5, .int .i64 r1] 42) = w1
      have hbw : Below w.heap.size w w1 := by rw [← hqw1]; exact (by repeat' (first | (with_reducible exact Below.refl _ _) | (with_reducible apply Below.alloc) | (with_reducible apply Below.drew) | (with_reducible apply below_drawn) | omega | (simp only [World.size_alloc, World.size_setCell, World.size_drew]; omega)))
      have hew1 := Lib.hid (show w1.heap.size = w.heap.size + 1 + 1 + 1 by rw [← hqw1]; simp)
      have hsw : w.heap.size + 3 ≤ w1.heap.size := by rw [← hqw1]; simp only [World.size_alloc]; omega
      have hswa : w.heap.size < w1.heap.size := by omega
      have hswb : w.heap.size + 1 < w1.heap.size := by omega
      have hswc : w.heap.size + 1 + 1 < w1.heap.size := by omega
      have HQw1_0 : Blk w1 (w.heap.size) [.slice s1 n1 c1, .slice s2 n2 c2, .slice s3 n3 c3] 32 := by rw [← hqw1]; have hnew := blk_new w [.slice s1 n1 c1, .slice s2 n2 c2, .slice s3 n3 c3] 32; (try simp only [World.size_alloc] at hnew); exact (Blk.alloc (Blk.alloc hnew _) _)
      have b0_0 : w1.cell? ⟨w.heap.size, 0, none⟩ = some (.slice s1 n1 c1) := HQw1_0.cell 0 rfl
      have b0_1 : w1.cell? ⟨w.heap.size, 1, none⟩ = some (.slice s2 n2 c2) := HQw1_0.cell 1 rfl
      have b0_2 : w1.cell? ⟨w.heap.size, 2, none⟩ = some (.slice s3 n3 c3) := HQw1_0.cell 2 rfl
      clear HQw1_0
      have HQw1_1 : Blk w1 (w.heap.size + 1) [.int .i64 p0, .slice s4 n4 c4, .int .i64 p1] 42 := by rw [← hqw1]; have hnew := blk_new (w.alloc (.cells #[.slice s1 n1 c1, .slice s2 n2 c2, .slice s3 n3 c3] 32)) [.int .i64 p0, .slice s4 n4 c4, .int .i64 p1] 42; (try simp only [World.size_alloc] at hnew); exact (Blk.alloc hnew _)
      have b1_0 : w1.cell? ⟨w.heap.size + 1, 0, none⟩ = some (.int .i64 p0) := HQw1_1.cell 0 rfl
      have b1_1 : w1.cell? ⟨w.heap.size + 1, 1, none⟩ = some (.slice s4 n4 c4) := HQw1_1.cell 1 rfl
      have b1_2 : w1.cell? ⟨w.heap.size + 1, 2, none⟩ = some (.int .i64 p1) := HQw1_1.cell 2 rfl
      clear HQw1_1
      have HQw1_2 : Blk w1 (w.heap.size + 1 + 1) [.int .i64 r0, .slice s5 n5 c5, .int .i64 r1] 42 := by rw [← hqw1]; have hnew := blk_new ((w.alloc (.cells #[.slice s1 n1 c1, .slice s2 n2 c2, .slice s3 n3 c3] 32)).alloc (.cells #[.int .i64 p0, .slice s4 n4 c4, .int .i64 p1] 42)) [.int .i64 r0, .slice s5 n5 c5, .int .i64 r1] 42; (try simp only [World.size_alloc] at hnew); exact hnew
      have b2_0 : w1.cell? ⟨w.heap.size + 1 + 1, 0, none⟩ = some (.int .i64 r0) := HQw1_2.cell 0 rfl
      have b2_1 : w1.cell? ⟨w.heap.size + 1 + 1, 1, none⟩ = some (.slice s5 n5 c5) := HQw1_2.cell 1 rfl
      have b2_2 : w1.cell? ⟨w.heap.size + 1 + 1, 2, none⟩ = some (.int .i64 r1) := HQw1_2.cell 2 rfl
      have HRw1 := Lib.hid HQw1_2
      clear HQw1_2
      clear hqw1
      clear HRw1
      go_wp2_with fail
      refine (small_i _ _ _ (hP0.below hbw)).mono ?_
      rw [k0.out]
      rintro e w2 ⟨rfl, hbw2⟩
      replace b0_0 := cell_b b0_0 hbw2
      replace b0_1 := cell_b b0_1 hbw2
      replace b0_2 := cell_b b0_2 hbw2
      replace b1_0 := cell_b b1_0 hbw2
      replace b1_1 := cell_b b1_1 hbw2
      replace b1_2 := cell_b b1_2 hbw2
      replace b2_0 := cell_b b2_0 hbw2
      replace b2_1 := cell_b b2_1 hbw2
      replace b2_2 := cell_b b2_2 hbw2
      replace hbw := hbw.trans (hbw2.mono hbw.size)
      go_wp2_with fail
      refine (isWorth_i _ _ _ _ _ (hP0.below hbw) (hA0.below hbw) x0.out.1).mono ?_
      rw [k1.out]
      rintro e w3 ⟨rfl, hbw3⟩
      replace b0_0 := cell_b b0_0 hbw3
      replace b0_1 := cell_b b0_1 hbw3
      replace b0_2 := cell_b b0_2 hbw3
      replace b1_0 := cell_b b1_0 hbw3
      replace b1_1 := cell_b b1_1 hbw3
      replace b1_2 := cell_b b1_2 hbw3
      replace b2_0 := cell_b b2_0 hbw3
      replace b2_1 := cell_b b2_1 hbw3
      replace b2_2 := cell_b b2_2 hbw3
      replace hbw := hbw.trans (hbw3.mono hbw.size)
      go_wp2_with fail
      go_ret
      exact ⟨rfl, hbw⟩
  · rw [tf_false (show ¬ BetIs g a b from fun h => x0.out h.1)]
    go_enter Try.func44, Try.ntmps44
    go_wp2_with fail
    generalize hqw1 : ((w.alloc (.cells #[.slice s1 n1 c1, .slice s2 n2 c2, .slice s3 n3 c3] 32)).alloc (.cells #[.int .i64 p0, .slice s4 n4 c4, .int .i64 p1] 42)).alloc (.cells #[.int .i64 r0, .slice s5 n5 c5, .int .i64 r1] 42) = w1
    have hbw : Below w.heap.size w w1 := by rw [← hqw1]; exact (by repeat' (first | (with_reducible exact Below.refl _ _) | (with_reducible apply Below.alloc) | (with_reducible apply Below.drew) | (with_reducible apply below_drawn) | omega | (simp only [World.size_alloc, World.size_setCell, World.size_drew]; omega)))
    have hew1 := Lib.hid (show w1.heap.size = w.heap.size + 1 + 1 + 1 by rw [← hqw1]; simp)
    have hsw : w.heap.size + 3 ≤ w1.heap.size := by rw [← hqw1]; simp only [World.size_alloc]; omega
    have hswa : w.heap.size < w1.heap.size := by omega
    have hswb : w.heap.size + 1 < w1.heap.size := by omega
    have hswc : w.heap.size + 1 + 1 < w1.heap.size := by omega
    have HQw1_0 : Blk w1 (w.heap.size) [.slice s1 n1 c1, .slice s2 n2 c2, .slice s3 n3 c3] 32 := by rw [← hqw1]; have hnew := blk_new w [.slice s1 n1 c1, .slice s2 n2 c2, .slice s3 n3 c3] 32; (try simp only [World.size_alloc] at hnew); exact (Blk.alloc (Blk.alloc hnew _) _)
    have b0_0 : w1.cell? ⟨w.heap.size, 0, none⟩ = some (.slice s1 n1 c1) := HQw1_0.cell 0 rfl
    have b0_1 : w1.cell? ⟨w.heap.size, 1, none⟩ = some (.slice s2 n2 c2) := HQw1_0.cell 1 rfl
    have b0_2 : w1.cell? ⟨w.heap.size, 2, none⟩ = some (.slice s3 n3 c3) := HQw1_0.cell 2 rfl
    clear HQw1_0
    have HQw1_1 : Blk w1 (w.heap.size + 1) [.int .i64 p0, .slice s4 n4 c4, .int .i64 p1] 42 := by rw [← hqw1]; have hnew := blk_new (w.alloc (.cells #[.slice s1 n1 c1, .slice s2 n2 c2, .slice s3 n3 c3] 32)) [.int .i64 p0, .slice s4 n4 c4, .int .i64 p1] 42; (try simp only [World.size_alloc] at hnew); exact (Blk.alloc hnew _)
    have b1_0 : w1.cell? ⟨w.heap.size + 1, 0, none⟩ = some (.int .i64 p0) := HQw1_1.cell 0 rfl
    have b1_1 : w1.cell? ⟨w.heap.size + 1, 1, none⟩ = some (.slice s4 n4 c4) := HQw1_1.cell 1 rfl
    have b1_2 : w1.cell? ⟨w.heap.size + 1, 2, none⟩ = some (.int .i64 p1) := HQw1_1.cell 2 rfl
    clear HQw1_1
    have HQw1_2 : Blk w1 (w.heap.size + 1 + 1) [.int .i64 r0, .slice s5 n5 c5, .int .i64 r1] 42 := by rw [← hqw1]; have hnew := blk_new ((w.alloc (.cells #[.slice s1 n1 c1, .slice s2 n2 c2, .slice s3 n3 c3] 32)).alloc (.cells #[.int .i64 p0, .slice s4 n4 c4, .int .i64 p1] 42)) [.int .i64 r0, .slice s5 n5 c5, .int .i64 r1] 42; (try simp only [World.size_alloc] at hnew); exact hnew
    have b2_0 : w1.cell? ⟨w.heap.size + 1 + 1, 0, none⟩ = some (.int .i64 r0) := HQw1_2.cell 0 rfl
    have b2_1 : w1.cell? ⟨w.heap.size + 1 + 1, 1, none⟩ = some (.slice s5 n5 c5) := HQw1_2.cell 1 rfl
    have b2_2 : w1.cell? ⟨w.heap.size + 1 + 1, 2, none⟩ = some (.int .i64 r1) := HQw1_2.cell 2 rfl
    have HRw1 := Lib.hid HQw1_2
    clear HQw1_2
    clear hqw1
    clear HRw1
    go_wp2_with fail
    refine (small_i _ _ _ (hP0.below hbw)).mono ?_
    rw [k0.out]
    rintro e w2 ⟨rfl, hbw2⟩
    replace b0_0 := cell_b b0_0 hbw2
    replace b0_1 := cell_b b0_1 hbw2
    replace b0_2 := cell_b b0_2 hbw2
    replace b1_0 := cell_b b1_0 hbw2
    replace b1_1 := cell_b b1_1 hbw2
    replace b1_2 := cell_b b1_2 hbw2
    replace b2_0 := cell_b b2_0 hbw2
    replace b2_1 := cell_b b2_1 hbw2
    replace b2_2 := cell_b b2_2 hbw2
    replace hbw := hbw.trans (hbw2.mono hbw.size)
    go_wp2_with fail
    go_ret
    exact ⟨rfl, hbw⟩
set_option maxRecDepth 100000 in
set_option maxHeartbeats 4000000 in
theorem betterIn_s (v va vb : Value) (g : Pa) (a b : Wo) (w : World) (hP : IsP w v g) (hA : IsW w va a) (hB : IsW w vb b) : Calls Try.prog 43 #[v, va, vb] w (Bb w (tf (BetIs g a b))) := by
  have hP0 := hP
  obtain ⟨_, _, _, rfl, ⟨s1, n1, c1, rfl, h1⟩, ⟨s2, n2, c2, rfl, h2⟩, ⟨s3, n3, c3, rfl, h3⟩⟩ := hP
  have hA0 := hA
  have hB0 := hB
  obtain ⟨p0, s4, n4, c4, p1, rfl⟩ := hA.form
  obtain ⟨r0, s5, n5, c5, r1, rfl⟩ := hB.form
  clear h1 h2 h3 hA hB
  rcases tf_cases (WorthIs g a) with ⟨k0, x0⟩ | ⟨k0, x0⟩
  · skip
    rcases tf_cases (WorthIs g b) with ⟨k1, x1⟩ | ⟨k1, x1⟩
    · skip
      rw [tf_congr (show BetIs g a b ↔ Bet g a b from ⟨fun h => h.2.2.2, fun h => ⟨x0.out.1, x0.out.2, x1.out.2, h⟩⟩)]
      go_enter Try.func43, Try.ntmps43
      go_wp2_with fail
      generalize hqw1 : ((w.alloc (.cells #[.slice s1 n1 c1, .slice s2 n2 c2, .slice s3 n3 c3] 32)).alloc (.cells #[.int .i64 p0, .slice s4 n4 c4, .int .i64 p1] 42)).alloc (.cells #[.int .i64 r0, .slice s5 n5 c5, .int .i64 r1] 42) = w1
      have hbw : Below w.heap.size w w1 := by rw [← hqw1]; exact (by repeat' (first | (with_reducible exact Below.refl _ _) | (with_reducible apply Below.alloc) | (with_reducible apply Below.drew) | (with_reducible apply below_drawn) | omega | (simp only [World.size_alloc, World.size_setCell, World.size_drew]; omega)))
      have hew1 := Lib.hid (show w1.heap.size = w.heap.size + 1 + 1 + 1 by rw [← hqw1]; simp)
      have hsw : w.heap.size + 3 ≤ w1.heap.size := by rw [← hqw1]; simp only [World.size_alloc]; omega
      have hswa : w.heap.size < w1.heap.size := by omega
      have hswb : w.heap.size + 1 < w1.heap.size := by omega
      have hswc : w.heap.size + 1 + 1 < w1.heap.size := by omega
      have HQw1_0 : Blk w1 (w.heap.size) [.slice s1 n1 c1, .slice s2 n2 c2, .slice s3 n3 c3] 32 := by rw [← hqw1]; have hnew := blk_new w [.slice s1 n1 c1, .slice s2 n2 c2, .slice s3 n3 c3] 32; (try simp only [World.size_alloc] at hnew); exact (Blk.alloc (Blk.alloc hnew _) _)
      have b0_0 : w1.cell? ⟨w.heap.size, 0, none⟩ = some (.slice s1 n1 c1) := HQw1_0.cell 0 rfl
      have b0_1 : w1.cell? ⟨w.heap.size, 1, none⟩ = some (.slice s2 n2 c2) := HQw1_0.cell 1 rfl
      have b0_2 : w1.cell? ⟨w.heap.size, 2, none⟩ = some (.slice s3 n3 c3) := HQw1_0.cell 2 rfl
      clear HQw1_0
      have HQw1_1 : Blk w1 (w.heap.size + 1) [.int .i64 p0, .slice s4 n4 c4, .int .i64 p1] 42 := by rw [← hqw1]; have hnew := blk_new (w.alloc (.cells #[.slice s1 n1 c1, .slice s2 n2 c2, .slice s3 n3 c3] 32)) [.int .i64 p0, .slice s4 n4 c4, .int .i64 p1] 42; (try simp only [World.size_alloc] at hnew); exact (Blk.alloc hnew _)
      have b1_0 : w1.cell? ⟨w.heap.size + 1, 0, none⟩ = some (.int .i64 p0) := HQw1_1.cell 0 rfl
      have b1_1 : w1.cell? ⟨w.heap.size + 1, 1, none⟩ = some (.slice s4 n4 c4) := HQw1_1.cell 1 rfl
      have b1_2 : w1.cell? ⟨w.heap.size + 1, 2, none⟩ = some (.int .i64 p1) := HQw1_1.cell 2 rfl
      clear HQw1_1
      have HQw1_2 : Blk w1 (w.heap.size + 1 + 1) [.int .i64 r0, .slice s5 n5 c5, .int .i64 r1] 42 := by rw [← hqw1]; have hnew := blk_new ((w.alloc (.cells #[.slice s1 n1 c1, .slice s2 n2 c2, .slice s3 n3 c3] 32)).alloc (.cells #[.int .i64 p0, .slice s4 n4 c4, .int .i64 p1] 42)) [.int .i64 r0, .slice s5 n5 c5, .int .i64 r1] 42; (try simp only [World.size_alloc] at hnew); exact hnew
      have b2_0 : w1.cell? ⟨w.heap.size + 1 + 1, 0, none⟩ = some (.int .i64 r0) := HQw1_2.cell 0 rfl
      have b2_1 : w1.cell? ⟨w.heap.size + 1 + 1, 1, none⟩ = some (.slice s5 n5 c5) := HQw1_2.cell 1 rfl
      have b2_2 : w1.cell? ⟨w.heap.size + 1 + 1, 2, none⟩ = some (.int .i64 r1) := HQw1_2.cell 2 rfl
      have HRw1 := Lib.hid HQw1_2
      clear HQw1_2
      clear hqw1
      clear HRw1
      go_wp2_with fail
      refine (worthOk_s _ _ _ _ _ (hP0.below hbw) (hA0.below hbw)).mono ?_
      rw [k0.out]
      rintro e w2 ⟨rfl, hbw2⟩
      replace b0_0 := cell_b b0_0 hbw2
      replace b0_1 := cell_b b0_1 hbw2
      replace b0_2 := cell_b b0_2 hbw2
      replace b1_0 := cell_b b1_0 hbw2
      replace b1_1 := cell_b b1_1 hbw2
      replace b1_2 := cell_b b1_2 hbw2
      replace b2_0 := cell_b b2_0 hbw2
      replace b2_1 := cell_b b2_1 hbw2
      replace b2_2 := cell_b b2_2 hbw2
      replace hbw := hbw.trans (hbw2.mono hbw.size)
      go_wp2_with fail
      refine (worthOk_s _ _ _ _ _ (hP0.below hbw) (hB0.below hbw)).mono ?_
      rw [k1.out]
      rintro e w3 ⟨rfl, hbw3⟩
      replace b0_0 := cell_b b0_0 hbw3
      replace b0_1 := cell_b b0_1 hbw3
      replace b0_2 := cell_b b0_2 hbw3
      replace b1_0 := cell_b b1_0 hbw3
      replace b1_1 := cell_b b1_1 hbw3
      replace b1_2 := cell_b b1_2 hbw3
      replace b2_0 := cell_b b2_0 hbw3
      replace b2_1 := cell_b b2_1 hbw3
      replace b2_2 := cell_b b2_2 hbw3
      replace hbw := hbw.trans (hbw3.mono hbw.size)
      go_wp2_with fail
      refine (better_s _ _ _ _ _ _ _ (hP0.below hbw) (hA0.below hbw) (hB0.below hbw) x0.out.1.1 x0.out.2.head x1.out.2.head).mono ?_
      rintro e w4 ⟨rfl, hbw4⟩
      replace b0_0 := cell_b b0_0 hbw4
      replace b0_1 := cell_b b0_1 hbw4
      replace b0_2 := cell_b b0_2 hbw4
      replace b1_0 := cell_b b1_0 hbw4
      replace b1_1 := cell_b b1_1 hbw4
      replace b1_2 := cell_b b1_2 hbw4
      replace b2_0 := cell_b b2_0 hbw4
      replace b2_1 := cell_b b2_1 hbw4
      replace b2_2 := cell_b b2_2 hbw4
      replace hbw := hbw.trans (hbw4.mono hbw.size)
      go_wp2_with fail
      go_ret
      exact ⟨rfl, hbw⟩
    · rw [tf_false (show ¬ BetIs g a b from fun h => x1.out ⟨h.1, h.2.2.1⟩)]
      go_enter Try.func43, Try.ntmps43
      go_wp2_with fail
      generalize hqw1 : ((w.alloc (.cells #[.slice s1 n1 c1, .slice s2 n2 c2, .slice s3 n3 c3] 32)).alloc (.cells #[.int .i64 p0, .slice s4 n4 c4, .int .i64 p1] 42)).alloc (.cells #[.int .i64 r0, .slice s5 n5 c5, .int .i64 r1] 42) = w1
      have hbw : Below w.heap.size w w1 := by rw [← hqw1]; exact (by repeat' (first | (with_reducible exact Below.refl _ _) | (with_reducible apply Below.alloc) | (with_reducible apply Below.drew) | (with_reducible apply below_drawn) | omega | (simp only [World.size_alloc, World.size_setCell, World.size_drew]; omega)))
      have hew1 := Lib.hid (show w1.heap.size = w.heap.size + 1 + 1 + 1 by rw [← hqw1]; simp)
      have hsw : w.heap.size + 3 ≤ w1.heap.size := by rw [← hqw1]; simp only [World.size_alloc]; omega
      have hswa : w.heap.size < w1.heap.size := by omega
      have hswb : w.heap.size + 1 < w1.heap.size := by omega
      have hswc : w.heap.size + 1 + 1 < w1.heap.size := by omega
      have HQw1_0 : Blk w1 (w.heap.size) [.slice s1 n1 c1, .slice s2 n2 c2, .slice s3 n3 c3] 32 := by rw [← hqw1]; have hnew := blk_new w [.slice s1 n1 c1, .slice s2 n2 c2, .slice s3 n3 c3] 32; (try simp only [World.size_alloc] at hnew); exact (Blk.alloc (Blk.alloc hnew _) _)
      have b0_0 : w1.cell? ⟨w.heap.size, 0, none⟩ = some (.slice s1 n1 c1) := HQw1_0.cell 0 rfl
      have b0_1 : w1.cell? ⟨w.heap.size, 1, none⟩ = some (.slice s2 n2 c2) := HQw1_0.cell 1 rfl
      have b0_2 : w1.cell? ⟨w.heap.size, 2, none⟩ = some (.slice s3 n3 c3) := HQw1_0.cell 2 rfl
      clear HQw1_0
      have HQw1_1 : Blk w1 (w.heap.size + 1) [.int .i64 p0, .slice s4 n4 c4, .int .i64 p1] 42 := by rw [← hqw1]; have hnew := blk_new (w.alloc (.cells #[.slice s1 n1 c1, .slice s2 n2 c2, .slice s3 n3 c3] 32)) [.int .i64 p0, .slice s4 n4 c4, .int .i64 p1] 42; (try simp only [World.size_alloc] at hnew); exact (Blk.alloc hnew _)
      have b1_0 : w1.cell? ⟨w.heap.size + 1, 0, none⟩ = some (.int .i64 p0) := HQw1_1.cell 0 rfl
      have b1_1 : w1.cell? ⟨w.heap.size + 1, 1, none⟩ = some (.slice s4 n4 c4) := HQw1_1.cell 1 rfl
      have b1_2 : w1.cell? ⟨w.heap.size + 1, 2, none⟩ = some (.int .i64 p1) := HQw1_1.cell 2 rfl
      clear HQw1_1
      have HQw1_2 : Blk w1 (w.heap.size + 1 + 1) [.int .i64 r0, .slice s5 n5 c5, .int .i64 r1] 42 := by rw [← hqw1]; have hnew := blk_new ((w.alloc (.cells #[.slice s1 n1 c1, .slice s2 n2 c2, .slice s3 n3 c3] 32)).alloc (.cells #[.int .i64 p0, .slice s4 n4 c4, .int .i64 p1] 42)) [.int .i64 r0, .slice s5 n5 c5, .int .i64 r1] 42; (try simp only [World.size_alloc] at hnew); exact hnew
      have b2_0 : w1.cell? ⟨w.heap.size + 1 + 1, 0, none⟩ = some (.int .i64 r0) := HQw1_2.cell 0 rfl
      have b2_1 : w1.cell? ⟨w.heap.size + 1 + 1, 1, none⟩ = some (.slice s5 n5 c5) := HQw1_2.cell 1 rfl
      have b2_2 : w1.cell? ⟨w.heap.size + 1 + 1, 2, none⟩ = some (.int .i64 r1) := HQw1_2.cell 2 rfl
      have HRw1 := Lib.hid HQw1_2
      clear HQw1_2
      clear hqw1
      clear HRw1
      go_wp2_with fail
      refine (worthOk_s _ _ _ _ _ (hP0.below hbw) (hA0.below hbw)).mono ?_
      rw [k0.out]
      rintro e w2 ⟨rfl, hbw2⟩
      replace b0_0 := cell_b b0_0 hbw2
      replace b0_1 := cell_b b0_1 hbw2
      replace b0_2 := cell_b b0_2 hbw2
      replace b1_0 := cell_b b1_0 hbw2
      replace b1_1 := cell_b b1_1 hbw2
      replace b1_2 := cell_b b1_2 hbw2
      replace b2_0 := cell_b b2_0 hbw2
      replace b2_1 := cell_b b2_1 hbw2
      replace b2_2 := cell_b b2_2 hbw2
      replace hbw := hbw.trans (hbw2.mono hbw.size)
      go_wp2_with fail
      refine (worthOk_s _ _ _ _ _ (hP0.below hbw) (hB0.below hbw)).mono ?_
      rw [k1.out]
      rintro e w3 ⟨rfl, hbw3⟩
      replace b0_0 := cell_b b0_0 hbw3
      replace b0_1 := cell_b b0_1 hbw3
      replace b0_2 := cell_b b0_2 hbw3
      replace b1_0 := cell_b b1_0 hbw3
      replace b1_1 := cell_b b1_1 hbw3
      replace b1_2 := cell_b b1_2 hbw3
      replace b2_0 := cell_b b2_0 hbw3
      replace b2_1 := cell_b b2_1 hbw3
      replace b2_2 := cell_b b2_2 hbw3
      replace hbw := hbw.trans (hbw3.mono hbw.size)
      go_wp2_with fail
      go_ret
      exact ⟨rfl, hbw⟩
  · rw [tf_false (show ¬ BetIs g a b from fun h => x0.out ⟨h.1, h.2.1⟩)]
    go_enter Try.func43, Try.ntmps43
    go_wp2_with fail
    generalize hqw1 : ((w.alloc (.cells #[.slice s1 n1 c1, .slice s2 n2 c2, .slice s3 n3 c3] 32)).alloc (.cells #[.int .i64 p0, .slice s4 n4 c4, .int .i64 p1] 42)).alloc (.cells #[.int .i64 r0, .slice s5 n5 c5, .int .i64 r1] 42) = w1
    have hbw : Below w.heap.size w w1 := by rw [← hqw1]; exact (by repeat' (first | (with_reducible exact Below.refl _ _) | (with_reducible apply Below.alloc) | (with_reducible apply Below.drew) | (with_reducible apply below_drawn) | omega | (simp only [World.size_alloc, World.size_setCell, World.size_drew]; omega)))
    have hew1 := Lib.hid (show w1.heap.size = w.heap.size + 1 + 1 + 1 by rw [← hqw1]; simp)
    have hsw : w.heap.size + 3 ≤ w1.heap.size := by rw [← hqw1]; simp only [World.size_alloc]; omega
    have hswa : w.heap.size < w1.heap.size := by omega
    have hswb : w.heap.size + 1 < w1.heap.size := by omega
    have hswc : w.heap.size + 1 + 1 < w1.heap.size := by omega
    have HQw1_0 : Blk w1 (w.heap.size) [.slice s1 n1 c1, .slice s2 n2 c2, .slice s3 n3 c3] 32 := by rw [← hqw1]; have hnew := blk_new w [.slice s1 n1 c1, .slice s2 n2 c2, .slice s3 n3 c3] 32; (try simp only [World.size_alloc] at hnew); exact (Blk.alloc (Blk.alloc hnew _) _)
    have b0_0 : w1.cell? ⟨w.heap.size, 0, none⟩ = some (.slice s1 n1 c1) := HQw1_0.cell 0 rfl
    have b0_1 : w1.cell? ⟨w.heap.size, 1, none⟩ = some (.slice s2 n2 c2) := HQw1_0.cell 1 rfl
    have b0_2 : w1.cell? ⟨w.heap.size, 2, none⟩ = some (.slice s3 n3 c3) := HQw1_0.cell 2 rfl
    clear HQw1_0
    have HQw1_1 : Blk w1 (w.heap.size + 1) [.int .i64 p0, .slice s4 n4 c4, .int .i64 p1] 42 := by rw [← hqw1]; have hnew := blk_new (w.alloc (.cells #[.slice s1 n1 c1, .slice s2 n2 c2, .slice s3 n3 c3] 32)) [.int .i64 p0, .slice s4 n4 c4, .int .i64 p1] 42; (try simp only [World.size_alloc] at hnew); exact (Blk.alloc hnew _)
    have b1_0 : w1.cell? ⟨w.heap.size + 1, 0, none⟩ = some (.int .i64 p0) := HQw1_1.cell 0 rfl
    have b1_1 : w1.cell? ⟨w.heap.size + 1, 1, none⟩ = some (.slice s4 n4 c4) := HQw1_1.cell 1 rfl
    have b1_2 : w1.cell? ⟨w.heap.size + 1, 2, none⟩ = some (.int .i64 p1) := HQw1_1.cell 2 rfl
    clear HQw1_1
    have HQw1_2 : Blk w1 (w.heap.size + 1 + 1) [.int .i64 r0, .slice s5 n5 c5, .int .i64 r1] 42 := by rw [← hqw1]; have hnew := blk_new ((w.alloc (.cells #[.slice s1 n1 c1, .slice s2 n2 c2, .slice s3 n3 c3] 32)).alloc (.cells #[.int .i64 p0, .slice s4 n4 c4, .int .i64 p1] 42)) [.int .i64 r0, .slice s5 n5 c5, .int .i64 r1] 42; (try simp only [World.size_alloc] at hnew); exact hnew
    have b2_0 : w1.cell? ⟨w.heap.size + 1 + 1, 0, none⟩ = some (.int .i64 r0) := HQw1_2.cell 0 rfl
    have b2_1 : w1.cell? ⟨w.heap.size + 1 + 1, 1, none⟩ = some (.slice s5 n5 c5) := HQw1_2.cell 1 rfl
    have b2_2 : w1.cell? ⟨w.heap.size + 1 + 1, 2, none⟩ = some (.int .i64 r1) := HQw1_2.cell 2 rfl
    have HRw1 := Lib.hid HQw1_2
    clear HQw1_2
    clear hqw1
    clear HRw1
    go_wp2_with fail
    refine (worthOk_s _ _ _ _ _ (hP0.below hbw) (hA0.below hbw)).mono ?_
    rw [k0.out]
    rintro e w2 ⟨rfl, hbw2⟩
    replace b0_0 := cell_b b0_0 hbw2
    replace b0_1 := cell_b b0_1 hbw2
    replace b0_2 := cell_b b0_2 hbw2
    replace b1_0 := cell_b b1_0 hbw2
    replace b1_1 := cell_b b1_1 hbw2
    replace b1_2 := cell_b b1_2 hbw2
    replace b2_0 := cell_b b2_0 hbw2
    replace b2_1 := cell_b b2_1 hbw2
    replace b2_2 := cell_b b2_2 hbw2
    replace hbw := hbw.trans (hbw2.mono hbw.size)
    go_wp2_with fail
    go_ret
    exact ⟨rfl, hbw⟩
end Go.Proofs.Ytdbojkdfpkgfcaa
