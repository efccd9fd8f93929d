/-
  For every input the law FnExactSolved returns true and leaves its arguments as they were: the program's Solved returns what the reference's returns. No condition.
-/
import Derived.Test.YthdioaeekhkgcaaZSvLaw
import Derived.Test.YthdioaeekhkgcaaZSvL3
import Derived.Test.YthdioaeekhkgcaaZSvCb
namespace Go.Proofs.Ythdioaeekhkgcaa.fnExactSolved
set_option linter.unusedVariables false
set_option linter.unusedSimpArgs false
open Go.RowKit
attribute [local go_sem ↓] Go.wp_at_zero Go.wp_at_succ
set_option maxRecDepth 100000 in
set_option maxHeartbeats 4000000 in
theorem walk (u0 : Value) (g0 : Pa) (w : World) (h0 : IsP w u0 g0) (wf0 : WfP g0) : Calls Try.prog 8 #[u0] w (Bb w true) := by
  obtain ⟨a0s0, a0n0, a0c0, a0s1, a0n1, a0c1, a0s2, a0n2, a0c2, rfl⟩ := h0.form
  by_cases hn_0 : ((szP g0 : Nat) : Int) ≤ 1048576
  · have hz_0 := lft_ok hn_0
    replace hn_0 : szP g0 ≤ 1048576 - (0) := by omega
    have hp_0 : (0 : Int) ≤ 1048576 - ((szP g0 : Nat) : Int) := by omega
    go_enter Try.func8, Try.ntmps8
    have hbw : Below w.heap.size w w := Below.refl _ _
    go_wp2_with fail
    generalize hqwm2 : w.alloc (.cells #[.slice a0s0 a0n0 a0c0, .slice a0s1 a0n1 a0c1, .slice a0s2 a0n2 a0c2] 27) = wm2
    have hywm2 : wm2.heap.size = w.heap.size + 1 := by rw [← hqwm2]; simp
    have hbwm2 : Below w.heap.size w wm2 := by rw [← hqwm2]; exact (by repeat' (first | (with_reducible exact Below.refl _ _) | (with_reducible apply Below.alloc) | (with_reducible apply Below.drew) | (with_reducible apply below_drawn) | omega | (simp only [World.size_alloc, World.size_setCell, World.size_drew]; omega)))
    have HQwm2_0 : Blk wm2 (w.heap.size) [.slice a0s0 a0n0 a0c0, .slice a0s1 a0n1 a0c1, .slice a0s2 a0n2 a0c2] 27 := by rw [← hqwm2]; have hnew := blk_new w [.slice a0s0 a0n0 a0c0, .slice a0s1 a0n1 a0c1, .slice a0s2 a0n2 a0c2] 27; (try simp only [World.size_alloc] at hnew); exact hnew
    have cf3 : wm2.cell? ⟨w.heap.size, 0, none⟩ = some (.slice a0s0 a0n0 a0c0) := HQwm2_0.cell 0 rfl
    have cf4 : wm2.cell? ⟨w.heap.size, 1, none⟩ = some (.slice a0s1 a0n1 a0c1) := HQwm2_0.cell 1 rfl
    have cf5 : wm2.cell? ⟨w.heap.size, 2, none⟩ = some (.slice a0s2 a0n2 a0c2) := HQwm2_0.cell 2 rfl
    clear HQwm2_0
    clear hqwm2
    replace hbw : Below w.heap.size w wm2 := hbw.trans (hbwm2.mono hbw.size)
    have hzwm2 : w.heap.size ≤ wm2.heap.size := hbwm2.size
    refine (szP_any _ _ _ _ (h0.below hbw) (by omega) (by omega)).mono ?_
    rw [hz_0]
    rintro e wc6 ⟨rfl, hbwc6⟩
    replace cf3 := cell_b cf3 hbwc6
    replace cf4 := cell_b cf4 hbwc6
    replace cf5 := cell_b cf5 hbwc6
    replace hbw : Below w.heap.size w wc6 := hbw.trans (hbwc6.mono hbw.size)
    have hzwc6 : wm2.heap.size ≤ wc6.heap.size := hbwc6.size
    go_wp2_with fail
    refine (toP_any _ _ _ (h0.below hbw) (by omega)).mono ?_
    rintro e wc7 ⟨x8s0, x8n0, x8c0, x8s1, x8n1, x8c1, x8s2, x8n2, x8c2, rfl, howc7, hbwc7⟩
    replace howc7 : OwnP wc6.heap.size wc7.heap.size wc7 (.agg #[.slice x8s0 x8n0 x8c0, .slice x8s1 x8n1 x8c1, .slice x8s2 x8n2 x8c2]) g0 := howc7
    replace cf3 := cell_b cf3 hbwc7
    replace cf4 := cell_b cf4 hbwc7
    replace cf5 := cell_b cf5 hbwc7
    replace hbw : Below w.heap.size w wc7 := hbw.trans (hbwc7.mono hbw.size)
    have hzwc7 : wc6.heap.size ≤ wc7.heap.size := hbwc7.size
    go_wp2_with fail
    refine (solved_s _ _ _ howc7.is).mono ?_
    rintro e wc9 ⟨y10s0, y10n0, y10c0, y10s1, y10n1, y10c1, rfl, howc9, hbwc9⟩
    replace howc9 : OwnN wc7.heap.size wc9.heap.size wc9 (.agg #[.slice y10s0 y10n0 y10c0, .slice y10s1 y10n1 y10c1]) (solN g0) := howc9
    replace cf3 := cell_b cf3 hbwc9
    replace cf4 := cell_b cf4 hbwc9
    replace cf5 := cell_b cf5 hbwc9
    replace howc7 := howc7.below hbwc9
    replace hbw : Below w.heap.size w wc9 := hbw.trans (hbwc9.mono hbw.size)
    have hzwc9 : wc7.heap.size ≤ wc9.heap.size := hbwc9.size
    have hl12 : w.heap.size < wc9.heap.size := by omega
    go_wp2_with fail
    generalize hqwm13 : wc9.alloc (.cells #[.slice y10s0 y10n0 y10c0, .slice y10s1 y10n1 y10c1] 47) = wm13
    have hywm13 : wm13.heap.size = wc9.heap.size + 1 := by rw [← hqwm13]; simp
    have hbwm13 : Below wc9.heap.size wc9 wm13 := by rw [← hqwm13]; exact (by repeat' (first | (with_reducible exact Below.refl _ _) | (with_reducible apply Below.alloc) | (with_reducible apply Below.drew) | (with_reducible apply below_drawn) | omega | (simp only [World.size_alloc, World.size_setCell, World.size_drew]; omega)))
    have HQwm13_0 : Blk wm13 (wc9.heap.size) [.slice y10s0 y10n0 y10c0, .slice y10s1 y10n1 y10c1] 47 := by rw [← hqwm13]; have hnew := blk_new wc9 [.slice y10s0 y10n0 y10c0, .slice y10s1 y10n1 y10c1] 47; (try simp only [World.size_alloc] at hnew); exact hnew
    have cf14 : wm13.cell? ⟨wc9.heap.size, 0, none⟩ = some (.slice y10s0 y10n0 y10c0) := HQwm13_0.cell 0 rfl
    have cf15 : wm13.cell? ⟨wc9.heap.size, 1, none⟩ = some (.slice y10s1 y10n1 y10c1) := HQwm13_0.cell 1 rfl
    clear HQwm13_0
    clear hqwm13
    replace cf3 := cell_b cf3 hbwm13
    replace cf4 := cell_b cf4 hbwm13
    replace cf5 := cell_b cf5 hbwm13
    replace howc7 := howc7.below hbwm13
    replace howc9 := howc9.below hbwm13
    replace hbw : Below w.heap.size w wm13 := hbw.trans (hbwm13.mono hbw.size)
    have hzwm13 : wc9.heap.size ≤ wm13.heap.size := hbwm13.size
    refine (toP_any _ _ _ (h0.below hbw) (by omega)).mono ?_
    rintro e wc16 ⟨x17s0, x17n0, x17c0, x17s1, x17n1, x17c1, x17s2, x17n2, x17c2, rfl, howc16, hbwc16⟩
    replace howc16 : OwnP wm13.heap.size wc16.heap.size wc16 (.agg #[.slice x17s0 x17n0 x17c0, .slice x17s1 x17n1 x17c1, .slice x17s2 x17n2 x17c2]) g0 := howc16
    replace cf3 := cell_b cf3 hbwc16
    replace cf4 := cell_b cf4 hbwc16
    replace cf5 := cell_b cf5 hbwc16
    replace cf14 := cell_b cf14 hbwc16
    replace cf15 := cell_b cf15 hbwc16
    replace howc7 := howc7.below hbwc16
    replace howc9 := howc9.below hbwc16
    replace hbw : Below w.heap.size w wc16 := hbw.trans (hbwc16.mono hbw.size)
    have hzwc16 : wm13.heap.size ≤ wc16.heap.size := hbwc16.size
    have hl19 : w.heap.size < wc16.heap.size := by omega
    have hl20 : wc9.heap.size < wc16.heap.size := by omega
    go_wp2_with fail
    generalize hqwm21 : wc16.alloc (.cells #[.slice x17s0 x17n0 x17c0, .slice x17s1 x17n1 x17c1, .slice x17s2 x17n2 x17c2] 32) = wm21
    have hywm21 : wm21.heap.size = wc16.heap.size + 1 := by rw [← hqwm21]; simp
    have hbwm21 : Below wc16.heap.size wc16 wm21 := by rw [← hqwm21]; exact (by repeat' (first | (with_reducible exact Below.refl _ _) | (with_reducible apply Below.alloc) | (with_reducible apply Below.drew) | (with_reducible apply below_drawn) | omega | (simp only [World.size_alloc, World.size_setCell, World.size_drew]; omega)))
    have HQwm21_0 : Blk wm21 (wc16.heap.size) [.slice x17s0 x17n0 x17c0, .slice x17s1 x17n1 x17c1, .slice x17s2 x17n2 x17c2] 32 := by rw [← hqwm21]; have hnew := blk_new wc16 [.slice x17s0 x17n0 x17c0, .slice x17s1 x17n1 x17c1, .slice x17s2 x17n2 x17c2] 32; (try simp only [World.size_alloc] at hnew); exact hnew
    have cf22 : wm21.cell? ⟨wc16.heap.size, 0, none⟩ = some (.slice x17s0 x17n0 x17c0) := HQwm21_0.cell 0 rfl
    have cf23 : wm21.cell? ⟨wc16.heap.size, 1, none⟩ = some (.slice x17s1 x17n1 x17c1) := HQwm21_0.cell 1 rfl
    have cf24 : wm21.cell? ⟨wc16.heap.size, 2, none⟩ = some (.slice x17s2 x17n2 x17c2) := HQwm21_0.cell 2 rfl
    clear HQwm21_0
    clear hqwm21
    replace cf3 := cell_b cf3 hbwm21
    replace cf4 := cell_b cf4 hbwm21
    replace cf5 := cell_b cf5 hbwm21
    replace cf14 := cell_b cf14 hbwm21
    replace cf15 := cell_b cf15 hbwm21
    replace howc7 := howc7.below hbwm21
    replace howc9 := howc9.below hbwm21
    replace howc16 := howc16.below hbwm21
    replace hbw : Below w.heap.size w wm21 := hbw.trans (hbwm21.mono hbw.size)
    have hzwm21 : wc16.heap.size ≤ wm21.heap.size := hbwm21.size
    refine (solved_i _ _ _ howc16.is).mono ?_
    rintro e wc25 ⟨y26s0, y26n0, y26c0, y26s1, y26n1, y26c1, rfl, howc25, hbwc25⟩
    replace howc25 : OwnN wm21.heap.size wc25.heap.size wc25 (.agg #[.slice y26s0 y26n0 y26c0, .slice y26s1 y26n1 y26c1]) (solN g0) := howc25
    replace cf3 := cell_b cf3 hbwc25
    replace cf4 := cell_b cf4 hbwc25
    replace cf5 := cell_b cf5 hbwc25
    replace cf14 := cell_b cf14 hbwc25
    replace cf15 := cell_b cf15 hbwc25
    replace cf22 := cell_b cf22 hbwc25
    replace cf23 := cell_b cf23 hbwc25
    replace cf24 := cell_b cf24 hbwc25
    replace howc7 := howc7.below hbwc25
    replace howc9 := howc9.below hbwc25
    replace howc16 := howc16.below hbwc25
    replace hbw : Below w.heap.size w wc25 := hbw.trans (hbwc25.mono hbw.size)
    have hzwc25 : wm21.heap.size ≤ wc25.heap.size := hbwc25.size
    have hlimwc25 : szN (solN g0) ≤ 1048576 := solN_sz g0
    have hl28 : w.heap.size < wc25.heap.size := by omega
    have hl29 : wc9.heap.size < wc25.heap.size := by omega
    have hl30 : wc16.heap.size < wc25.heap.size := by omega
    go_wp2_with fail
    generalize hqwm31 : wc25.alloc (.cells #[.slice y26s0 y26n0 y26c0, .slice y26s1 y26n1 y26c1] 47) = wm31
    have hywm31 : wm31.heap.size = wc25.heap.size + 1 := by rw [← hqwm31]; simp
    have hbwm31 : Below wc25.heap.size wc25 wm31 := by rw [← hqwm31]; exact (by repeat' (first | (with_reducible exact Below.refl _ _) | (with_reducible apply Below.alloc) | (with_reducible apply Below.drew) | (with_reducible apply below_drawn) | omega | (simp only [World.size_alloc, World.size_setCell, World.size_drew]; omega)))
    have HQwm31_0 : Blk wm31 (wc25.heap.size) [.slice y26s0 y26n0 y26c0, .slice y26s1 y26n1 y26c1] 47 := by rw [← hqwm31]; have hnew := blk_new wc25 [.slice y26s0 y26n0 y26c0, .slice y26s1 y26n1 y26c1] 47; (try simp only [World.size_alloc] at hnew); exact hnew
    have cf32 : wm31.cell? ⟨wc25.heap.size, 0, none⟩ = some (.slice y26s0 y26n0 y26c0) := HQwm31_0.cell 0 rfl
    have cf33 : wm31.cell? ⟨wc25.heap.size, 1, none⟩ = some (.slice y26s1 y26n1 y26c1) := HQwm31_0.cell 1 rfl
    clear HQwm31_0
    clear hqwm31
    replace cf3 := cell_b cf3 hbwm31
    replace cf4 := cell_b cf4 hbwm31
    replace cf5 := cell_b cf5 hbwm31
    replace cf14 := cell_b cf14 hbwm31
    replace cf15 := cell_b cf15 hbwm31
    replace cf22 := cell_b cf22 hbwm31
    replace cf23 := cell_b cf23 hbwm31
    replace cf24 := cell_b cf24 hbwm31
    replace howc7 := howc7.below hbwm31
    replace howc9 := howc9.below hbwm31
    replace howc16 := howc16.below hbwm31
    replace howc25 := howc25.below hbwm31
    replace hbw : Below w.heap.size w wm31 := hbw.trans (hbwm31.mono hbw.size)
    have hzwm31 : wc25.heap.size ≤ wm31.heap.size := hbwm31.size
    refine (eqN_any _ _ _ _ _ howc25.is howc9.is).mono ?_
    rw [tf_true rfl]
    rintro e wc34 ⟨rfl, hbwc34⟩
    replace cf3 := cell_b cf3 hbwc34
    replace cf4 := cell_b cf4 hbwc34
    replace cf5 := cell_b cf5 hbwc34
    replace cf14 := cell_b cf14 hbwc34
    replace cf15 := cell_b cf15 hbwc34
    replace cf22 := cell_b cf22 hbwc34
    replace cf23 := cell_b cf23 hbwc34
    replace cf24 := cell_b cf24 hbwc34
    replace cf32 := cell_b cf32 hbwc34
    replace cf33 := cell_b cf33 hbwc34
    replace howc7 := howc7.below hbwc34
    replace howc9 := howc9.below hbwc34
    replace howc16 := howc16.below hbwc34
    replace howc25 := howc25.below hbwc34
    replace hbw : Below w.heap.size w wc34 := hbw.trans (hbwc34.mono hbw.size)
    have hzwc34 : wm31.heap.size ≤ wc34.heap.size := hbwc34.size
    go_wp2_with fail
    go_region_held3 (fun w' => w'.cell? ⟨wc16.heap.size, 0, none⟩ = some (.slice x17s0 x17n0 x17c0) ∧ w'.cell? ⟨wc16.heap.size, 1, none⟩ = some (.slice x17s1 x17n1 x17c1) ∧ w'.cell? ⟨wc16.heap.size, 2, none⟩ = some (.slice x17s2 x17n2 x17c2) ∧ w'.cell? ⟨w.heap.size, 0, none⟩ = some (.slice a0s0 a0n0 a0c0) ∧ w'.cell? ⟨w.heap.size, 1, none⟩ = some (.slice a0s1 a0n1 a0c1) ∧ w'.cell? ⟨w.heap.size, 2, none⟩ = some (.slice a0s2 a0n2 a0c2)) (first | exact ⟨cf22, cf23, cf24, cf3, cf4, cf5⟩ | go_keep)
      (first
        | (go_at_call 17; (with_reducible refine (toP_any _ _ _ ((h0.below hbw)).drew (by omega)).mono ?_); rintro e wc35 ⟨x36s0, x36n0, x36c0, x36s1, x36n1, x36c1, x36s2, x36n2, x36c2, rfl, howc35, hbwc35⟩; replace howc35 : OwnP wc34.heap.size wc35.heap.size wc35 (.agg #[.slice x36s0 x36n0 x36c0, .slice x36s1 x36n1 x36c1, .slice x36s2 x36n2 x36c2]) g0 := howc35; replace hbwc35 : Below wc34.heap.size wc34 wc35 := (below_drew _).trans hbwc35; replace cf3 := cell_b cf3 hbwc35; replace cf4 := cell_b cf4 hbwc35; replace cf5 := cell_b cf5 hbwc35; replace cf14 := cell_b cf14 hbwc35; replace cf15 := cell_b cf15 hbwc35; replace cf22 := cell_b cf22 hbwc35; replace cf23 := cell_b cf23 hbwc35; replace cf24 := cell_b cf24 hbwc35; replace cf32 := cell_b cf32 hbwc35; replace cf33 := cell_b cf33 hbwc35; replace howc7 := howc7.below hbwc35; replace howc9 := howc9.below hbwc35; replace howc16 := howc16.below hbwc35; replace howc25 := howc25.below hbwc35; replace hbw : Below w.heap.size w wc35 := hbw.trans (hbwc35.mono hbw.size); have hzwc35 : wc34.heap.size ≤ wc35.heap.size := hbwc35.size)
        | (go_at_call 19; (with_reducible refine (eqP_any _ _ _ _ _ howc16.is howc35.is).mono ?_); rw [tf_true rfl]; rintro e wc37 ⟨rfl, hbwc37⟩; replace cf3 := cell_b cf3 hbwc37; replace cf4 := cell_b cf4 hbwc37; replace cf5 := cell_b cf5 hbwc37; replace cf14 := cell_b cf14 hbwc37; replace cf15 := cell_b cf15 hbwc37; replace cf22 := cell_b cf22 hbwc37; replace cf23 := cell_b cf23 hbwc37; replace cf24 := cell_b cf24 hbwc37; replace cf32 := cell_b cf32 hbwc37; replace cf33 := cell_b cf33 hbwc37; replace howc7 := howc7.below hbwc37; replace howc9 := howc9.below hbwc37; replace howc16 := howc16.below hbwc37; replace howc25 := howc25.below hbwc37; replace howc35 := howc35.below hbwc37; replace hbw : Below w.heap.size w wc37 := hbw.trans (hbwc37.mono hbw.size); have hzwc37 : wc35.heap.size ≤ wc37.heap.size := hbwc37.size))
    go_wp2_with fail
    refine (markP_any howc16 _ (by omega) (by omega) (by omega) (by omega)).mono ?_
    rintro e wc38 ⟨rfl, hmwc38, hOwc38⟩
    replace cf3 := cell_o cf3 hOwc38 (by omega)
    replace cf4 := cell_o cf4 hOwc38 (by omega)
    replace cf5 := cell_o cf5 hOwc38 (by omega)
    replace cf14 := cell_o cf14 hOwc38 (by omega)
    replace cf15 := cell_o cf15 hOwc38 (by omega)
    replace cf22 := cell_o cf22 hOwc38 (by omega)
    replace cf23 := cell_o cf23 hOwc38 (by omega)
    replace cf24 := cell_o cf24 hOwc38 (by omega)
    replace cf32 := cell_o cf32 hOwc38 (by omega)
    replace cf33 := cell_o cf33 hOwc38 (by omega)
    replace howc7 := howc7.out hOwc38 (by omega)
    replace howc9 := howc9.out hOwc38 (by omega)
    replace howc25 := howc25.out hOwc38 (by omega)
    replace howc35 := howc35.out hOwc38 (by omega)
    replace hbw : Below w.heap.size w wc38 := hbw.trans (hOwc38.below (by omega))
    have hzwc38 : wc37.heap.size ≤ wc38.heap.size := hOwc38.size
    go_wp2_with fail
    refine (eqN_any _ _ _ _ _ howc25.is howc9.is).mono ?_
    rw [tf_true rfl]
    rintro e wc39 ⟨rfl, hbwc39⟩
    replace cf3 := cell_b cf3 hbwc39
    replace cf4 := cell_b cf4 hbwc39
    replace cf5 := cell_b cf5 hbwc39
    replace cf14 := cell_b cf14 hbwc39
    replace cf15 := cell_b cf15 hbwc39
    replace cf22 := cell_b cf22 hbwc39
    replace cf23 := cell_b cf23 hbwc39
    replace cf24 := cell_b cf24 hbwc39
    replace cf32 := cell_b cf32 hbwc39
    replace cf33 := cell_b cf33 hbwc39
    replace howc7 := howc7.below hbwc39
    replace howc9 := howc9.below hbwc39
    replace howc25 := howc25.below hbwc39
    replace howc35 := howc35.below hbwc39
    replace hmwc38 := hmwc38.below hbwc39
    replace hbw : Below w.heap.size w wc39 := hbw.trans (hbwc39.mono hbw.size)
    have hzwc39 : wc38.heap.size ≤ wc39.heap.size := hbwc39.size
    go_wp2_with fail
    refine (markN_any howc25 _ (by omega) (by omega) (by omega) (by omega)).mono ?_
    rintro e wc40 ⟨rfl, hmwc40, hOwc40⟩
    replace cf3 := cell_o cf3 hOwc40 (by omega)
    replace cf4 := cell_o cf4 hOwc40 (by omega)
    replace cf5 := cell_o cf5 hOwc40 (by omega)
    replace cf14 := cell_o cf14 hOwc40 (by omega)
    replace cf15 := cell_o cf15 hOwc40 (by omega)
    replace cf22 := cell_o cf22 hOwc40 (by omega)
    replace cf23 := cell_o cf23 hOwc40 (by omega)
    replace cf24 := cell_o cf24 hOwc40 (by omega)
    replace cf32 := cell_o cf32 hOwc40 (by omega)
    replace cf33 := cell_o cf33 hOwc40 (by omega)
    replace howc7 := howc7.out hOwc40 (by omega)
    replace howc9 := howc9.out hOwc40 (by omega)
    replace howc35 := howc35.out hOwc40 (by omega)
    replace hmwc38 := hmwc38.out hOwc40 (by omega)
    replace hbw : Below w.heap.size w wc40 := hbw.trans (hOwc40.below (by omega))
    have hzwc40 : wc39.heap.size ≤ wc40.heap.size := hOwc40.size
    go_wp2_with fail
    refine (heldN_any _ _ hmwc40.is (by omega) (by omega) (by omega)).mono ?_
    rintro e wc41 ⟨rfl, hbwc41⟩
    replace cf3 := cell_b cf3 hbwc41
    replace cf4 := cell_b cf4 hbwc41
    replace cf5 := cell_b cf5 hbwc41
    replace cf14 := cell_b cf14 hbwc41
    replace cf15 := cell_b cf15 hbwc41
    replace cf22 := cell_b cf22 hbwc41
    replace cf23 := cell_b cf23 hbwc41
    replace cf24 := cell_b cf24 hbwc41
    replace cf32 := cell_b cf32 hbwc41
    replace cf33 := cell_b cf33 hbwc41
    replace howc7 := howc7.below hbwc41
    replace howc9 := howc9.below hbwc41
    replace howc35 := howc35.below hbwc41
    replace hmwc38 := hmwc38.below hbwc41
    replace hmwc40 := hmwc40.below hbwc41
    replace hbw : Below w.heap.size w wc41 := hbw.trans (hbwc41.mono hbw.size)
    have hzwc41 : wc40.heap.size ≤ wc41.heap.size := hbwc41.size
    go_wp2_with fail
    refine (toP_any _ _ _ (h0.below hbw) (by omega)).mono ?_
    rintro e wc42 ⟨x43s0, x43n0, x43c0, x43s1, x43n1, x43c1, x43s2, x43n2, x43c2, rfl, howc42, hbwc42⟩
    replace howc42 : OwnP wc41.heap.size wc42.heap.size wc42 (.agg #[.slice x43s0 x43n0 x43c0, .slice x43s1 x43n1 x43c1, .slice x43s2 x43n2 x43c2]) g0 := howc42
    replace cf3 := cell_b cf3 hbwc42
    replace cf4 := cell_b cf4 hbwc42
    replace cf5 := cell_b cf5 hbwc42
    replace cf14 := cell_b cf14 hbwc42
    replace cf15 := cell_b cf15 hbwc42
    replace cf22 := cell_b cf22 hbwc42
    replace cf23 := cell_b cf23 hbwc42
    replace cf24 := cell_b cf24 hbwc42
    replace cf32 := cell_b cf32 hbwc42
    replace cf33 := cell_b cf33 hbwc42
    replace howc7 := howc7.below hbwc42
    replace howc9 := howc9.below hbwc42
    replace howc35 := howc35.below hbwc42
    replace hmwc38 := hmwc38.below hbwc42
    replace hmwc40 := hmwc40.below hbwc42
    replace hbw : Below w.heap.size w wc42 := hbw.trans (hbwc42.mono hbw.size)
    have hzwc42 : wc41.heap.size ≤ wc42.heap.size := hbwc42.size
    go_wp2_with fail
    refine (solved_i _ _ _ howc42.is).mono ?_
    rintro e wc44 ⟨y45s0, y45n0, y45c0, y45s1, y45n1, y45c1, rfl, howc44, hbwc44⟩
    replace howc44 : OwnN wc42.heap.size wc44.heap.size wc44 (.agg #[.slice y45s0 y45n0 y45c0, .slice y45s1 y45n1 y45c1]) (solN g0) := howc44
    replace cf3 := cell_b cf3 hbwc44
    replace cf4 := cell_b cf4 hbwc44
    replace cf5 := cell_b cf5 hbwc44
    replace cf14 := cell_b cf14 hbwc44
    replace cf15 := cell_b cf15 hbwc44
    replace cf22 := cell_b cf22 hbwc44
    replace cf23 := cell_b cf23 hbwc44
    replace cf24 := cell_b cf24 hbwc44
    replace cf32 := cell_b cf32 hbwc44
    replace cf33 := cell_b cf33 hbwc44
    replace howc7 := howc7.below hbwc44
    replace howc9 := howc9.below hbwc44
    replace howc35 := howc35.below hbwc44
    replace hmwc38 := hmwc38.below hbwc44
    replace hmwc40 := hmwc40.below hbwc44
    replace howc42 := howc42.below hbwc44
    replace hbw : Below w.heap.size w wc44 := hbw.trans (hbwc44.mono hbw.size)
    have hzwc44 : wc42.heap.size ≤ wc44.heap.size := hbwc44.size
    have hlimwc44 : szN (solN g0) ≤ 1048576 := solN_sz g0
    have hl47 : w.heap.size < wc44.heap.size := by omega
    have hl48 : wc9.heap.size < wc44.heap.size := by omega
    have hl49 : wc16.heap.size < wc44.heap.size := by omega
    have hl50 : wc25.heap.size < wc44.heap.size := by omega
    go_wp2_with fail
    generalize hqwm51 : wc44.alloc (.cells #[.slice y45s0 y45n0 y45c0, .slice y45s1 y45n1 y45c1] 47) = wm51
    have hywm51 : wm51.heap.size = wc44.heap.size + 1 := by rw [← hqwm51]; simp
    have hbwm51 : Below wc44.heap.size wc44 wm51 := by rw [← hqwm51]; exact (by repeat' (first | (with_reducible exact Below.refl _ _) | (with_reducible apply Below.alloc) | (with_reducible apply Below.drew) | (with_reducible apply below_drawn) | omega | (simp only [World.size_alloc, World.size_setCell, World.size_drew]; omega)))
    have HQwm51_0 : Blk wm51 (wc44.heap.size) [.slice y45s0 y45n0 y45c0, .slice y45s1 y45n1 y45c1] 47 := by rw [← hqwm51]; have hnew := blk_new wc44 [.slice y45s0 y45n0 y45c0, .slice y45s1 y45n1 y45c1] 47; (try simp only [World.size_alloc] at hnew); exact hnew
    have cf52 : wm51.cell? ⟨wc44.heap.size, 0, none⟩ = some (.slice y45s0 y45n0 y45c0) := HQwm51_0.cell 0 rfl
    have cf53 : wm51.cell? ⟨wc44.heap.size, 1, none⟩ = some (.slice y45s1 y45n1 y45c1) := HQwm51_0.cell 1 rfl
    clear HQwm51_0
    clear hqwm51
    replace cf3 := cell_b cf3 hbwm51
    replace cf4 := cell_b cf4 hbwm51
    replace cf5 := cell_b cf5 hbwm51
    replace cf14 := cell_b cf14 hbwm51
    replace cf15 := cell_b cf15 hbwm51
    replace cf22 := cell_b cf22 hbwm51
    replace cf23 := cell_b cf23 hbwm51
    replace cf24 := cell_b cf24 hbwm51
    replace cf32 := cell_b cf32 hbwm51
    replace cf33 := cell_b cf33 hbwm51
    replace howc7 := howc7.below hbwm51
    replace howc9 := howc9.below hbwm51
    replace howc35 := howc35.below hbwm51
    replace hmwc38 := hmwc38.below hbwm51
    replace hmwc40 := hmwc40.below hbwm51
    replace howc42 := howc42.below hbwm51
    replace howc44 := howc44.below hbwm51
    replace hbw : Below w.heap.size w wm51 := hbw.trans (hbwm51.mono hbw.size)
    have hzwm51 : wc44.heap.size ≤ wm51.heap.size := hbwm51.size
    refine (eqN_any _ _ _ _ _ howc44.is howc9.is).mono ?_
    rw [tf_true rfl]
    rintro e wc54 ⟨rfl, hbwc54⟩
    replace cf3 := cell_b cf3 hbwc54
    replace cf4 := cell_b cf4 hbwc54
    replace cf5 := cell_b cf5 hbwc54
    replace cf14 := cell_b cf14 hbwc54
    replace cf15 := cell_b cf15 hbwc54
    replace cf22 := cell_b cf22 hbwc54
    replace cf23 := cell_b cf23 hbwc54
    replace cf24 := cell_b cf24 hbwc54
    replace cf32 := cell_b cf32 hbwc54
    replace cf33 := cell_b cf33 hbwc54
    replace cf52 := cell_b cf52 hbwc54
    replace cf53 := cell_b cf53 hbwc54
    replace howc7 := howc7.below hbwc54
    replace howc9 := howc9.below hbwc54
    replace howc35 := howc35.below hbwc54
    replace hmwc38 := hmwc38.below hbwc54
    replace hmwc40 := hmwc40.below hbwc54
    replace howc42 := howc42.below hbwc54
    replace howc44 := howc44.below hbwc54
    replace hbw : Below w.heap.size w wc54 := hbw.trans (hbwc54.mono hbw.size)
    have hzwc54 : wm51.heap.size ≤ wc54.heap.size := hbwc54.size
    go_wp2_with fail
    refine (heldN_any _ _ hmwc40.is (by omega) (by omega) (by omega)).mono ?_
    rintro e wc55 ⟨rfl, hbwc55⟩
    replace cf3 := cell_b cf3 hbwc55
    replace cf4 := cell_b cf4 hbwc55
    replace cf5 := cell_b cf5 hbwc55
    replace cf14 := cell_b cf14 hbwc55
    replace cf15 := cell_b cf15 hbwc55
    replace cf22 := cell_b cf22 hbwc55
    replace cf23 := cell_b cf23 hbwc55
    replace cf24 := cell_b cf24 hbwc55
    replace cf32 := cell_b cf32 hbwc55
    replace cf33 := cell_b cf33 hbwc55
    replace cf52 := cell_b cf52 hbwc55
    replace cf53 := cell_b cf53 hbwc55
    replace howc7 := howc7.below hbwc55
    replace howc9 := howc9.below hbwc55
    replace howc35 := howc35.below hbwc55
    replace hmwc38 := hmwc38.below hbwc55
    replace hmwc40 := hmwc40.below hbwc55
    replace howc42 := howc42.below hbwc55
    replace howc44 := howc44.below hbwc55
    replace hbw : Below w.heap.size w wc55 := hbw.trans (hbwc55.mono hbw.size)
    have hzwc55 : wc54.heap.size ≤ wc55.heap.size := hbwc55.size
    go_wp2_with fail
    go_ret
    exact ⟨rfl, hbw⟩
  · have hz_0 := lft_no (l := 1048576) (n := szP g0) (by omega)
    go_enter Try.func8, Try.ntmps8
    have hbw : Below w.heap.size w w := Below.refl _ _
    go_wp2_with fail
    generalize hqwm2 : w.alloc (.cells #[.slice a0s0 a0n0 a0c0, .slice a0s1 a0n1 a0c1, .slice a0s2 a0n2 a0c2] 27) = wm2
    have hywm2 : wm2.heap.size = w.heap.size + 1 := by rw [← hqwm2]; simp
    have hbwm2 : Below w.heap.size w wm2 := by rw [← hqwm2]; exact (by repeat' (first | (with_reducible exact Below.refl _ _) | (with_reducible apply Below.alloc) | (with_reducible apply Below.drew) | (with_reducible apply below_drawn) | omega | (simp only [World.size_alloc, World.size_setCell, World.size_drew]; omega)))
    have HQwm2_0 : Blk wm2 (w.heap.size) [.slice a0s0 a0n0 a0c0, .slice a0s1 a0n1 a0c1, .slice a0s2 a0n2 a0c2] 27 := by rw [← hqwm2]; have hnew := blk_new w [.slice a0s0 a0n0 a0c0, .slice a0s1 a0n1 a0c1, .slice a0s2 a0n2 a0c2] 27; (try simp only [World.size_alloc] at hnew); exact hnew
    have cf3 : wm2.cell? ⟨w.heap.size, 0, none⟩ = some (.slice a0s0 a0n0 a0c0) := HQwm2_0.cell 0 rfl
    have cf4 : wm2.cell? ⟨w.heap.size, 1, none⟩ = some (.slice a0s1 a0n1 a0c1) := HQwm2_0.cell 1 rfl
    have cf5 : wm2.cell? ⟨w.heap.size, 2, none⟩ = some (.slice a0s2 a0n2 a0c2) := HQwm2_0.cell 2 rfl
    clear HQwm2_0
    clear hqwm2
    replace hbw : Below w.heap.size w wm2 := hbw.trans (hbwm2.mono hbw.size)
    have hzwm2 : w.heap.size ≤ wm2.heap.size := hbwm2.size
    refine (szP_any _ _ _ _ (h0.below hbw) (by omega) (by omega)).mono ?_
    rw [hz_0]
    rintro e wc6 ⟨rfl, hbwc6⟩
    replace cf3 := cell_b cf3 hbwc6
    replace cf4 := cell_b cf4 hbwc6
    replace cf5 := cell_b cf5 hbwc6
    replace hbw : Below w.heap.size w wc6 := hbw.trans (hbwc6.mono hbw.size)
    have hzwc6 : wm2.heap.size ≤ wc6.heap.size := hbwc6.size
    go_wp2_with fail
    go_ret
    exact ⟨rfl, hbw⟩
open Go.ChangeShapes Go.WideShapes Go.ChangeAt
theorem rec : ∀ t ∈ Try.f8.params.toList, Try.prog.readableRec t = true ∧ t < Try.prog.types.size := by
  rw [Try.params8]
  intro t ht
  simp only [List.mem_cons, List.not_mem_nil, or_false] at ht
  rcases ht with rfl
  all_goals exact ⟨by kernel_rfl, of_decide_eq_true (by kernel_rfl)⟩
set_option maxRecDepth 100000 in
theorem lifted (os : Os) (started : os.Started) (H : Type) (enc : TypeId × Value → H) :
    ReturnsInHanded {} Try.checked os 8 .any (Rows.fnExactSolvedSpec.pre6 enc Try.prog Try.f8 Rows.fnExactSolvedRow.domain false) (Rows.fnExactSolvedSpec.post enc Try.prog Try.f8 false true false false) := by
  refine returnsInHanded_of_change (C := Try.checked) own started (by kernel_rfl) Try.func8
    (ChangeSpec.witness6 (enc := enc) (C := Try.checked) false ⟨#[], #[.agg #[.slice none 0 0, .slice none 0 0, .slice none 0 0]], []⟩ 8 (by kernel_rfl) (by kernel_rfl) (by kernel_rfl) (by kernel_rfl)) ?_
  intro W base args ds gs before hval0 hW hcnd _
  have hval : ∀ (j : Nat) t v, Try.f8.params[j]? = some t → args[j]? = some v → Value.okWide Try.prog W .any base t v := hval0
  have hW' := hW
  obtain ⟨p, q, hA0, hV, rfl, hfz, hnd⟩ := hW
  have hA : DataW.TrodAll enc Try.prog W 0 (fun _ => true) true Try.f8.params.toList args.toList ds p := hA0
  rw [Try.params8] at hA hval
  obtain ⟨v0, vs0, d0, ds0, p0, q0, hargs, rfl, rfl, t0, r0⟩ := trodAll_cons hA
  obtain ⟨rfl, rfl, rfl⟩ := trodAll_nil r0
  obtain rfl : args = #[v0] := by cases args; simp_all
  obtain ⟨rfl, rfl⟩ := trodVars_none hV
  obtain ⟨g0, h0, wf0⟩ := openP (hval 0 _ v0 rfl rfl) t0
  clear hA0 hval0
  refine (walk v0 g0 W h0 wf0).mono fun e W' ⟨he, hb⟩ => ?_
  subst he
  exact ⟨_, rfl, law_post laid rec (by kernel_rfl) rfl rfl hW' hb⟩
theorem over : Rows.fnExactSolvedRow.holds Try.pinned (OpenSpec.ofChange Rows.fnExactSolvedSpec) :=
  OpenClaim.holds_of_wide 8 Try.f8 rfl rfl rfl rfl rfl rfl rfl ⟨rfl, rfl, rfl, rfl, rfl⟩ rfl rfl rfl rfl rfl (by kernel_rfl) Try.func8 (by kernel_rfl)
    (of_decide_eq_true (by kernel_rfl)) (by unfold Func.isWrapper; first | (rw [if_pos (by decide +kernel)]; kernel_rfl) | (rw [if_neg (by decide +kernel)]; exact ⟨rfl, rfl⟩))
    (fun os started H enc _ => lifted os started H enc)
theorem proved : Rows.FnExactSolvedSaid := over
#print axioms proved
end Go.Proofs.Ythdioaeekhkgcaa.fnExactSolved
