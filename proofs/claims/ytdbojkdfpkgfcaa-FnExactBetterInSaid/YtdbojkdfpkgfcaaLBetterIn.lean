/-
  For every input the law FnExactBetterIn returns true and leaves its arguments as they were: the program's BetterIn returns what the reference's returns. No condition.
-/
import Derived.Test.YtdbojkdfpkgfcaaLawX
import Derived.Test.YtdbojkdfpkgfcaaBet4
namespace Go.Proofs.Ytdbojkdfpkgfcaa.fnExactBetterIn
set_option linter.unusedVariables false
set_option linter.unusedSimpArgs false
open Go.RowKit
attribute [local go_sem ↓] Go.wp_at_zero Go.wp_at_succ

set_option maxRecDepth 100000 in
set_option maxHeartbeats 4000000 in
theorem walk (u0 : Value) (g0 : Pa) (u1 : Value) (g1 : Wo) (u2 : Value) (g2 : Wo) (w : World) (h0 : IsP w u0 g0) (h1 : IsW w u1 g1) (h2 : IsW w u2 g2) (wf0 : WfP g0) (wf1 : WfW g1) (wf2 : WfW g2) : Calls Try.prog 10 #[u0, u1, u2] w (Bb w true) := by
  obtain ⟨a0s0, a0n0, a0c0, a0s1, a0n1, a0c1, a0s2, a0n2, a0c2, rfl⟩ := h0.form
  obtain ⟨a1v0, a1s1, a1n1, a1c1, a1v2, rfl⟩ := h1.form
  obtain ⟨a2v0, a2s1, a2n1, a2c1, a2v2, rfl⟩ := h2.form
  by_cases hn_0 : ((szP g0 : Nat) : Int) ≤ 1048576
  · have hz_0 := lft_ok hn_0
    replace hn_0 : szP g0 ≤ 1048576 - (0) := by omega
    have hp_0 : (0 : Int) ≤ 1048576 - ((szP g0 : Nat) : Int) := by omega
    by_cases hn_1 : ((szW g1 : Nat) : Int) ≤ 1048576 - ((szP g0 : Nat) : Int)
    · have hz_1 := lft_ok hn_1
      replace hn_1 : szW g1 ≤ 1048576 - (0 + szP g0) := by omega
      have hp_1 : (0 : Int) ≤ 1048576 - ((szP g0 : Nat) : Int) - ((szW g1 : Nat) : Int) := by omega
      by_cases hn_2 : ((szW g2 : Nat) : Int) ≤ 1048576 - ((szP g0 : Nat) : Int) - ((szW g1 : Nat) : Int)
      · have hz_2 := lft_ok hn_2
        replace hn_2 : szW g2 ≤ 1048576 - (0 + szP g0 + szW g1) := by omega
        have hp_2 : (0 : Int) ≤ 1048576 - ((szP g0 : Nat) : Int) - ((szW g1 : Nat) : Int) - ((szW g2 : Nat) : Int) := by omega
        go_enter Try.func10, Try.ntmps10
        have hbw : Below w.heap.size w w := Below.refl _ _
        go_wp2_with fail
        generalize hqwm4 : ((w.alloc (.cells #[.slice a0s0 a0n0 a0c0, .slice a0s1 a0n1 a0c1, .slice a0s2 a0n2 a0c2] 27)).alloc (.cells #[.int .i64 a1v0, .slice a1s1 a1n1 a1c1, .int .i64 a1v2] 39)).alloc (.cells #[.int .i64 a2v0, .slice a2s1 a2n1 a2c1, .int .i64 a2v2] 39) = wm4
        have hywm4 : wm4.heap.size = w.heap.size + 3 := by rw [← hqwm4]; simp
        have hbwm4 : Below w.heap.size w wm4 := by rw [← hqwm4]; exact (by repeat' (first | (with_reducible exact Below.refl _ _) | (with_reducible apply Below.alloc) | (with_reducible apply Below.drew) | (with_reducible apply below_drawn) | omega | (simp only [World.size_alloc, World.size_setCell, World.size_drew]; omega)))
        have HQwm4_0 : Blk wm4 (w.heap.size) [.slice a0s0 a0n0 a0c0, .slice a0s1 a0n1 a0c1, .slice a0s2 a0n2 a0c2] 27 := by rw [← hqwm4]; have hnew := blk_new w [.slice a0s0 a0n0 a0c0, .slice a0s1 a0n1 a0c1, .slice a0s2 a0n2 a0c2] 27; (try simp only [World.size_alloc] at hnew); exact (Blk.alloc (Blk.alloc hnew _) _)
        have cf5 : wm4.cell? ⟨w.heap.size, 0, none⟩ = some (.slice a0s0 a0n0 a0c0) := HQwm4_0.cell 0 rfl
        have cf6 : wm4.cell? ⟨w.heap.size, 1, none⟩ = some (.slice a0s1 a0n1 a0c1) := HQwm4_0.cell 1 rfl
        have cf7 : wm4.cell? ⟨w.heap.size, 2, none⟩ = some (.slice a0s2 a0n2 a0c2) := HQwm4_0.cell 2 rfl
        clear HQwm4_0
        have HQwm4_1 : Blk wm4 (w.heap.size + 1) [.int .i64 a1v0, .slice a1s1 a1n1 a1c1, .int .i64 a1v2] 39 := by rw [← hqwm4]; have hnew := blk_new (w.alloc (.cells #[.slice a0s0 a0n0 a0c0, .slice a0s1 a0n1 a0c1, .slice a0s2 a0n2 a0c2] 27)) [.int .i64 a1v0, .slice a1s1 a1n1 a1c1, .int .i64 a1v2] 39; (try simp only [World.size_alloc] at hnew); exact (Blk.alloc hnew _)
        have cf8 : wm4.cell? ⟨w.heap.size + 1, 0, none⟩ = some (.int .i64 a1v0) := HQwm4_1.cell 0 rfl
        have cf9 : wm4.cell? ⟨w.heap.size + 1, 1, none⟩ = some (.slice a1s1 a1n1 a1c1) := HQwm4_1.cell 1 rfl
        have cf10 : wm4.cell? ⟨w.heap.size + 1, 2, none⟩ = some (.int .i64 a1v2) := HQwm4_1.cell 2 rfl
        clear HQwm4_1
        have HQwm4_2 : Blk wm4 (w.heap.size + 1 + 1) [.int .i64 a2v0, .slice a2s1 a2n1 a2c1, .int .i64 a2v2] 39 := by rw [← hqwm4]; have hnew := blk_new ((w.alloc (.cells #[.slice a0s0 a0n0 a0c0, .slice a0s1 a0n1 a0c1, .slice a0s2 a0n2 a0c2] 27)).alloc (.cells #[.int .i64 a1v0, .slice a1s1 a1n1 a1c1, .int .i64 a1v2] 39)) [.int .i64 a2v0, .slice a2s1 a2n1 a2c1, .int .i64 a2v2] 39; (try simp only [World.size_alloc] at hnew); exact hnew
        have cf11 : wm4.cell? ⟨w.heap.size + 1 + 1, 0, none⟩ = some (.int .i64 a2v0) := HQwm4_2.cell 0 rfl
        have cf12 : wm4.cell? ⟨w.heap.size + 1 + 1, 1, none⟩ = some (.slice a2s1 a2n1 a2c1) := HQwm4_2.cell 1 rfl
        have cf13 : wm4.cell? ⟨w.heap.size + 1 + 1, 2, none⟩ = some (.int .i64 a2v2) := HQwm4_2.cell 2 rfl
        clear HQwm4_2
        clear hqwm4
        replace hbw : Below w.heap.size w wm4 := hbw.trans (hbwm4.mono hbw.size)
        have hzwm4 : w.heap.size ≤ wm4.heap.size := hbwm4.size
        refine (szP_any _ _ _ _ (h0.below hbw) (by omega) (by omega)).mono ?_
        rw [hz_0]
        rintro e wc14 ⟨rfl, hbwc14⟩
        replace cf5 := cell_b cf5 hbwc14
        replace cf6 := cell_b cf6 hbwc14
        replace cf7 := cell_b cf7 hbwc14
        replace cf8 := cell_b cf8 hbwc14
        replace cf9 := cell_b cf9 hbwc14
        replace cf10 := cell_b cf10 hbwc14
        replace cf11 := cell_b cf11 hbwc14
        replace cf12 := cell_b cf12 hbwc14
        replace cf13 := cell_b cf13 hbwc14
        replace hbw : Below w.heap.size w wc14 := hbw.trans (hbwc14.mono hbw.size)
        have hzwc14 : wm4.heap.size ≤ wc14.heap.size := hbwc14.size
        go_wp2_with fail
        refine (szW_any _ _ _ _ (h1.below hbw) (by omega) (by omega)).mono ?_
        rw [hz_1]
        rintro e wc15 ⟨rfl, hbwc15⟩
        replace cf5 := cell_b cf5 hbwc15
        replace cf6 := cell_b cf6 hbwc15
        replace cf7 := cell_b cf7 hbwc15
        replace cf8 := cell_b cf8 hbwc15
        replace cf9 := cell_b cf9 hbwc15
        replace cf10 := cell_b cf10 hbwc15
        replace cf11 := cell_b cf11 hbwc15
        replace cf12 := cell_b cf12 hbwc15
        replace cf13 := cell_b cf13 hbwc15
        replace hbw : Below w.heap.size w wc15 := hbw.trans (hbwc15.mono hbw.size)
        have hzwc15 : wc14.heap.size ≤ wc15.heap.size := hbwc15.size
        go_wp2_with fail
        refine (szW_any _ _ _ _ (h2.below hbw) (by omega) (by omega)).mono ?_
        rw [hz_2]
        rintro e wc16 ⟨rfl, hbwc16⟩
        replace cf5 := cell_b cf5 hbwc16
        replace cf6 := cell_b cf6 hbwc16
        replace cf7 := cell_b cf7 hbwc16
        replace cf8 := cell_b cf8 hbwc16
        replace cf9 := cell_b cf9 hbwc16
        replace cf10 := cell_b cf10 hbwc16
        replace cf11 := cell_b cf11 hbwc16
        replace cf12 := cell_b cf12 hbwc16
        replace cf13 := cell_b cf13 hbwc16
        replace hbw : Below w.heap.size w wc16 := hbw.trans (hbwc16.mono hbw.size)
        have hzwc16 : wc15.heap.size ≤ wc16.heap.size := hbwc16.size
        go_wp2_with fail
        go_region_held3 (fun w' => w'.cell? ⟨w.heap.size, 0, none⟩ = some (.slice a0s0 a0n0 a0c0) ∧ w'.cell? ⟨w.heap.size, 1, none⟩ = some (.slice a0s1 a0n1 a0c1) ∧ w'.cell? ⟨w.heap.size, 2, none⟩ = some (.slice a0s2 a0n2 a0c2) ∧ w'.cell? ⟨w.heap.size + 1, 0, none⟩ = some (.int .i64 a1v0) ∧ w'.cell? ⟨w.heap.size + 1, 1, none⟩ = some (.slice a1s1 a1n1 a1c1) ∧ w'.cell? ⟨w.heap.size + 1, 2, none⟩ = some (.int .i64 a1v2) ∧ w'.cell? ⟨w.heap.size + 1 + 1, 0, none⟩ = some (.int .i64 a2v0) ∧ w'.cell? ⟨w.heap.size + 1 + 1, 1, none⟩ = some (.slice a2s1 a2n1 a2c1) ∧ w'.cell? ⟨w.heap.size + 1 + 1, 2, none⟩ = some (.int .i64 a2v2)) (first | exact ⟨cf5, cf6, cf7, cf8, cf9, cf10, cf11, cf12, cf13⟩ | go_keep)
          (first
            | (go_at_call 17; (with_reducible refine (toP_any _ _ _ ((h0.below hbw)).drew (by omega)).mono ?_); rintro e wc17 ⟨x18s0, x18n0, x18c0, x18s1, x18n1, x18c1, x18s2, x18n2, x18c2, rfl, howc17, hbwc17⟩; replace howc17 : OwnP wc16.heap.size wc17.heap.size wc17 (.agg #[.slice x18s0 x18n0 x18c0, .slice x18s1 x18n1 x18c1, .slice x18s2 x18n2 x18c2]) g0 := howc17; replace hbwc17 : Below wc16.heap.size wc16 wc17 := (below_drew _).trans hbwc17; replace cf5 := cell_b cf5 hbwc17; replace cf6 := cell_b cf6 hbwc17; replace cf7 := cell_b cf7 hbwc17; replace cf8 := cell_b cf8 hbwc17; replace cf9 := cell_b cf9 hbwc17; replace cf10 := cell_b cf10 hbwc17; replace cf11 := cell_b cf11 hbwc17; replace cf12 := cell_b cf12 hbwc17; replace cf13 := cell_b cf13 hbwc17; replace hbw : Below w.heap.size w wc17 := hbw.trans (hbwc17.mono hbw.size); have hzwc17 : wc16.heap.size ≤ wc17.heap.size := hbwc17.size)
            | (go_at_call 26; (with_reducible refine (toW_any _ _ _ (h1.below hbw) (by omega)).mono ?_); rintro e wc19 ⟨x20v0, x20s1, x20n1, x20c1, x20v2, rfl, howc19, hbwc19⟩; replace howc19 : OwnW wc17.heap.size wc19.heap.size wc19 (.agg #[.int .i64 x20v0, .slice x20s1 x20n1 x20c1, .int .i64 x20v2]) g1 := howc19; replace cf5 := cell_b cf5 hbwc19; replace cf6 := cell_b cf6 hbwc19; replace cf7 := cell_b cf7 hbwc19; replace cf8 := cell_b cf8 hbwc19; replace cf9 := cell_b cf9 hbwc19; replace cf10 := cell_b cf10 hbwc19; replace cf11 := cell_b cf11 hbwc19; replace cf12 := cell_b cf12 hbwc19; replace cf13 := cell_b cf13 hbwc19; replace howc17 := howc17.below hbwc19; replace hbw : Below w.heap.size w wc19 := hbw.trans (hbwc19.mono hbw.size); have hzwc19 : wc17.heap.size ≤ wc19.heap.size := hbwc19.size)
            | (go_at_call 26; (with_reducible refine (toW_any _ _ _ (h2.below hbw) (by omega)).mono ?_); rintro e wc21 ⟨x22v0, x22s1, x22n1, x22c1, x22v2, rfl, howc21, hbwc21⟩; replace howc21 : OwnW wc19.heap.size wc21.heap.size wc21 (.agg #[.int .i64 x22v0, .slice x22s1 x22n1 x22c1, .int .i64 x22v2]) g2 := howc21; replace cf5 := cell_b cf5 hbwc21; replace cf6 := cell_b cf6 hbwc21; replace cf7 := cell_b cf7 hbwc21; replace cf8 := cell_b cf8 hbwc21; replace cf9 := cell_b cf9 hbwc21; replace cf10 := cell_b cf10 hbwc21; replace cf11 := cell_b cf11 hbwc21; replace cf12 := cell_b cf12 hbwc21; replace cf13 := cell_b cf13 hbwc21; replace howc17 := howc17.below hbwc21; replace howc19 := howc19.below hbwc21; replace hbw : Below w.heap.size w wc21 := hbw.trans (hbwc21.mono hbw.size); have hzwc21 : wc19.heap.size ≤ wc21.heap.size := hbwc21.size)
            | (go_at_call 43; (with_reducible refine (betterIn_s _ _ _ _ _ _ _ howc17.is howc19.is howc21.is).mono ?_); rintro e wc23 ⟨rfl, hbwc23⟩; replace cf5 := cell_b cf5 hbwc23; replace cf6 := cell_b cf6 hbwc23; replace cf7 := cell_b cf7 hbwc23; replace cf8 := cell_b cf8 hbwc23; replace cf9 := cell_b cf9 hbwc23; replace cf10 := cell_b cf10 hbwc23; replace cf11 := cell_b cf11 hbwc23; replace cf12 := cell_b cf12 hbwc23; replace cf13 := cell_b cf13 hbwc23; replace howc17 := howc17.below hbwc23; replace howc19 := howc19.below hbwc23; replace howc21 := howc21.below hbwc23; replace hbw : Below w.heap.size w wc23 := hbw.trans (hbwc23.mono hbw.size); have hzwc23 : wc21.heap.size ≤ wc23.heap.size := hbwc23.size))
        go_wp2_with fail
        refine (toP_any _ _ _ (h0.below hbw) (by omega)).mono ?_
        rintro e wc24 ⟨x25s0, x25n0, x25c0, x25s1, x25n1, x25c1, x25s2, x25n2, x25c2, rfl, howc24, hbwc24⟩
        replace howc24 : OwnP wc23.heap.size wc24.heap.size wc24 (.agg #[.slice x25s0 x25n0 x25c0, .slice x25s1 x25n1 x25c1, .slice x25s2 x25n2 x25c2]) g0 := howc24
        replace cf5 := cell_b cf5 hbwc24
        replace cf6 := cell_b cf6 hbwc24
        replace cf7 := cell_b cf7 hbwc24
        replace cf8 := cell_b cf8 hbwc24
        replace cf9 := cell_b cf9 hbwc24
        replace cf10 := cell_b cf10 hbwc24
        replace cf11 := cell_b cf11 hbwc24
        replace cf12 := cell_b cf12 hbwc24
        replace cf13 := cell_b cf13 hbwc24
        replace howc17 := howc17.below hbwc24
        replace howc19 := howc19.below hbwc24
        replace howc21 := howc21.below hbwc24
        replace hbw : Below w.heap.size w wc24 := hbw.trans (hbwc24.mono hbw.size)
        have hzwc24 : wc23.heap.size ≤ wc24.heap.size := hbwc24.size
        have hl27 : w.heap.size < wc24.heap.size := by omega
        have hl28 : w.heap.size + 1 < wc24.heap.size := by omega
        have hl29 : w.heap.size + 1 + 1 < wc24.heap.size := by omega
        go_wp2_with fail
        generalize hqwm30 : wc24.alloc (.cells #[.slice x25s0 x25n0 x25c0, .slice x25s1 x25n1 x25c1, .slice x25s2 x25n2 x25c2] 32) = wm30
        have hywm30 : wm30.heap.size = wc24.heap.size + 1 := by rw [← hqwm30]; simp
        have hbwm30 : Below wc24.heap.size wc24 wm30 := by rw [← hqwm30]; exact (by repeat' (first | (with_reducible exact Below.refl _ _) | (with_reducible apply Below.alloc) | (with_reducible apply Below.drew) | (with_reducible apply below_drawn) | omega | (simp only [World.size_alloc, World.size_setCell, World.size_drew]; omega)))
        have HQwm30_0 : Blk wm30 (wc24.heap.size) [.slice x25s0 x25n0 x25c0, .slice x25s1 x25n1 x25c1, .slice x25s2 x25n2 x25c2] 32 := by rw [← hqwm30]; have hnew := blk_new wc24 [.slice x25s0 x25n0 x25c0, .slice x25s1 x25n1 x25c1, .slice x25s2 x25n2 x25c2] 32; (try simp only [World.size_alloc] at hnew); exact hnew
        have cf31 : wm30.cell? ⟨wc24.heap.size, 0, none⟩ = some (.slice x25s0 x25n0 x25c0) := HQwm30_0.cell 0 rfl
        have cf32 : wm30.cell? ⟨wc24.heap.size, 1, none⟩ = some (.slice x25s1 x25n1 x25c1) := HQwm30_0.cell 1 rfl
        have cf33 : wm30.cell? ⟨wc24.heap.size, 2, none⟩ = some (.slice x25s2 x25n2 x25c2) := HQwm30_0.cell 2 rfl
        clear HQwm30_0
        clear hqwm30
        replace cf5 := cell_b cf5 hbwm30
        replace cf6 := cell_b cf6 hbwm30
        replace cf7 := cell_b cf7 hbwm30
        replace cf8 := cell_b cf8 hbwm30
        replace cf9 := cell_b cf9 hbwm30
        replace cf10 := cell_b cf10 hbwm30
        replace cf11 := cell_b cf11 hbwm30
        replace cf12 := cell_b cf12 hbwm30
        replace cf13 := cell_b cf13 hbwm30
        replace howc17 := howc17.below hbwm30
        replace howc19 := howc19.below hbwm30
        replace howc21 := howc21.below hbwm30
        replace howc24 := howc24.below hbwm30
        replace hbw : Below w.heap.size w wm30 := hbw.trans (hbwm30.mono hbw.size)
        have hzwm30 : wc24.heap.size ≤ wm30.heap.size := hbwm30.size
        refine (toW_any _ _ _ (h1.below hbw) (by omega)).mono ?_
        rintro e wc34 ⟨x35v0, x35s1, x35n1, x35c1, x35v2, rfl, howc34, hbwc34⟩
        replace howc34 : OwnW wm30.heap.size wc34.heap.size wc34 (.agg #[.int .i64 x35v0, .slice x35s1 x35n1 x35c1, .int .i64 x35v2]) g1 := howc34
        replace cf5 := cell_b cf5 hbwc34
        replace cf6 := cell_b cf6 hbwc34
        replace cf7 := cell_b cf7 hbwc34
        replace cf8 := cell_b cf8 hbwc34
        replace cf9 := cell_b cf9 hbwc34
        replace cf10 := cell_b cf10 hbwc34
        replace cf11 := cell_b cf11 hbwc34
        replace cf12 := cell_b cf12 hbwc34
        replace cf13 := cell_b cf13 hbwc34
        replace cf31 := cell_b cf31 hbwc34
        replace cf32 := cell_b cf32 hbwc34
        replace cf33 := cell_b cf33 hbwc34
        replace howc17 := howc17.below hbwc34
        replace howc19 := howc19.below hbwc34
        replace howc21 := howc21.below hbwc34
        replace howc24 := howc24.below hbwc34
        replace hbw : Below w.heap.size w wc34 := hbw.trans (hbwc34.mono hbw.size)
        have hzwc34 : wm30.heap.size ≤ wc34.heap.size := hbwc34.size
        have hl37 : w.heap.size < wc34.heap.size := by omega
        have hl38 : w.heap.size + 1 < wc34.heap.size := by omega
        have hl39 : w.heap.size + 1 + 1 < wc34.heap.size := by omega
        have hl40 : wc24.heap.size < wc34.heap.size := by omega
        go_wp2_with fail
        generalize hqwm41 : wc34.alloc (.cells #[.int .i64 x35v0, .slice x35s1 x35n1 x35c1, .int .i64 x35v2] 42) = wm41
        have hywm41 : wm41.heap.size = wc34.heap.size + 1 := by rw [← hqwm41]; simp
        have hbwm41 : Below wc34.heap.size wc34 wm41 := by rw [← hqwm41]; exact (by repeat' (first | (with_reducible exact Below.refl _ _) | (with_reducible apply Below.alloc) | (with_reducible apply Below.drew) | (with_reducible apply below_drawn) | omega | (simp only [World.size_alloc, World.size_setCell, World.size_drew]; omega)))
        have HQwm41_0 : Blk wm41 (wc34.heap.size) [.int .i64 x35v0, .slice x35s1 x35n1 x35c1, .int .i64 x35v2] 42 := by rw [← hqwm41]; have hnew := blk_new wc34 [.int .i64 x35v0, .slice x35s1 x35n1 x35c1, .int .i64 x35v2] 42; (try simp only [World.size_alloc] at hnew); exact hnew
        have cf42 : wm41.cell? ⟨wc34.heap.size, 0, none⟩ = some (.int .i64 x35v0) := HQwm41_0.cell 0 rfl
        have cf43 : wm41.cell? ⟨wc34.heap.size, 1, none⟩ = some (.slice x35s1 x35n1 x35c1) := HQwm41_0.cell 1 rfl
        have cf44 : wm41.cell? ⟨wc34.heap.size, 2, none⟩ = some (.int .i64 x35v2) := HQwm41_0.cell 2 rfl
        clear HQwm41_0
        clear hqwm41
        replace cf5 := cell_b cf5 hbwm41
        replace cf6 := cell_b cf6 hbwm41
        replace cf7 := cell_b cf7 hbwm41
        replace cf8 := cell_b cf8 hbwm41
        replace cf9 := cell_b cf9 hbwm41
        replace cf10 := cell_b cf10 hbwm41
        replace cf11 := cell_b cf11 hbwm41
        replace cf12 := cell_b cf12 hbwm41
        replace cf13 := cell_b cf13 hbwm41
        replace cf31 := cell_b cf31 hbwm41
        replace cf32 := cell_b cf32 hbwm41
        replace cf33 := cell_b cf33 hbwm41
        replace howc17 := howc17.below hbwm41
        replace howc19 := howc19.below hbwm41
        replace howc21 := howc21.below hbwm41
        replace howc24 := howc24.below hbwm41
        replace howc34 := howc34.below hbwm41
        replace hbw : Below w.heap.size w wm41 := hbw.trans (hbwm41.mono hbw.size)
        have hzwm41 : wc34.heap.size ≤ wm41.heap.size := hbwm41.size
        refine (toW_any _ _ _ (h2.below hbw) (by omega)).mono ?_
        rintro e wc45 ⟨x46v0, x46s1, x46n1, x46c1, x46v2, rfl, howc45, hbwc45⟩
        replace howc45 : OwnW wm41.heap.size wc45.heap.size wc45 (.agg #[.int .i64 x46v0, .slice x46s1 x46n1 x46c1, .int .i64 x46v2]) g2 := howc45
        replace cf5 := cell_b cf5 hbwc45
        replace cf6 := cell_b cf6 hbwc45
        replace cf7 := cell_b cf7 hbwc45
        replace cf8 := cell_b cf8 hbwc45
        replace cf9 := cell_b cf9 hbwc45
        replace cf10 := cell_b cf10 hbwc45
        replace cf11 := cell_b cf11 hbwc45
        replace cf12 := cell_b cf12 hbwc45
        replace cf13 := cell_b cf13 hbwc45
        replace cf31 := cell_b cf31 hbwc45
        replace cf32 := cell_b cf32 hbwc45
        replace cf33 := cell_b cf33 hbwc45
        replace cf42 := cell_b cf42 hbwc45
        replace cf43 := cell_b cf43 hbwc45
        replace cf44 := cell_b cf44 hbwc45
        replace howc17 := howc17.below hbwc45
        replace howc19 := howc19.below hbwc45
        replace howc21 := howc21.below hbwc45
        replace howc24 := howc24.below hbwc45
        replace howc34 := howc34.below hbwc45
        replace hbw : Below w.heap.size w wc45 := hbw.trans (hbwc45.mono hbw.size)
        have hzwc45 : wm41.heap.size ≤ wc45.heap.size := hbwc45.size
        have hl48 : w.heap.size < wc45.heap.size := by omega
        have hl49 : w.heap.size + 1 < wc45.heap.size := by omega
        have hl50 : w.heap.size + 1 + 1 < wc45.heap.size := by omega
        have hl51 : wc24.heap.size < wc45.heap.size := by omega
        have hl52 : wc34.heap.size < wc45.heap.size := by omega
        go_wp2_with fail
        generalize hqwm53 : wc45.alloc (.cells #[.int .i64 x46v0, .slice x46s1 x46n1 x46c1, .int .i64 x46v2] 42) = wm53
        have hywm53 : wm53.heap.size = wc45.heap.size + 1 := by rw [← hqwm53]; simp
        have hbwm53 : Below wc45.heap.size wc45 wm53 := by rw [← hqwm53]; exact (by repeat' (first | (with_reducible exact Below.refl _ _) | (with_reducible apply Below.alloc) | (with_reducible apply Below.drew) | (with_reducible apply below_drawn) | omega | (simp only [World.size_alloc, World.size_setCell, World.size_drew]; omega)))
        have HQwm53_0 : Blk wm53 (wc45.heap.size) [.int .i64 x46v0, .slice x46s1 x46n1 x46c1, .int .i64 x46v2] 42 := by rw [← hqwm53]; have hnew := blk_new wc45 [.int .i64 x46v0, .slice x46s1 x46n1 x46c1, .int .i64 x46v2] 42; (try simp only [World.size_alloc] at hnew); exact hnew
        have cf54 : wm53.cell? ⟨wc45.heap.size, 0, none⟩ = some (.int .i64 x46v0) := HQwm53_0.cell 0 rfl
        have cf55 : wm53.cell? ⟨wc45.heap.size, 1, none⟩ = some (.slice x46s1 x46n1 x46c1) := HQwm53_0.cell 1 rfl
        have cf56 : wm53.cell? ⟨wc45.heap.size, 2, none⟩ = some (.int .i64 x46v2) := HQwm53_0.cell 2 rfl
        clear HQwm53_0
        clear hqwm53
        replace cf5 := cell_b cf5 hbwm53
        replace cf6 := cell_b cf6 hbwm53
        replace cf7 := cell_b cf7 hbwm53
        replace cf8 := cell_b cf8 hbwm53
        replace cf9 := cell_b cf9 hbwm53
        replace cf10 := cell_b cf10 hbwm53
        replace cf11 := cell_b cf11 hbwm53
        replace cf12 := cell_b cf12 hbwm53
        replace cf13 := cell_b cf13 hbwm53
        replace cf31 := cell_b cf31 hbwm53
        replace cf32 := cell_b cf32 hbwm53
        replace cf33 := cell_b cf33 hbwm53
        replace cf42 := cell_b cf42 hbwm53
        replace cf43 := cell_b cf43 hbwm53
        replace cf44 := cell_b cf44 hbwm53
        replace howc17 := howc17.below hbwm53
        replace howc19 := howc19.below hbwm53
        replace howc21 := howc21.below hbwm53
        replace howc24 := howc24.below hbwm53
        replace howc34 := howc34.below hbwm53
        replace howc45 := howc45.below hbwm53
        replace hbw : Below w.heap.size w wm53 := hbw.trans (hbwm53.mono hbw.size)
        have hzwm53 : wc45.heap.size ≤ wm53.heap.size := hbwm53.size
        refine (betterIn_i _ _ _ _ _ _ _ howc24.is howc34.is howc45.is).mono ?_
        rintro e wc57 ⟨rfl, hbwc57⟩
        replace cf5 := cell_b cf5 hbwc57
        replace cf6 := cell_b cf6 hbwc57
        replace cf7 := cell_b cf7 hbwc57
        replace cf8 := cell_b cf8 hbwc57
        replace cf9 := cell_b cf9 hbwc57
        replace cf10 := cell_b cf10 hbwc57
        replace cf11 := cell_b cf11 hbwc57
        replace cf12 := cell_b cf12 hbwc57
        replace cf13 := cell_b cf13 hbwc57
        replace cf31 := cell_b cf31 hbwc57
        replace cf32 := cell_b cf32 hbwc57
        replace cf33 := cell_b cf33 hbwc57
        replace cf42 := cell_b cf42 hbwc57
        replace cf43 := cell_b cf43 hbwc57
        replace cf44 := cell_b cf44 hbwc57
        replace cf54 := cell_b cf54 hbwc57
        replace cf55 := cell_b cf55 hbwc57
        replace cf56 := cell_b cf56 hbwc57
        replace howc17 := howc17.below hbwc57
        replace howc19 := howc19.below hbwc57
        replace howc21 := howc21.below hbwc57
        replace howc24 := howc24.below hbwc57
        replace howc34 := howc34.below hbwc57
        replace howc45 := howc45.below hbwc57
        replace hbw : Below w.heap.size w wc57 := hbw.trans (hbwc57.mono hbw.size)
        have hzwc57 : wm53.heap.size ≤ wc57.heap.size := hbwc57.size
        go_wp2_with fail
        go_region_held3 (fun w' => w'.cell? ⟨wc24.heap.size, 0, none⟩ = some (.slice x25s0 x25n0 x25c0) ∧ w'.cell? ⟨wc24.heap.size, 1, none⟩ = some (.slice x25s1 x25n1 x25c1) ∧ w'.cell? ⟨wc24.heap.size, 2, none⟩ = some (.slice x25s2 x25n2 x25c2) ∧ w'.cell? ⟨w.heap.size, 0, none⟩ = some (.slice a0s0 a0n0 a0c0) ∧ w'.cell? ⟨w.heap.size, 1, none⟩ = some (.slice a0s1 a0n1 a0c1) ∧ w'.cell? ⟨w.heap.size, 2, none⟩ = some (.slice a0s2 a0n2 a0c2)) (first | exact ⟨cf31, cf32, cf33, cf5, cf6, cf7⟩ | go_keep)
          (first
            | (go_at_call 17; (with_reducible refine (toP_any _ _ _ ((h0.below hbw)).drew (by omega)).mono ?_); rintro e wc58 ⟨x59s0, x59n0, x59c0, x59s1, x59n1, x59c1, x59s2, x59n2, x59c2, rfl, howc58, hbwc58⟩; replace howc58 : OwnP wc57.heap.size wc58.heap.size wc58 (.agg #[.slice x59s0 x59n0 x59c0, .slice x59s1 x59n1 x59c1, .slice x59s2 x59n2 x59c2]) g0 := howc58; replace hbwc58 : Below wc57.heap.size wc57 wc58 := (below_drew _).trans hbwc58; replace cf5 := cell_b cf5 hbwc58; replace cf6 := cell_b cf6 hbwc58; replace cf7 := cell_b cf7 hbwc58; replace cf8 := cell_b cf8 hbwc58; replace cf9 := cell_b cf9 hbwc58; replace cf10 := cell_b cf10 hbwc58; replace cf11 := cell_b cf11 hbwc58; replace cf12 := cell_b cf12 hbwc58; replace cf13 := cell_b cf13 hbwc58; replace cf31 := cell_b cf31 hbwc58; replace cf32 := cell_b cf32 hbwc58; replace cf33 := cell_b cf33 hbwc58; replace cf42 := cell_b cf42 hbwc58; replace cf43 := cell_b cf43 hbwc58; replace cf44 := cell_b cf44 hbwc58; replace cf54 := cell_b cf54 hbwc58; replace cf55 := cell_b cf55 hbwc58; replace cf56 := cell_b cf56 hbwc58; replace howc17 := howc17.below hbwc58; replace howc19 := howc19.below hbwc58; replace howc21 := howc21.below hbwc58; replace howc24 := howc24.below hbwc58; replace howc34 := howc34.below hbwc58; replace howc45 := howc45.below hbwc58; replace hbw : Below w.heap.size w wc58 := hbw.trans (hbwc58.mono hbw.size); have hzwc58 : wc57.heap.size ≤ wc58.heap.size := hbwc58.size)
            | (go_at_call 19; (with_reducible refine (eqP_any _ _ _ _ _ howc24.is howc58.is).mono ?_); rw [tf_true rfl]; rintro e wc60 ⟨rfl, hbwc60⟩; replace cf5 := cell_b cf5 hbwc60; replace cf6 := cell_b cf6 hbwc60; replace cf7 := cell_b cf7 hbwc60; replace cf8 := cell_b cf8 hbwc60; replace cf9 := cell_b cf9 hbwc60; replace cf10 := cell_b cf10 hbwc60; replace cf11 := cell_b cf11 hbwc60; replace cf12 := cell_b cf12 hbwc60; replace cf13 := cell_b cf13 hbwc60; replace cf31 := cell_b cf31 hbwc60; replace cf32 := cell_b cf32 hbwc60; replace cf33 := cell_b cf33 hbwc60; replace cf42 := cell_b cf42 hbwc60; replace cf43 := cell_b cf43 hbwc60; replace cf44 := cell_b cf44 hbwc60; replace cf54 := cell_b cf54 hbwc60; replace cf55 := cell_b cf55 hbwc60; replace cf56 := cell_b cf56 hbwc60; replace howc17 := howc17.below hbwc60; replace howc19 := howc19.below hbwc60; replace howc21 := howc21.below hbwc60; replace howc24 := howc24.below hbwc60; replace howc34 := howc34.below hbwc60; replace howc45 := howc45.below hbwc60; replace howc58 := howc58.below hbwc60; replace hbw : Below w.heap.size w wc60 := hbw.trans (hbwc60.mono hbw.size); have hzwc60 : wc58.heap.size ≤ wc60.heap.size := hbwc60.size))
        go_wp2_with fail
        go_region_held3 (fun w' => w'.cell? ⟨wc34.heap.size, 0, none⟩ = some (.int .i64 x35v0) ∧ w'.cell? ⟨wc34.heap.size, 1, none⟩ = some (.slice x35s1 x35n1 x35c1) ∧ w'.cell? ⟨wc34.heap.size, 2, none⟩ = some (.int .i64 x35v2) ∧ w'.cell? ⟨w.heap.size + 1, 0, none⟩ = some (.int .i64 a1v0) ∧ w'.cell? ⟨w.heap.size + 1, 1, none⟩ = some (.slice a1s1 a1n1 a1c1) ∧ w'.cell? ⟨w.heap.size + 1, 2, none⟩ = some (.int .i64 a1v2)) (first | exact ⟨cf42, cf43, cf44, cf8, cf9, cf10⟩ | go_keep)
          (first
            | (go_at_call 26; (with_reducible refine (toW_any _ _ _ ((h1.below hbw)).drew (by omega)).mono ?_); rintro e wc61 ⟨x62v0, x62s1, x62n1, x62c1, x62v2, rfl, howc61, hbwc61⟩; replace howc61 : OwnW wc60.heap.size wc61.heap.size wc61 (.agg #[.int .i64 x62v0, .slice x62s1 x62n1 x62c1, .int .i64 x62v2]) g1 := howc61; replace hbwc61 : Below wc60.heap.size wc60 wc61 := (below_drew _).trans hbwc61; replace cf5 := cell_b cf5 hbwc61; replace cf6 := cell_b cf6 hbwc61; replace cf7 := cell_b cf7 hbwc61; replace cf8 := cell_b cf8 hbwc61; replace cf9 := cell_b cf9 hbwc61; replace cf10 := cell_b cf10 hbwc61; replace cf11 := cell_b cf11 hbwc61; replace cf12 := cell_b cf12 hbwc61; replace cf13 := cell_b cf13 hbwc61; replace cf31 := cell_b cf31 hbwc61; replace cf32 := cell_b cf32 hbwc61; replace cf33 := cell_b cf33 hbwc61; replace cf42 := cell_b cf42 hbwc61; replace cf43 := cell_b cf43 hbwc61; replace cf44 := cell_b cf44 hbwc61; replace cf54 := cell_b cf54 hbwc61; replace cf55 := cell_b cf55 hbwc61; replace cf56 := cell_b cf56 hbwc61; replace howc17 := howc17.below hbwc61; replace howc19 := howc19.below hbwc61; replace howc21 := howc21.below hbwc61; replace howc24 := howc24.below hbwc61; replace howc34 := howc34.below hbwc61; replace howc45 := howc45.below hbwc61; replace howc58 := howc58.below hbwc61; replace hbw : Below w.heap.size w wc61 := hbw.trans (hbwc61.mono hbw.size); have hzwc61 : wc60.heap.size ≤ wc61.heap.size := hbwc61.size)
            | (go_at_call 28; (with_reducible refine (eqW_any _ _ _ _ _ howc34.is howc61.is).mono ?_); rw [tf_true rfl]; rintro e wc63 ⟨rfl, hbwc63⟩; replace cf5 := cell_b cf5 hbwc63; replace cf6 := cell_b cf6 hbwc63; replace cf7 := cell_b cf7 hbwc63; replace cf8 := cell_b cf8 hbwc63; replace cf9 := cell_b cf9 hbwc63; replace cf10 := cell_b cf10 hbwc63; replace cf11 := cell_b cf11 hbwc63; replace cf12 := cell_b cf12 hbwc63; replace cf13 := cell_b cf13 hbwc63; replace cf31 := cell_b cf31 hbwc63; replace cf32 := cell_b cf32 hbwc63; replace cf33 := cell_b cf33 hbwc63; replace cf42 := cell_b cf42 hbwc63; replace cf43 := cell_b cf43 hbwc63; replace cf44 := cell_b cf44 hbwc63; replace cf54 := cell_b cf54 hbwc63; replace cf55 := cell_b cf55 hbwc63; replace cf56 := cell_b cf56 hbwc63; replace howc17 := howc17.below hbwc63; replace howc19 := howc19.below hbwc63; replace howc21 := howc21.below hbwc63; replace howc24 := howc24.below hbwc63; replace howc34 := howc34.below hbwc63; replace howc45 := howc45.below hbwc63; replace howc58 := howc58.below hbwc63; replace howc61 := howc61.below hbwc63; replace hbw : Below w.heap.size w wc63 := hbw.trans (hbwc63.mono hbw.size); have hzwc63 : wc61.heap.size ≤ wc63.heap.size := hbwc63.size))
        go_wp2_with fail
        go_region_held3 (fun w' => w'.cell? ⟨wc45.heap.size, 0, none⟩ = some (.int .i64 x46v0) ∧ w'.cell? ⟨wc45.heap.size, 1, none⟩ = some (.slice x46s1 x46n1 x46c1) ∧ w'.cell? ⟨wc45.heap.size, 2, none⟩ = some (.int .i64 x46v2) ∧ w'.cell? ⟨w.heap.size + 1 + 1, 0, none⟩ = some (.int .i64 a2v0) ∧ w'.cell? ⟨w.heap.size + 1 + 1, 1, none⟩ = some (.slice a2s1 a2n1 a2c1) ∧ w'.cell? ⟨w.heap.size + 1 + 1, 2, none⟩ = some (.int .i64 a2v2)) (first | exact ⟨cf54, cf55, cf56, cf11, cf12, cf13⟩ | go_keep)
          (first
            | (go_at_call 26; (with_reducible refine (toW_any _ _ _ ((h2.below hbw)).drew (by omega)).mono ?_); rintro e wc64 ⟨x65v0, x65s1, x65n1, x65c1, x65v2, rfl, howc64, hbwc64⟩; replace howc64 : OwnW wc63.heap.size wc64.heap.size wc64 (.agg #[.int .i64 x65v0, .slice x65s1 x65n1 x65c1, .int .i64 x65v2]) g2 := howc64; replace hbwc64 : Below wc63.heap.size wc63 wc64 := (below_drew _).trans hbwc64; replace cf5 := cell_b cf5 hbwc64; replace cf6 := cell_b cf6 hbwc64; replace cf7 := cell_b cf7 hbwc64; replace cf8 := cell_b cf8 hbwc64; replace cf9 := cell_b cf9 hbwc64; replace cf10 := cell_b cf10 hbwc64; replace cf11 := cell_b cf11 hbwc64; replace cf12 := cell_b cf12 hbwc64; replace cf13 := cell_b cf13 hbwc64; replace cf31 := cell_b cf31 hbwc64; replace cf32 := cell_b cf32 hbwc64; replace cf33 := cell_b cf33 hbwc64; replace cf42 := cell_b cf42 hbwc64; replace cf43 := cell_b cf43 hbwc64; replace cf44 := cell_b cf44 hbwc64; replace cf54 := cell_b cf54 hbwc64; replace cf55 := cell_b cf55 hbwc64; replace cf56 := cell_b cf56 hbwc64; replace howc17 := howc17.below hbwc64; replace howc19 := howc19.below hbwc64; replace howc21 := howc21.below hbwc64; replace howc24 := howc24.below hbwc64; replace howc34 := howc34.below hbwc64; replace howc45 := howc45.below hbwc64; replace howc58 := howc58.below hbwc64; replace howc61 := howc61.below hbwc64; replace hbw : Below w.heap.size w wc64 := hbw.trans (hbwc64.mono hbw.size); have hzwc64 : wc63.heap.size ≤ wc64.heap.size := hbwc64.size)
            | (go_at_call 28; (with_reducible refine (eqW_any _ _ _ _ _ howc45.is howc64.is).mono ?_); rw [tf_true rfl]; rintro e wc66 ⟨rfl, hbwc66⟩; replace cf5 := cell_b cf5 hbwc66; replace cf6 := cell_b cf6 hbwc66; replace cf7 := cell_b cf7 hbwc66; replace cf8 := cell_b cf8 hbwc66; replace cf9 := cell_b cf9 hbwc66; replace cf10 := cell_b cf10 hbwc66; replace cf11 := cell_b cf11 hbwc66; replace cf12 := cell_b cf12 hbwc66; replace cf13 := cell_b cf13 hbwc66; replace cf31 := cell_b cf31 hbwc66; replace cf32 := cell_b cf32 hbwc66; replace cf33 := cell_b cf33 hbwc66; replace cf42 := cell_b cf42 hbwc66; replace cf43 := cell_b cf43 hbwc66; replace cf44 := cell_b cf44 hbwc66; replace cf54 := cell_b cf54 hbwc66; replace cf55 := cell_b cf55 hbwc66; replace cf56 := cell_b cf56 hbwc66; replace howc17 := howc17.below hbwc66; replace howc19 := howc19.below hbwc66; replace howc21 := howc21.below hbwc66; replace howc24 := howc24.below hbwc66; replace howc34 := howc34.below hbwc66; replace howc45 := howc45.below hbwc66; replace howc58 := howc58.below hbwc66; replace howc61 := howc61.below hbwc66; replace howc64 := howc64.below hbwc66; replace hbw : Below w.heap.size w wc66 := hbw.trans (hbwc66.mono hbw.size); have hzwc66 : wc64.heap.size ≤ wc66.heap.size := hbwc66.size))
        go_wp2_with fail
        go_ret
        exact ⟨rfl, hbw⟩
      · have hz_2 := lft_no (l := 1048576 - ((szP g0 : Nat) : Int) - ((szW g1 : Nat) : Int)) (n := szW g2) (by omega)
        go_enter Try.func10, Try.ntmps10
        have hbw : Below w.heap.size w w := Below.refl _ _
        go_wp2_with fail
        generalize hqwm4 : ((w.alloc (.cells #[.slice a0s0 a0n0 a0c0, .slice a0s1 a0n1 a0c1, .slice a0s2 a0n2 a0c2] 27)).alloc (.cells #[.int .i64 a1v0, .slice a1s1 a1n1 a1c1, .int .i64 a1v2] 39)).alloc (.cells #[.int .i64 a2v0, .slice a2s1 a2n1 a2c1, .int .i64 a2v2] 39) = wm4
        have hywm4 : wm4.heap.size = w.heap.size + 3 := by rw [← hqwm4]; simp
        have hbwm4 : Below w.heap.size w wm4 := by rw [← hqwm4]; exact (by repeat' (first | (with_reducible exact Below.refl _ _) | (with_reducible apply Below.alloc) | (with_reducible apply Below.drew) | (with_reducible apply below_drawn) | omega | (simp only [World.size_alloc, World.size_setCell, World.size_drew]; omega)))
        have HQwm4_0 : Blk wm4 (w.heap.size) [.slice a0s0 a0n0 a0c0, .slice a0s1 a0n1 a0c1, .slice a0s2 a0n2 a0c2] 27 := by rw [← hqwm4]; have hnew := blk_new w [.slice a0s0 a0n0 a0c0, .slice a0s1 a0n1 a0c1, .slice a0s2 a0n2 a0c2] 27; (try simp only [World.size_alloc] at hnew); exact (Blk.alloc (Blk.alloc hnew _) _)
        have cf5 : wm4.cell? ⟨w.heap.size, 0, none⟩ = some (.slice a0s0 a0n0 a0c0) := HQwm4_0.cell 0 rfl
        have cf6 : wm4.cell? ⟨w.heap.size, 1, none⟩ = some (.slice a0s1 a0n1 a0c1) := HQwm4_0.cell 1 rfl
        have cf7 : wm4.cell? ⟨w.heap.size, 2, none⟩ = some (.slice a0s2 a0n2 a0c2) := HQwm4_0.cell 2 rfl
        clear HQwm4_0
        have HQwm4_1 : Blk wm4 (w.heap.size + 1) [.int .i64 a1v0, .slice a1s1 a1n1 a1c1, .int .i64 a1v2] 39 := by rw [← hqwm4]; have hnew := blk_new (w.alloc (.cells #[.slice a0s0 a0n0 a0c0, .slice a0s1 a0n1 a0c1, .slice a0s2 a0n2 a0c2] 27)) [.int .i64 a1v0, .slice a1s1 a1n1 a1c1, .int .i64 a1v2] 39; (try simp only [World.size_alloc] at hnew); exact (Blk.alloc hnew _)
        have cf8 : wm4.cell? ⟨w.heap.size + 1, 0, none⟩ = some (.int .i64 a1v0) := HQwm4_1.cell 0 rfl
        have cf9 : wm4.cell? ⟨w.heap.size + 1, 1, none⟩ = some (.slice a1s1 a1n1 a1c1) := HQwm4_1.cell 1 rfl
        have cf10 : wm4.cell? ⟨w.heap.size + 1, 2, none⟩ = some (.int .i64 a1v2) := HQwm4_1.cell 2 rfl
        clear HQwm4_1
        have HQwm4_2 : Blk wm4 (w.heap.size + 1 + 1) [.int .i64 a2v0, .slice a2s1 a2n1 a2c1, .int .i64 a2v2] 39 := by rw [← hqwm4]; have hnew := blk_new ((w.alloc (.cells #[.slice a0s0 a0n0 a0c0, .slice a0s1 a0n1 a0c1, .slice a0s2 a0n2 a0c2] 27)).alloc (.cells #[.int .i64 a1v0, .slice a1s1 a1n1 a1c1, .int .i64 a1v2] 39)) [.int .i64 a2v0, .slice a2s1 a2n1 a2c1, .int .i64 a2v2] 39; (try simp only [World.size_alloc] at hnew); exact hnew
        have cf11 : wm4.cell? ⟨w.heap.size + 1 + 1, 0, none⟩ = some (.int .i64 a2v0) := HQwm4_2.cell 0 rfl
        have cf12 : wm4.cell? ⟨w.heap.size + 1 + 1, 1, none⟩ = some (.slice a2s1 a2n1 a2c1) := HQwm4_2.cell 1 rfl
        have cf13 : wm4.cell? ⟨w.heap.size + 1 + 1, 2, none⟩ = some (.int .i64 a2v2) := HQwm4_2.cell 2 rfl
        clear HQwm4_2
        clear hqwm4
        replace hbw : Below w.heap.size w wm4 := hbw.trans (hbwm4.mono hbw.size)
        have hzwm4 : w.heap.size ≤ wm4.heap.size := hbwm4.size
        refine (szP_any _ _ _ _ (h0.below hbw) (by omega) (by omega)).mono ?_
        rw [hz_0]
        rintro e wc14 ⟨rfl, hbwc14⟩
        replace cf5 := cell_b cf5 hbwc14
        replace cf6 := cell_b cf6 hbwc14
        replace cf7 := cell_b cf7 hbwc14
        replace cf8 := cell_b cf8 hbwc14
        replace cf9 := cell_b cf9 hbwc14
        replace cf10 := cell_b cf10 hbwc14
        replace cf11 := cell_b cf11 hbwc14
        replace cf12 := cell_b cf12 hbwc14
        replace cf13 := cell_b cf13 hbwc14
        replace hbw : Below w.heap.size w wc14 := hbw.trans (hbwc14.mono hbw.size)
        have hzwc14 : wm4.heap.size ≤ wc14.heap.size := hbwc14.size
        go_wp2_with fail
        refine (szW_any _ _ _ _ (h1.below hbw) (by omega) (by omega)).mono ?_
        rw [hz_1]
        rintro e wc15 ⟨rfl, hbwc15⟩
        replace cf5 := cell_b cf5 hbwc15
        replace cf6 := cell_b cf6 hbwc15
        replace cf7 := cell_b cf7 hbwc15
        replace cf8 := cell_b cf8 hbwc15
        replace cf9 := cell_b cf9 hbwc15
        replace cf10 := cell_b cf10 hbwc15
        replace cf11 := cell_b cf11 hbwc15
        replace cf12 := cell_b cf12 hbwc15
        replace cf13 := cell_b cf13 hbwc15
        replace hbw : Below w.heap.size w wc15 := hbw.trans (hbwc15.mono hbw.size)
        have hzwc15 : wc14.heap.size ≤ wc15.heap.size := hbwc15.size
        go_wp2_with fail
        refine (szW_any _ _ _ _ (h2.below hbw) (by omega) (by omega)).mono ?_
        rw [hz_2]
        rintro e wc16 ⟨rfl, hbwc16⟩
        replace cf5 := cell_b cf5 hbwc16
        replace cf6 := cell_b cf6 hbwc16
        replace cf7 := cell_b cf7 hbwc16
        replace cf8 := cell_b cf8 hbwc16
        replace cf9 := cell_b cf9 hbwc16
        replace cf10 := cell_b cf10 hbwc16
        replace cf11 := cell_b cf11 hbwc16
        replace cf12 := cell_b cf12 hbwc16
        replace cf13 := cell_b cf13 hbwc16
        replace hbw : Below w.heap.size w wc16 := hbw.trans (hbwc16.mono hbw.size)
        have hzwc16 : wc15.heap.size ≤ wc16.heap.size := hbwc16.size
        go_wp2_with fail
        go_ret
        exact ⟨rfl, hbw⟩
    · have hz_1 := lft_no (l := 1048576 - ((szP g0 : Nat) : Int)) (n := szW g1) (by omega)
      go_enter Try.func10, Try.ntmps10
      have hbw : Below w.heap.size w w := Below.refl _ _
      go_wp2_with fail
      generalize hqwm4 : ((w.alloc (.cells #[.slice a0s0 a0n0 a0c0, .slice a0s1 a0n1 a0c1, .slice a0s2 a0n2 a0c2] 27)).alloc (.cells #[.int .i64 a1v0, .slice a1s1 a1n1 a1c1, .int .i64 a1v2] 39)).alloc (.cells #[.int .i64 a2v0, .slice a2s1 a2n1 a2c1, .int .i64 a2v2] 39) = wm4
      have hywm4 : wm4.heap.size = w.heap.size + 3 := by rw [← hqwm4]; simp
      have hbwm4 : Below w.heap.size w wm4 := by rw [← hqwm4]; exact (by repeat' (first | (with_reducible exact Below.refl _ _) | (with_reducible apply Below.alloc) | (with_reducible apply Below.drew) | (with_reducible apply below_drawn) | omega | (simp only [World.size_alloc, World.size_setCell, World.size_drew]; omega)))
      have HQwm4_0 : Blk wm4 (w.heap.size) [.slice a0s0 a0n0 a0c0, .slice a0s1 a0n1 a0c1, .slice a0s2 a0n2 a0c2] 27 := by rw [← hqwm4]; have hnew := blk_new w [.slice a0s0 a0n0 a0c0, .slice a0s1 a0n1 a0c1, .slice a0s2 a0n2 a0c2] 27; (try simp only [World.size_alloc] at hnew); exact (Blk.alloc (Blk.alloc hnew _) _)
      have cf5 : wm4.cell? ⟨w.heap.size, 0, none⟩ = some (.slice a0s0 a0n0 a0c0) := HQwm4_0.cell 0 rfl
      have cf6 : wm4.cell? ⟨w.heap.size, 1, none⟩ = some (.slice a0s1 a0n1 a0c1) := HQwm4_0.cell 1 rfl
      have cf7 : wm4.cell? ⟨w.heap.size, 2, none⟩ = some (.slice a0s2 a0n2 a0c2) := HQwm4_0.cell 2 rfl
      clear HQwm4_0
      have HQwm4_1 : Blk wm4 (w.heap.size + 1) [.int .i64 a1v0, .slice a1s1 a1n1 a1c1, .int .i64 a1v2] 39 := by rw [← hqwm4]; have hnew := blk_new (w.alloc (.cells #[.slice a0s0 a0n0 a0c0, .slice a0s1 a0n1 a0c1, .slice a0s2 a0n2 a0c2] 27)) [.int .i64 a1v0, .slice a1s1 a1n1 a1c1, .int .i64 a1v2] 39; (try simp only [World.size_alloc] at hnew); exact (Blk.alloc hnew _)
      have cf8 : wm4.cell? ⟨w.heap.size + 1, 0, none⟩ = some (.int .i64 a1v0) := HQwm4_1.cell 0 rfl
      have cf9 : wm4.cell? ⟨w.heap.size + 1, 1, none⟩ = some (.slice a1s1 a1n1 a1c1) := HQwm4_1.cell 1 rfl
      have cf10 : wm4.cell? ⟨w.heap.size + 1, 2, none⟩ = some (.int .i64 a1v2) := HQwm4_1.cell 2 rfl
      clear HQwm4_1
      have HQwm4_2 : Blk wm4 (w.heap.size + 1 + 1) [.int .i64 a2v0, .slice a2s1 a2n1 a2c1, .int .i64 a2v2] 39 := by rw [← hqwm4]; have hnew := blk_new ((w.alloc (.cells #[.slice a0s0 a0n0 a0c0, .slice a0s1 a0n1 a0c1, .slice a0s2 a0n2 a0c2] 27)).alloc (.cells #[.int .i64 a1v0, .slice a1s1 a1n1 a1c1, .int .i64 a1v2] 39)) [.int .i64 a2v0, .slice a2s1 a2n1 a2c1, .int .i64 a2v2] 39; (try simp only [World.size_alloc] at hnew); exact hnew
      have cf11 : wm4.cell? ⟨w.heap.size + 1 + 1, 0, none⟩ = some (.int .i64 a2v0) := HQwm4_2.cell 0 rfl
      have cf12 : wm4.cell? ⟨w.heap.size + 1 + 1, 1, none⟩ = some (.slice a2s1 a2n1 a2c1) := HQwm4_2.cell 1 rfl
      have cf13 : wm4.cell? ⟨w.heap.size + 1 + 1, 2, none⟩ = some (.int .i64 a2v2) := HQwm4_2.cell 2 rfl
      clear HQwm4_2
      clear hqwm4
      replace hbw : Below w.heap.size w wm4 := hbw.trans (hbwm4.mono hbw.size)
      have hzwm4 : w.heap.size ≤ wm4.heap.size := hbwm4.size
      refine (szP_any _ _ _ _ (h0.below hbw) (by omega) (by omega)).mono ?_
      rw [hz_0]
      rintro e wc14 ⟨rfl, hbwc14⟩
      replace cf5 := cell_b cf5 hbwc14
      replace cf6 := cell_b cf6 hbwc14
      replace cf7 := cell_b cf7 hbwc14
      replace cf8 := cell_b cf8 hbwc14
      replace cf9 := cell_b cf9 hbwc14
      replace cf10 := cell_b cf10 hbwc14
      replace cf11 := cell_b cf11 hbwc14
      replace cf12 := cell_b cf12 hbwc14
      replace cf13 := cell_b cf13 hbwc14
      replace hbw : Below w.heap.size w wc14 := hbw.trans (hbwc14.mono hbw.size)
      have hzwc14 : wm4.heap.size ≤ wc14.heap.size := hbwc14.size
      go_wp2_with fail
      refine (szW_any _ _ _ _ (h1.below hbw) (by omega) (by omega)).mono ?_
      rw [hz_1]
      rintro e wc15 ⟨rfl, hbwc15⟩
      replace cf5 := cell_b cf5 hbwc15
      replace cf6 := cell_b cf6 hbwc15
      replace cf7 := cell_b cf7 hbwc15
      replace cf8 := cell_b cf8 hbwc15
      replace cf9 := cell_b cf9 hbwc15
      replace cf10 := cell_b cf10 hbwc15
      replace cf11 := cell_b cf11 hbwc15
      replace cf12 := cell_b cf12 hbwc15
      replace cf13 := cell_b cf13 hbwc15
      replace hbw : Below w.heap.size w wc15 := hbw.trans (hbwc15.mono hbw.size)
      have hzwc15 : wc14.heap.size ≤ wc15.heap.size := hbwc15.size
      go_wp2_with fail
      go_ret
      exact ⟨rfl, hbw⟩
  · have hz_0 := lft_no (l := 1048576) (n := szP g0) (by omega)
    go_enter Try.func10, Try.ntmps10
    have hbw : Below w.heap.size w w := Below.refl _ _
    go_wp2_with fail
    generalize hqwm4 : ((w.alloc (.cells #[.slice a0s0 a0n0 a0c0, .slice a0s1 a0n1 a0c1, .slice a0s2 a0n2 a0c2] 27)).alloc (.cells #[.int .i64 a1v0, .slice a1s1 a1n1 a1c1, .int .i64 a1v2] 39)).alloc (.cells #[.int .i64 a2v0, .slice a2s1 a2n1 a2c1, .int .i64 a2v2] 39) = wm4
    have hywm4 : wm4.heap.size = w.heap.size + 3 := by rw [← hqwm4]; simp
    have hbwm4 : Below w.heap.size w wm4 := by rw [← hqwm4]; exact (by repeat' (first | (with_reducible exact Below.refl _ _) | (with_reducible apply Below.alloc) | (with_reducible apply Below.drew) | (with_reducible apply below_drawn) | omega | (simp only [World.size_alloc, World.size_setCell, World.size_drew]; omega)))
    have HQwm4_0 : Blk wm4 (w.heap.size) [.slice a0s0 a0n0 a0c0, .slice a0s1 a0n1 a0c1, .slice a0s2 a0n2 a0c2] 27 := by rw [← hqwm4]; have hnew := blk_new w [.slice a0s0 a0n0 a0c0, .slice a0s1 a0n1 a0c1, .slice a0s2 a0n2 a0c2] 27; (try simp only [World.size_alloc] at hnew); exact (Blk.alloc (Blk.alloc hnew _) _)
    have cf5 : wm4.cell? ⟨w.heap.size, 0, none⟩ = some (.slice a0s0 a0n0 a0c0) := HQwm4_0.cell 0 rfl
    have cf6 : wm4.cell? ⟨w.heap.size, 1, none⟩ = some (.slice a0s1 a0n1 a0c1) := HQwm4_0.cell 1 rfl
    have cf7 : wm4.cell? ⟨w.heap.size, 2, none⟩ = some (.slice a0s2 a0n2 a0c2) := HQwm4_0.cell 2 rfl
    clear HQwm4_0
    have HQwm4_1 : Blk wm4 (w.heap.size + 1) [.int .i64 a1v0, .slice a1s1 a1n1 a1c1, .int .i64 a1v2] 39 := by rw [← hqwm4]; have hnew := blk_new (w.alloc (.cells #[.slice a0s0 a0n0 a0c0, .slice a0s1 a0n1 a0c1, .slice a0s2 a0n2 a0c2] 27)) [.int .i64 a1v0, .slice a1s1 a1n1 a1c1, .int .i64 a1v2] 39; (try simp only [World.size_alloc] at hnew); exact (Blk.alloc hnew _)
    have cf8 : wm4.cell? ⟨w.heap.size + 1, 0, none⟩ = some (.int .i64 a1v0) := HQwm4_1.cell 0 rfl
    have cf9 : wm4.cell? ⟨w.heap.size + 1, 1, none⟩ = some (.slice a1s1 a1n1 a1c1) := HQwm4_1.cell 1 rfl
    have cf10 : wm4.cell? ⟨w.heap.size + 1, 2, none⟩ = some (.int .i64 a1v2) := HQwm4_1.cell 2 rfl
    clear HQwm4_1
    have HQwm4_2 : Blk wm4 (w.heap.size + 1 + 1) [.int .i64 a2v0, .slice a2s1 a2n1 a2c1, .int .i64 a2v2] 39 := by rw [← hqwm4]; have hnew := blk_new ((w.alloc (.cells #[.slice a0s0 a0n0 a0c0, .slice a0s1 a0n1 a0c1, .slice a0s2 a0n2 a0c2] 27)).alloc (.cells #[.int .i64 a1v0, .slice a1s1 a1n1 a1c1, .int .i64 a1v2] 39)) [.int .i64 a2v0, .slice a2s1 a2n1 a2c1, .int .i64 a2v2] 39; (try simp only [World.size_alloc] at hnew); exact hnew
    have cf11 : wm4.cell? ⟨w.heap.size + 1 + 1, 0, none⟩ = some (.int .i64 a2v0) := HQwm4_2.cell 0 rfl
    have cf12 : wm4.cell? ⟨w.heap.size + 1 + 1, 1, none⟩ = some (.slice a2s1 a2n1 a2c1) := HQwm4_2.cell 1 rfl
    have cf13 : wm4.cell? ⟨w.heap.size + 1 + 1, 2, none⟩ = some (.int .i64 a2v2) := HQwm4_2.cell 2 rfl
    clear HQwm4_2
    clear hqwm4
    replace hbw : Below w.heap.size w wm4 := hbw.trans (hbwm4.mono hbw.size)
    have hzwm4 : w.heap.size ≤ wm4.heap.size := hbwm4.size
    refine (szP_any _ _ _ _ (h0.below hbw) (by omega) (by omega)).mono ?_
    rw [hz_0]
    rintro e wc14 ⟨rfl, hbwc14⟩
    replace cf5 := cell_b cf5 hbwc14
    replace cf6 := cell_b cf6 hbwc14
    replace cf7 := cell_b cf7 hbwc14
    replace cf8 := cell_b cf8 hbwc14
    replace cf9 := cell_b cf9 hbwc14
    replace cf10 := cell_b cf10 hbwc14
    replace cf11 := cell_b cf11 hbwc14
    replace cf12 := cell_b cf12 hbwc14
    replace cf13 := cell_b cf13 hbwc14
    replace hbw : Below w.heap.size w wc14 := hbw.trans (hbwc14.mono hbw.size)
    have hzwc14 : wm4.heap.size ≤ wc14.heap.size := hbwc14.size
    go_wp2_with fail
    go_ret
    exact ⟨rfl, hbw⟩

open Go.ChangeShapes Go.WideShapes Go.ChangeAt
theorem rec : ∀ t ∈ Try.f10.params.toList, Try.prog.readableRec t = true ∧ t < Try.prog.types.size := by
  rw [Try.params10]
  intro t ht
  simp only [List.mem_cons, List.not_mem_nil, or_false] at ht
  rcases ht with rfl | rfl | rfl
  all_goals exact ⟨by kernel_rfl, of_decide_eq_true (by kernel_rfl)⟩
set_option maxRecDepth 100000 in
theorem lifted (os : Os) (started : os.Started) (H : Type) (enc : TypeId × Value → H) :
    ReturnsInHanded {} Try.checked os 10 .any (Rows.fnExactBetterInSpec.pre6 enc Try.prog Try.f10 Rows.fnExactBetterInRow.domain false) (Rows.fnExactBetterInSpec.post enc Try.prog Try.f10 false true false false) := by
  refine returnsInHanded_of_change (C := Try.checked) own started (by kernel_rfl) Try.func10
    (ChangeSpec.witness6 (enc := enc) (C := Try.checked) false ⟨#[], #[.agg #[.slice none 0 0, .slice none 0 0, .slice none 0 0], .agg #[.int .i64 0, .slice none 0 0, .int .i64 0], .agg #[.int .i64 0, .slice none 0 0, .int .i64 0]], []⟩ 8 (by kernel_rfl) (by kernel_rfl) (by kernel_rfl) (by kernel_rfl)) ?_
  intro W base args ds gs before hval0 hW hcnd _
  have hval : ∀ (j : Nat) t v, Try.f10.params[j]? = some t → args[j]? = some v → Value.okWide Try.prog W .any base t v := hval0
  have hW' := hW
  obtain ⟨p, q, hA0, hV, rfl, hfz, hnd⟩ := hW
  have hA : DataW.TrodAll enc Try.prog W 0 (fun _ => true) true Try.f10.params.toList args.toList ds p := hA0
  rw [Try.params10] at hA hval
  obtain ⟨v0, vs0, d0, ds0, p0, q0, hargs, rfl, rfl, t0, r0⟩ := trodAll_cons hA
  obtain ⟨v1, vs1, d1, ds1, p1, q1, rfl, rfl, rfl, t1, r1⟩ := trodAll_cons r0
  obtain ⟨v2, vs2, d2, ds2, p2, q2, rfl, rfl, rfl, t2, r2⟩ := trodAll_cons r1
  obtain ⟨rfl, rfl, rfl⟩ := trodAll_nil r2
  obtain rfl : args = #[v0, v1, v2] := by cases args; simp_all
  obtain ⟨rfl, rfl⟩ := trodVars_none hV
  obtain ⟨g0, h0, wf0⟩ := openP (hval 0 _ v0 rfl rfl) t0
  obtain ⟨g1, h1, wf1⟩ := openW (hval 1 _ v1 rfl rfl) t1
  obtain ⟨g2, h2, wf2⟩ := openW (hval 2 _ v2 rfl rfl) t2
  clear hA0 hval0
  refine (walk v0 g0 v1 g1 v2 g2 W h0 h1 h2 wf0 wf1 wf2).mono fun e W' ⟨he, hb⟩ => ?_
  subst he
  exact ⟨_, rfl, law_post laid rec (by kernel_rfl) rfl rfl hW' hb⟩
theorem over : Rows.fnExactBetterInRow.holds Try.pinned (OpenSpec.ofChange Rows.fnExactBetterInSpec) :=
  OpenClaim.holds_of_wide 10 Try.f10 rfl rfl rfl rfl rfl rfl rfl ⟨rfl, rfl, rfl, rfl, rfl⟩ rfl rfl rfl rfl rfl (by kernel_rfl) Try.func10 (by kernel_rfl)
    (of_decide_eq_true (by kernel_rfl)) (by unfold Func.isWrapper; first | (rw [if_pos (by decide +kernel)]; kernel_rfl) | (rw [if_neg (by decide +kernel)]; exact ⟨rfl, rfl⟩))
    (fun os started H enc _ => lifted os started H enc)
theorem proved : Rows.FnExactBetterInSaid := over
#print axioms proved
end Go.Proofs.Ytdbojkdfpkgfcaa.fnExactBetterIn
