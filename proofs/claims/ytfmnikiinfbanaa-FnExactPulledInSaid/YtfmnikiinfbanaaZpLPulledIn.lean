/-
  For every input the law FnExactPulledIn returns true and leaves its arguments as they were: the program's PulledIn returns what the reference's returns. No condition.
-/
import Derived.Test.YtfmnikiinfbanaaZpLaw
import Derived.Test.YtfmnikiinfbanaaZpL7
import Derived.Test.YtfmnikiinfbanaaZpCb
import Derived.Test.YtfmnikiinfbanaaZpStgA
namespace Go.Proofs.Ytfmnikiinfbanaa.fnExactPulledIn
set_option linter.unusedVariables false
set_option linter.unusedSimpArgs false
open Go.RowKit
attribute [local go_sem ↓] Go.wp_at_zero Go.wp_at_succ
set_option maxRecDepth 100000 in
set_option maxHeartbeats 4000000 in
theorem walk (u0 : Value) (g0 : Pa) (u1 : Value) (g1 : St) (w : World) (h0 : IsP w u0 g0) (h1 : IsS w u1 g1) (wf0 : WfP g0) (wf1 : WfS g1) : Calls Try.prog 8 #[u0, u1] w (Bb w true) := by
  obtain ⟨a0s0, a0n0, a0c0, a0s1, a0n1, a0c1, a0s2, a0n2, a0c2, rfl⟩ := h0.form
  obtain ⟨a1s0, a1n0, a1c0, a1s1, a1n1, a1c1, a1v2, rfl⟩ := h1.form
  by_cases hn_0 : ((szP g0 : Nat) : Int) ≤ 1048576
  · have hz_0 := lft_ok hn_0
    replace hn_0 : szP g0 ≤ 1048576 - (0) := by omega
    have hp_0 : (0 : Int) ≤ 1048576 - ((szP g0 : Nat) : Int) := by omega
    by_cases hn_1 : ((szS g1 : Nat) : Int) ≤ 1048576 - ((szP g0 : Nat) : Int)
    · have hz_1 := lft_ok hn_1
      replace hn_1 : szS g1 ≤ 1048576 - (0 + szP g0) := by omega
      have hp_1 : (0 : Int) ≤ 1048576 - ((szP g0 : Nat) : Int) - ((szS g1 : Nat) : Int) := by omega
      go_enter Try.func8, Try.ntmps8
      have hbw : Below w.heap.size w w := Below.refl _ _
      go_wp2_with fail
      generalize hqwm3 : (w.alloc (.cells #[.slice a0s0 a0n0 a0c0, .slice a0s1 a0n1 a0c1, .slice a0s2 a0n2 a0c2] 27)).alloc (.cells #[.slice a1s0 a1n0 a1c0, .slice a1s1 a1n1 a1c1, .int .i64 a1v2] 40) = wm3
      have hywm3 : wm3.heap.size = w.heap.size + 2 := by rw [← hqwm3]; simp
      have hbwm3 : Below w.heap.size w wm3 := by rw [← hqwm3]; exact (by repeat' (first | (with_reducible exact Below.refl _ _) | (with_reducible apply Below.alloc) | (with_reducible apply Below.drew) | (with_reducible apply below_drawn) | omega | (simp only [World.size_alloc, World.size_setCell, World.size_drew]; omega)))
      have HQwm3_0 : Blk wm3 (w.heap.size) [.slice a0s0 a0n0 a0c0, .slice a0s1 a0n1 a0c1, .slice a0s2 a0n2 a0c2] 27 := by rw [← hqwm3]; have hnew := blk_new w [.slice a0s0 a0n0 a0c0, .slice a0s1 a0n1 a0c1, .slice a0s2 a0n2 a0c2] 27; (try simp only [World.size_alloc] at hnew); exact (Blk.alloc hnew _)
      have cf4 : wm3.cell? ⟨w.heap.size, 0, none⟩ = some (.slice a0s0 a0n0 a0c0) := HQwm3_0.cell 0 rfl
      have cf5 : wm3.cell? ⟨w.heap.size, 1, none⟩ = some (.slice a0s1 a0n1 a0c1) := HQwm3_0.cell 1 rfl
      have cf6 : wm3.cell? ⟨w.heap.size, 2, none⟩ = some (.slice a0s2 a0n2 a0c2) := HQwm3_0.cell 2 rfl
      clear HQwm3_0
      have HQwm3_1 : Blk wm3 (w.heap.size + 1) [.slice a1s0 a1n0 a1c0, .slice a1s1 a1n1 a1c1, .int .i64 a1v2] 40 := by rw [← hqwm3]; have hnew := blk_new (w.alloc (.cells #[.slice a0s0 a0n0 a0c0, .slice a0s1 a0n1 a0c1, .slice a0s2 a0n2 a0c2] 27)) [.slice a1s0 a1n0 a1c0, .slice a1s1 a1n1 a1c1, .int .i64 a1v2] 40; (try simp only [World.size_alloc] at hnew); exact hnew
      have cf7 : wm3.cell? ⟨w.heap.size + 1, 0, none⟩ = some (.slice a1s0 a1n0 a1c0) := HQwm3_1.cell 0 rfl
      have cf8 : wm3.cell? ⟨w.heap.size + 1, 1, none⟩ = some (.slice a1s1 a1n1 a1c1) := HQwm3_1.cell 1 rfl
      have cf9 : wm3.cell? ⟨w.heap.size + 1, 2, none⟩ = some (.int .i64 a1v2) := HQwm3_1.cell 2 rfl
      clear HQwm3_1
      clear hqwm3
      replace hbw : Below w.heap.size w wm3 := hbw.trans (hbwm3.mono hbw.size)
      have hzwm3 : w.heap.size ≤ wm3.heap.size := hbwm3.size
      refine (szP_any _ _ _ _ (h0.below hbw) (by omega) (by omega)).mono ?_
      rw [hz_0]
      rintro e wc10 ⟨rfl, hbwc10⟩
      replace cf4 := cell_b cf4 hbwc10
      replace cf5 := cell_b cf5 hbwc10
      replace cf6 := cell_b cf6 hbwc10
      replace cf7 := cell_b cf7 hbwc10
      replace cf8 := cell_b cf8 hbwc10
      replace cf9 := cell_b cf9 hbwc10
      replace hbw : Below w.heap.size w wc10 := hbw.trans (hbwc10.mono hbw.size)
      have hzwc10 : wm3.heap.size ≤ wc10.heap.size := hbwc10.size
      go_wp2_with fail
      refine (szS_any _ _ _ _ (h1.below hbw) (by omega) (by omega)).mono ?_
      rw [hz_1]
      rintro e wc11 ⟨rfl, hbwc11⟩
      replace cf4 := cell_b cf4 hbwc11
      replace cf5 := cell_b cf5 hbwc11
      replace cf6 := cell_b cf6 hbwc11
      replace cf7 := cell_b cf7 hbwc11
      replace cf8 := cell_b cf8 hbwc11
      replace cf9 := cell_b cf9 hbwc11
      replace hbw : Below w.heap.size w wc11 := hbw.trans (hbwc11.mono hbw.size)
      have hzwc11 : wc10.heap.size ≤ wc11.heap.size := hbwc11.size
      go_wp2_with fail
      go_region_held3 (fun w' => w'.cell? ⟨w.heap.size, 0, none⟩ = some (.slice a0s0 a0n0 a0c0) ∧ w'.cell? ⟨w.heap.size, 1, none⟩ = some (.slice a0s1 a0n1 a0c1) ∧ w'.cell? ⟨w.heap.size, 2, none⟩ = some (.slice a0s2 a0n2 a0c2) ∧ w'.cell? ⟨w.heap.size + 1, 0, none⟩ = some (.slice a1s0 a1n0 a1c0) ∧ w'.cell? ⟨w.heap.size + 1, 1, none⟩ = some (.slice a1s1 a1n1 a1c1) ∧ w'.cell? ⟨w.heap.size + 1, 2, none⟩ = some (.int .i64 a1v2)) (first | exact ⟨cf4, cf5, cf6, cf7, cf8, cf9⟩ | go_keep)
        (first
          | (go_at_call 14; (with_reducible refine (toP_any _ _ _ ((h0.below hbw)).drew (by omega)).mono ?_); rintro e wc12 ⟨x13s0, x13n0, x13c0, x13s1, x13n1, x13c1, x13s2, x13n2, x13c2, rfl, howc12, hbwc12⟩; replace howc12 : OwnP wc11.heap.size wc12.heap.size wc12 (.agg #[.slice x13s0 x13n0 x13c0, .slice x13s1 x13n1 x13c1, .slice x13s2 x13n2 x13c2]) g0 := howc12; replace hbwc12 : Below wc11.heap.size wc11 wc12 := (below_drew _).trans hbwc12; replace cf4 := cell_b cf4 hbwc12; replace cf5 := cell_b cf5 hbwc12; replace cf6 := cell_b cf6 hbwc12; replace cf7 := cell_b cf7 hbwc12; replace cf8 := cell_b cf8 hbwc12; replace cf9 := cell_b cf9 hbwc12; replace hbw : Below w.heap.size w wc12 := hbw.trans (hbwc12.mono hbw.size); have hzwc12 : wc11.heap.size ≤ wc12.heap.size := hbwc12.size)
          | (go_at_call 25; (with_reducible refine (toS_any _ _ _ (h1.below hbw) (by omega)).mono ?_); rintro e wc14 ⟨x15s0, x15n0, x15c0, x15s1, x15n1, x15c1, x15v2, rfl, howc14, hbwc14⟩; replace howc14 : OwnS wc12.heap.size wc14.heap.size wc14 (.agg #[.slice x15s0 x15n0 x15c0, .slice x15s1 x15n1 x15c1, .int .i64 x15v2]) g1 := howc14; replace cf4 := cell_b cf4 hbwc14; replace cf5 := cell_b cf5 hbwc14; replace cf6 := cell_b cf6 hbwc14; replace cf7 := cell_b cf7 hbwc14; replace cf8 := cell_b cf8 hbwc14; replace cf9 := cell_b cf9 hbwc14; replace howc12 := howc12.below hbwc14; replace hbw : Below w.heap.size w wc14 := hbw.trans (hbwc14.mono hbw.size); have hzwc14 : wc12.heap.size ≤ wc14.heap.size := hbwc14.size)
          | (go_at_call 35; (with_reducible refine (pulledIn_s _ _ _ _ _ howc12.is howc14.is).mono ?_); rintro e wc16 ⟨y17s0, y17n0, y17c0, rfl, howc16, hbwc16⟩; replace howc16 : OwnI wc14.heap.size wc16.heap.size wc16 (.slice y17s0 y17n0 y17c0) (pulN g0 g1) := howc16; replace cf4 := cell_b cf4 hbwc16; replace cf5 := cell_b cf5 hbwc16; replace cf6 := cell_b cf6 hbwc16; replace cf7 := cell_b cf7 hbwc16; replace cf8 := cell_b cf8 hbwc16; replace cf9 := cell_b cf9 hbwc16; replace howc12 := howc12.below hbwc16; replace howc14 := howc14.below hbwc16; replace hbw : Below w.heap.size w wc16 := hbw.trans (hbwc16.mono hbw.size); have hzwc16 : wc14.heap.size ≤ wc16.heap.size := hbwc16.size))
      go_wp2_with fail
      refine (toP_any _ _ _ (h0.below hbw) (by omega)).mono ?_
      rintro e wc18 ⟨x19s0, x19n0, x19c0, x19s1, x19n1, x19c1, x19s2, x19n2, x19c2, rfl, howc18, hbwc18⟩
      replace howc18 : OwnP wc16.heap.size wc18.heap.size wc18 (.agg #[.slice x19s0 x19n0 x19c0, .slice x19s1 x19n1 x19c1, .slice x19s2 x19n2 x19c2]) g0 := howc18
      replace cf4 := cell_b cf4 hbwc18
      replace cf5 := cell_b cf5 hbwc18
      replace cf6 := cell_b cf6 hbwc18
      replace cf7 := cell_b cf7 hbwc18
      replace cf8 := cell_b cf8 hbwc18
      replace cf9 := cell_b cf9 hbwc18
      replace howc12 := howc12.below hbwc18
      replace howc14 := howc14.below hbwc18
      replace howc16 := howc16.below hbwc18
      replace hbw : Below w.heap.size w wc18 := hbw.trans (hbwc18.mono hbw.size)
      have hzwc18 : wc16.heap.size ≤ wc18.heap.size := hbwc18.size
      have hl21 : w.heap.size < wc18.heap.size := by omega
      have hl22 : w.heap.size + 1 < wc18.heap.size := by omega
      go_wp2_with fail
      generalize hqwm23 : wc18.alloc (.cells #[.slice x19s0 x19n0 x19c0, .slice x19s1 x19n1 x19c1, .slice x19s2 x19n2 x19c2] 32) = wm23
      have hywm23 : wm23.heap.size = wc18.heap.size + 1 := by rw [← hqwm23]; simp
      have hbwm23 : Below wc18.heap.size wc18 wm23 := by rw [← hqwm23]; exact (by repeat' (first | (with_reducible exact Below.refl _ _) | (with_reducible apply Below.alloc) | (with_reducible apply Below.drew) | (with_reducible apply below_drawn) | omega | (simp only [World.size_alloc, World.size_setCell, World.size_drew]; omega)))
      have HQwm23_0 : Blk wm23 (wc18.heap.size) [.slice x19s0 x19n0 x19c0, .slice x19s1 x19n1 x19c1, .slice x19s2 x19n2 x19c2] 32 := by rw [← hqwm23]; have hnew := blk_new wc18 [.slice x19s0 x19n0 x19c0, .slice x19s1 x19n1 x19c1, .slice x19s2 x19n2 x19c2] 32; (try simp only [World.size_alloc] at hnew); exact hnew
      have cf24 : wm23.cell? ⟨wc18.heap.size, 0, none⟩ = some (.slice x19s0 x19n0 x19c0) := HQwm23_0.cell 0 rfl
      have cf25 : wm23.cell? ⟨wc18.heap.size, 1, none⟩ = some (.slice x19s1 x19n1 x19c1) := HQwm23_0.cell 1 rfl
      have cf26 : wm23.cell? ⟨wc18.heap.size, 2, none⟩ = some (.slice x19s2 x19n2 x19c2) := HQwm23_0.cell 2 rfl
      clear HQwm23_0
      clear hqwm23
      replace cf4 := cell_b cf4 hbwm23
      replace cf5 := cell_b cf5 hbwm23
      replace cf6 := cell_b cf6 hbwm23
      replace cf7 := cell_b cf7 hbwm23
      replace cf8 := cell_b cf8 hbwm23
      replace cf9 := cell_b cf9 hbwm23
      replace howc12 := howc12.below hbwm23
      replace howc14 := howc14.below hbwm23
      replace howc16 := howc16.below hbwm23
      replace howc18 := howc18.below hbwm23
      replace hbw : Below w.heap.size w wm23 := hbw.trans (hbwm23.mono hbw.size)
      have hzwm23 : wc18.heap.size ≤ wm23.heap.size := hbwm23.size
      refine (toS_any _ _ _ (h1.below hbw) (by omega)).mono ?_
      rintro e wc27 ⟨x28s0, x28n0, x28c0, x28s1, x28n1, x28c1, x28v2, rfl, howc27, hbwc27⟩
      replace howc27 : OwnS wm23.heap.size wc27.heap.size wc27 (.agg #[.slice x28s0 x28n0 x28c0, .slice x28s1 x28n1 x28c1, .int .i64 x28v2]) g1 := howc27
      replace cf4 := cell_b cf4 hbwc27
      replace cf5 := cell_b cf5 hbwc27
      replace cf6 := cell_b cf6 hbwc27
      replace cf7 := cell_b cf7 hbwc27
      replace cf8 := cell_b cf8 hbwc27
      replace cf9 := cell_b cf9 hbwc27
      replace cf24 := cell_b cf24 hbwc27
      replace cf25 := cell_b cf25 hbwc27
      replace cf26 := cell_b cf26 hbwc27
      replace howc12 := howc12.below hbwc27
      replace howc14 := howc14.below hbwc27
      replace howc16 := howc16.below hbwc27
      replace howc18 := howc18.below hbwc27
      replace hbw : Below w.heap.size w wc27 := hbw.trans (hbwc27.mono hbw.size)
      have hzwc27 : wm23.heap.size ≤ wc27.heap.size := hbwc27.size
      have hl30 : w.heap.size < wc27.heap.size := by omega
      have hl31 : w.heap.size + 1 < wc27.heap.size := by omega
      have hl32 : wc18.heap.size < wc27.heap.size := by omega
      go_wp2_with fail
      generalize hqwm33 : wc27.alloc (.cells #[.slice x28s0 x28n0 x28c0, .slice x28s1 x28n1 x28c1, .int .i64 x28v2] 43) = wm33
      have hywm33 : wm33.heap.size = wc27.heap.size + 1 := by rw [← hqwm33]; simp
      have hbwm33 : Below wc27.heap.size wc27 wm33 := by rw [← hqwm33]; exact (by repeat' (first | (with_reducible exact Below.refl _ _) | (with_reducible apply Below.alloc) | (with_reducible apply Below.drew) | (with_reducible apply below_drawn) | omega | (simp only [World.size_alloc, World.size_setCell, World.size_drew]; omega)))
      have HQwm33_0 : Blk wm33 (wc27.heap.size) [.slice x28s0 x28n0 x28c0, .slice x28s1 x28n1 x28c1, .int .i64 x28v2] 43 := by rw [← hqwm33]; have hnew := blk_new wc27 [.slice x28s0 x28n0 x28c0, .slice x28s1 x28n1 x28c1, .int .i64 x28v2] 43; (try simp only [World.size_alloc] at hnew); exact hnew
      have cf34 : wm33.cell? ⟨wc27.heap.size, 0, none⟩ = some (.slice x28s0 x28n0 x28c0) := HQwm33_0.cell 0 rfl
      have cf35 : wm33.cell? ⟨wc27.heap.size, 1, none⟩ = some (.slice x28s1 x28n1 x28c1) := HQwm33_0.cell 1 rfl
      have cf36 : wm33.cell? ⟨wc27.heap.size, 2, none⟩ = some (.int .i64 x28v2) := HQwm33_0.cell 2 rfl
      clear HQwm33_0
      clear hqwm33
      replace cf4 := cell_b cf4 hbwm33
      replace cf5 := cell_b cf5 hbwm33
      replace cf6 := cell_b cf6 hbwm33
      replace cf7 := cell_b cf7 hbwm33
      replace cf8 := cell_b cf8 hbwm33
      replace cf9 := cell_b cf9 hbwm33
      replace cf24 := cell_b cf24 hbwm33
      replace cf25 := cell_b cf25 hbwm33
      replace cf26 := cell_b cf26 hbwm33
      replace howc12 := howc12.below hbwm33
      replace howc14 := howc14.below hbwm33
      replace howc16 := howc16.below hbwm33
      replace howc18 := howc18.below hbwm33
      replace howc27 := howc27.below hbwm33
      replace hbw : Below w.heap.size w wm33 := hbw.trans (hbwm33.mono hbw.size)
      have hzwm33 : wc27.heap.size ≤ wm33.heap.size := hbwm33.size
      refine (pulledIn_i _ _ _ _ _ howc18.is howc27.is).mono ?_
      rintro e wc37 ⟨y38s0, y38n0, y38c0, rfl, howc37, hbwc37⟩
      replace howc37 : OwnI wm33.heap.size wc37.heap.size wc37 (.slice y38s0 y38n0 y38c0) (pulN g0 g1) := howc37
      replace cf4 := cell_b cf4 hbwc37
      replace cf5 := cell_b cf5 hbwc37
      replace cf6 := cell_b cf6 hbwc37
      replace cf7 := cell_b cf7 hbwc37
      replace cf8 := cell_b cf8 hbwc37
      replace cf9 := cell_b cf9 hbwc37
      replace cf24 := cell_b cf24 hbwc37
      replace cf25 := cell_b cf25 hbwc37
      replace cf26 := cell_b cf26 hbwc37
      replace cf34 := cell_b cf34 hbwc37
      replace cf35 := cell_b cf35 hbwc37
      replace cf36 := cell_b cf36 hbwc37
      replace howc12 := howc12.below hbwc37
      replace howc14 := howc14.below hbwc37
      replace howc16 := howc16.below hbwc37
      replace howc18 := howc18.below hbwc37
      replace howc27 := howc27.below hbwc37
      replace hbw : Below w.heap.size w wc37 := hbw.trans (hbwc37.mono hbw.size)
      have hzwc37 : wm33.heap.size ≤ wc37.heap.size := hbwc37.size
      have hlimwc37 : y38n0 ≤ 1048576 := by have h1 := howc37.len; have h2 := pulN_len g0 g1; omega
      go_wp2_with fail
      refine (eqI_any' howc37.is howc16.is).mono ?_
      rw [tf_true rfl]
      rintro e wc39 ⟨rfl, hbwc39⟩
      replace cf4 := cell_b cf4 hbwc39
      replace cf5 := cell_b cf5 hbwc39
      replace cf6 := cell_b cf6 hbwc39
      replace cf7 := cell_b cf7 hbwc39
      replace cf8 := cell_b cf8 hbwc39
      replace cf9 := cell_b cf9 hbwc39
      replace cf24 := cell_b cf24 hbwc39
      replace cf25 := cell_b cf25 hbwc39
      replace cf26 := cell_b cf26 hbwc39
      replace cf34 := cell_b cf34 hbwc39
      replace cf35 := cell_b cf35 hbwc39
      replace cf36 := cell_b cf36 hbwc39
      replace howc12 := howc12.below hbwc39
      replace howc14 := howc14.below hbwc39
      replace howc16 := howc16.below hbwc39
      replace howc18 := howc18.below hbwc39
      replace howc27 := howc27.below hbwc39
      replace howc37 := howc37.below hbwc39
      replace hbw : Below w.heap.size w wc39 := hbw.trans (hbwc39.mono hbw.size)
      have hzwc39 : wc37.heap.size ≤ wc39.heap.size := hbwc39.size
      go_wp2_with fail
      go_region_held3 (fun w' => w'.cell? ⟨wc18.heap.size, 0, none⟩ = some (.slice x19s0 x19n0 x19c0) ∧ w'.cell? ⟨wc18.heap.size, 1, none⟩ = some (.slice x19s1 x19n1 x19c1) ∧ w'.cell? ⟨wc18.heap.size, 2, none⟩ = some (.slice x19s2 x19n2 x19c2) ∧ w'.cell? ⟨w.heap.size, 0, none⟩ = some (.slice a0s0 a0n0 a0c0) ∧ w'.cell? ⟨w.heap.size, 1, none⟩ = some (.slice a0s1 a0n1 a0c1) ∧ w'.cell? ⟨w.heap.size, 2, none⟩ = some (.slice a0s2 a0n2 a0c2)) (first | exact ⟨cf24, cf25, cf26, cf4, cf5, cf6⟩ | go_keep)
        (first
          | (go_at_call 14; (with_reducible refine (toP_any _ _ _ ((h0.below hbw)).drew (by omega)).mono ?_); rintro e wc40 ⟨x41s0, x41n0, x41c0, x41s1, x41n1, x41c1, x41s2, x41n2, x41c2, rfl, howc40, hbwc40⟩; replace howc40 : OwnP wc39.heap.size wc40.heap.size wc40 (.agg #[.slice x41s0 x41n0 x41c0, .slice x41s1 x41n1 x41c1, .slice x41s2 x41n2 x41c2]) g0 := howc40; replace hbwc40 : Below wc39.heap.size wc39 wc40 := (below_drew _).trans hbwc40; replace cf4 := cell_b cf4 hbwc40; replace cf5 := cell_b cf5 hbwc40; replace cf6 := cell_b cf6 hbwc40; replace cf7 := cell_b cf7 hbwc40; replace cf8 := cell_b cf8 hbwc40; replace cf9 := cell_b cf9 hbwc40; replace cf24 := cell_b cf24 hbwc40; replace cf25 := cell_b cf25 hbwc40; replace cf26 := cell_b cf26 hbwc40; replace cf34 := cell_b cf34 hbwc40; replace cf35 := cell_b cf35 hbwc40; replace cf36 := cell_b cf36 hbwc40; replace howc12 := howc12.below hbwc40; replace howc14 := howc14.below hbwc40; replace howc16 := howc16.below hbwc40; replace howc18 := howc18.below hbwc40; replace howc27 := howc27.below hbwc40; replace howc37 := howc37.below hbwc40; replace hbw : Below w.heap.size w wc40 := hbw.trans (hbwc40.mono hbw.size); have hzwc40 : wc39.heap.size ≤ wc40.heap.size := hbwc40.size)
          | (go_at_call 17; (with_reducible refine (eqP_any _ _ _ _ _ howc18.is howc40.is).mono ?_); rw [tf_true rfl]; rintro e wc42 ⟨rfl, hbwc42⟩; replace cf4 := cell_b cf4 hbwc42; replace cf5 := cell_b cf5 hbwc42; replace cf6 := cell_b cf6 hbwc42; replace cf7 := cell_b cf7 hbwc42; replace cf8 := cell_b cf8 hbwc42; replace cf9 := cell_b cf9 hbwc42; replace cf24 := cell_b cf24 hbwc42; replace cf25 := cell_b cf25 hbwc42; replace cf26 := cell_b cf26 hbwc42; replace cf34 := cell_b cf34 hbwc42; replace cf35 := cell_b cf35 hbwc42; replace cf36 := cell_b cf36 hbwc42; replace howc12 := howc12.below hbwc42; replace howc14 := howc14.below hbwc42; replace howc16 := howc16.below hbwc42; replace howc18 := howc18.below hbwc42; replace howc27 := howc27.below hbwc42; replace howc37 := howc37.below hbwc42; replace howc40 := howc40.below hbwc42; replace hbw : Below w.heap.size w wc42 := hbw.trans (hbwc42.mono hbw.size); have hzwc42 : wc40.heap.size ≤ wc42.heap.size := hbwc42.size))
      go_wp2_with fail
      go_region_held3 (fun w' => w'.cell? ⟨wc27.heap.size, 0, none⟩ = some (.slice x28s0 x28n0 x28c0) ∧ w'.cell? ⟨wc27.heap.size, 1, none⟩ = some (.slice x28s1 x28n1 x28c1) ∧ w'.cell? ⟨wc27.heap.size, 2, none⟩ = some (.int .i64 x28v2) ∧ w'.cell? ⟨w.heap.size + 1, 0, none⟩ = some (.slice a1s0 a1n0 a1c0) ∧ w'.cell? ⟨w.heap.size + 1, 1, none⟩ = some (.slice a1s1 a1n1 a1c1) ∧ w'.cell? ⟨w.heap.size + 1, 2, none⟩ = some (.int .i64 a1v2)) (first | exact ⟨cf34, cf35, cf36, cf7, cf8, cf9⟩ | go_keep)
        (first
          | (go_at_call 25; (with_reducible refine (toS_any _ _ _ ((h1.below hbw)).drew (by omega)).mono ?_); rintro e wc43 ⟨x44s0, x44n0, x44c0, x44s1, x44n1, x44c1, x44v2, rfl, howc43, hbwc43⟩; replace howc43 : OwnS wc42.heap.size wc43.heap.size wc43 (.agg #[.slice x44s0 x44n0 x44c0, .slice x44s1 x44n1 x44c1, .int .i64 x44v2]) g1 := howc43; replace hbwc43 : Below wc42.heap.size wc42 wc43 := (below_drew _).trans hbwc43; replace cf4 := cell_b cf4 hbwc43; replace cf5 := cell_b cf5 hbwc43; replace cf6 := cell_b cf6 hbwc43; replace cf7 := cell_b cf7 hbwc43; replace cf8 := cell_b cf8 hbwc43; replace cf9 := cell_b cf9 hbwc43; replace cf24 := cell_b cf24 hbwc43; replace cf25 := cell_b cf25 hbwc43; replace cf26 := cell_b cf26 hbwc43; replace cf34 := cell_b cf34 hbwc43; replace cf35 := cell_b cf35 hbwc43; replace cf36 := cell_b cf36 hbwc43; replace howc12 := howc12.below hbwc43; replace howc14 := howc14.below hbwc43; replace howc16 := howc16.below hbwc43; replace howc18 := howc18.below hbwc43; replace howc27 := howc27.below hbwc43; replace howc37 := howc37.below hbwc43; replace howc40 := howc40.below hbwc43; replace hbw : Below w.heap.size w wc43 := hbw.trans (hbwc43.mono hbw.size); have hzwc43 : wc42.heap.size ≤ wc43.heap.size := hbwc43.size)
          | (go_at_call 27; (with_reducible refine (eqS_any _ _ _ _ _ howc27.is howc43.is).mono ?_); rw [tf_true rfl]; rintro e wc45 ⟨rfl, hbwc45⟩; replace cf4 := cell_b cf4 hbwc45; replace cf5 := cell_b cf5 hbwc45; replace cf6 := cell_b cf6 hbwc45; replace cf7 := cell_b cf7 hbwc45; replace cf8 := cell_b cf8 hbwc45; replace cf9 := cell_b cf9 hbwc45; replace cf24 := cell_b cf24 hbwc45; replace cf25 := cell_b cf25 hbwc45; replace cf26 := cell_b cf26 hbwc45; replace cf34 := cell_b cf34 hbwc45; replace cf35 := cell_b cf35 hbwc45; replace cf36 := cell_b cf36 hbwc45; replace howc12 := howc12.below hbwc45; replace howc14 := howc14.below hbwc45; replace howc16 := howc16.below hbwc45; replace howc18 := howc18.below hbwc45; replace howc27 := howc27.below hbwc45; replace howc37 := howc37.below hbwc45; replace howc40 := howc40.below hbwc45; replace howc43 := howc43.below hbwc45; replace hbw : Below w.heap.size w wc45 := hbw.trans (hbwc45.mono hbw.size); have hzwc45 : wc43.heap.size ≤ wc45.heap.size := hbwc45.size))
      go_wp2_with fail
      refine (markP_any howc18 _ (by omega) (by omega) (by omega) (by omega)).mono ?_
      rintro e wc46 ⟨rfl, hmwc46, hOwc46⟩
      replace cf4 := cell_o cf4 hOwc46 (by omega)
      replace cf5 := cell_o cf5 hOwc46 (by omega)
      replace cf6 := cell_o cf6 hOwc46 (by omega)
      replace cf7 := cell_o cf7 hOwc46 (by omega)
      replace cf8 := cell_o cf8 hOwc46 (by omega)
      replace cf9 := cell_o cf9 hOwc46 (by omega)
      replace cf24 := cell_o cf24 hOwc46 (by omega)
      replace cf25 := cell_o cf25 hOwc46 (by omega)
      replace cf26 := cell_o cf26 hOwc46 (by omega)
      replace cf34 := cell_o cf34 hOwc46 (by omega)
      replace cf35 := cell_o cf35 hOwc46 (by omega)
      replace cf36 := cell_o cf36 hOwc46 (by omega)
      replace howc12 := howc12.out hOwc46 (by omega)
      replace howc14 := howc14.out hOwc46 (by omega)
      replace howc16 := howc16.out hOwc46 (by omega)
      replace howc27 := howc27.out hOwc46 (by omega)
      replace howc37 := howc37.out hOwc46 (by omega)
      replace howc40 := howc40.out hOwc46 (by omega)
      replace howc43 := howc43.out hOwc46 (by omega)
      replace hbw : Below w.heap.size w wc46 := hbw.trans (hOwc46.below (by omega))
      have hzwc46 : wc45.heap.size ≤ wc46.heap.size := hOwc46.size
      have hlfwc46 : leafP g0 ≤ szP g0 := by unfold leafP leafA leafII szP szA szII; omega
      go_wp2_with fail
      refine (markS_any howc27 _ (by omega) (by omega) (by omega) (by omega)).mono ?_
      rintro e wc47 ⟨rfl, hmwc47, hOwc47⟩
      replace cf4 := cell_o cf4 hOwc47 (by omega)
      replace cf5 := cell_o cf5 hOwc47 (by omega)
      replace cf6 := cell_o cf6 hOwc47 (by omega)
      replace cf7 := cell_o cf7 hOwc47 (by omega)
      replace cf8 := cell_o cf8 hOwc47 (by omega)
      replace cf9 := cell_o cf9 hOwc47 (by omega)
      replace cf24 := cell_o cf24 hOwc47 (by omega)
      replace cf25 := cell_o cf25 hOwc47 (by omega)
      replace cf26 := cell_o cf26 hOwc47 (by omega)
      replace cf34 := cell_o cf34 hOwc47 (by omega)
      replace cf35 := cell_o cf35 hOwc47 (by omega)
      replace cf36 := cell_o cf36 hOwc47 (by omega)
      replace howc12 := howc12.out hOwc47 (by omega)
      replace howc14 := howc14.out hOwc47 (by omega)
      replace howc16 := howc16.out hOwc47 (by omega)
      replace howc37 := howc37.out hOwc47 (by omega)
      replace howc40 := howc40.out hOwc47 (by omega)
      replace howc43 := howc43.out hOwc47 (by omega)
      replace hmwc46 := hmwc46.out hOwc47 (by omega)
      replace hbw : Below w.heap.size w wc47 := hbw.trans (hOwc47.below (by omega))
      have hzwc47 : wc46.heap.size ≤ wc47.heap.size := hOwc47.size
      have hlfwc47 : leafS g1 ≤ szS g1 := by unfold leafS szS; omega
      go_wp2_with fail
      refine (eqI_any' howc37.is howc16.is).mono ?_
      rw [tf_true rfl]
      rintro e wc48 ⟨rfl, hbwc48⟩
      replace cf4 := cell_b cf4 hbwc48
      replace cf5 := cell_b cf5 hbwc48
      replace cf6 := cell_b cf6 hbwc48
      replace cf7 := cell_b cf7 hbwc48
      replace cf8 := cell_b cf8 hbwc48
      replace cf9 := cell_b cf9 hbwc48
      replace cf24 := cell_b cf24 hbwc48
      replace cf25 := cell_b cf25 hbwc48
      replace cf26 := cell_b cf26 hbwc48
      replace cf34 := cell_b cf34 hbwc48
      replace cf35 := cell_b cf35 hbwc48
      replace cf36 := cell_b cf36 hbwc48
      replace howc12 := howc12.below hbwc48
      replace howc14 := howc14.below hbwc48
      replace howc16 := howc16.below hbwc48
      replace howc37 := howc37.below hbwc48
      replace howc40 := howc40.below hbwc48
      replace howc43 := howc43.below hbwc48
      replace hmwc46 := hmwc46.below hbwc48
      replace hmwc47 := hmwc47.below hbwc48
      replace hbw : Below w.heap.size w wc48 := hbw.trans (hbwc48.mono hbw.size)
      have hzwc48 : wc47.heap.size ≤ wc48.heap.size := hbwc48.size
      go_wp2_with fail
      refine (markI_law howc37 _ (by omega) (by omega) (by omega)).mono ?_
      rintro e wc49 ⟨rfl, hmwc49, hOwc49⟩
      replace cf4 := cell_o cf4 hOwc49 (by omega)
      replace cf5 := cell_o cf5 hOwc49 (by omega)
      replace cf6 := cell_o cf6 hOwc49 (by omega)
      replace cf7 := cell_o cf7 hOwc49 (by omega)
      replace cf8 := cell_o cf8 hOwc49 (by omega)
      replace cf9 := cell_o cf9 hOwc49 (by omega)
      replace cf24 := cell_o cf24 hOwc49 (by omega)
      replace cf25 := cell_o cf25 hOwc49 (by omega)
      replace cf26 := cell_o cf26 hOwc49 (by omega)
      replace cf34 := cell_o cf34 hOwc49 (by omega)
      replace cf35 := cell_o cf35 hOwc49 (by omega)
      replace cf36 := cell_o cf36 hOwc49 (by omega)
      replace howc12 := howc12.out hOwc49 (by omega)
      replace howc14 := howc14.out hOwc49 (by omega)
      replace howc16 := howc16.out hOwc49 (by omega)
      replace howc40 := howc40.out hOwc49 (by omega)
      replace howc43 := howc43.out hOwc49 (by omega)
      replace hmwc46 := hmwc46.out hOwc49 (by omega)
      replace hmwc47 := hmwc47.out hOwc49 (by omega)
      replace hbw : Below w.heap.size w wc49 := hbw.trans (hOwc49.below (by omega))
      have hzwc49 : wc48.heap.size ≤ wc49.heap.size := hOwc49.size
      go_wp2_with fail
      refine (heldI_law _ hmwc49.is (by omega) (by omega) (by omega)).mono ?_
      rintro e wc50 ⟨rfl, hbwc50⟩
      replace cf4 := cell_b cf4 hbwc50
      replace cf5 := cell_b cf5 hbwc50
      replace cf6 := cell_b cf6 hbwc50
      replace cf7 := cell_b cf7 hbwc50
      replace cf8 := cell_b cf8 hbwc50
      replace cf9 := cell_b cf9 hbwc50
      replace cf24 := cell_b cf24 hbwc50
      replace cf25 := cell_b cf25 hbwc50
      replace cf26 := cell_b cf26 hbwc50
      replace cf34 := cell_b cf34 hbwc50
      replace cf35 := cell_b cf35 hbwc50
      replace cf36 := cell_b cf36 hbwc50
      replace howc12 := howc12.below hbwc50
      replace howc14 := howc14.below hbwc50
      replace howc16 := howc16.below hbwc50
      replace howc40 := howc40.below hbwc50
      replace howc43 := howc43.below hbwc50
      replace hmwc46 := hmwc46.below hbwc50
      replace hmwc47 := hmwc47.below hbwc50
      replace hmwc49 := hmwc49.below hbwc50
      replace hbw : Below w.heap.size w wc50 := hbw.trans (hbwc50.mono hbw.size)
      have hzwc50 : wc49.heap.size ≤ wc50.heap.size := hbwc50.size
      go_wp2_with fail
      go_region_held3 (fun w' => w'.cell? ⟨w.heap.size, 0, none⟩ = some (.slice a0s0 a0n0 a0c0) ∧ w'.cell? ⟨w.heap.size, 1, none⟩ = some (.slice a0s1 a0n1 a0c1) ∧ w'.cell? ⟨w.heap.size, 2, none⟩ = some (.slice a0s2 a0n2 a0c2) ∧ w'.cell? ⟨w.heap.size + 1, 0, none⟩ = some (.slice a1s0 a1n0 a1c0) ∧ w'.cell? ⟨w.heap.size + 1, 1, none⟩ = some (.slice a1s1 a1n1 a1c1) ∧ w'.cell? ⟨w.heap.size + 1, 2, none⟩ = some (.int .i64 a1v2)) (first | exact ⟨cf4, cf5, cf6, cf7, cf8, cf9⟩ | go_keep)
        (first
          | (go_at_call 14; (with_reducible refine (toP_any _ _ _ ((h0.below hbw)).drew (by omega)).mono ?_); rintro e wc51 ⟨x52s0, x52n0, x52c0, x52s1, x52n1, x52c1, x52s2, x52n2, x52c2, rfl, howc51, hbwc51⟩; replace howc51 : OwnP wc50.heap.size wc51.heap.size wc51 (.agg #[.slice x52s0 x52n0 x52c0, .slice x52s1 x52n1 x52c1, .slice x52s2 x52n2 x52c2]) g0 := howc51; replace hbwc51 : Below wc50.heap.size wc50 wc51 := (below_drew _).trans hbwc51; replace cf4 := cell_b cf4 hbwc51; replace cf5 := cell_b cf5 hbwc51; replace cf6 := cell_b cf6 hbwc51; replace cf7 := cell_b cf7 hbwc51; replace cf8 := cell_b cf8 hbwc51; replace cf9 := cell_b cf9 hbwc51; replace cf24 := cell_b cf24 hbwc51; replace cf25 := cell_b cf25 hbwc51; replace cf26 := cell_b cf26 hbwc51; replace cf34 := cell_b cf34 hbwc51; replace cf35 := cell_b cf35 hbwc51; replace cf36 := cell_b cf36 hbwc51; replace howc12 := howc12.below hbwc51; replace howc14 := howc14.below hbwc51; replace howc16 := howc16.below hbwc51; replace howc40 := howc40.below hbwc51; replace howc43 := howc43.below hbwc51; replace hmwc46 := hmwc46.below hbwc51; replace hmwc47 := hmwc47.below hbwc51; replace hmwc49 := hmwc49.below hbwc51; replace hbw : Below w.heap.size w wc51 := hbw.trans (hbwc51.mono hbw.size); have hzwc51 : wc50.heap.size ≤ wc51.heap.size := hbwc51.size)
          | (go_at_call 25; (with_reducible refine (toS_any _ _ _ (h1.below hbw) (by omega)).mono ?_); rintro e wc53 ⟨x54s0, x54n0, x54c0, x54s1, x54n1, x54c1, x54v2, rfl, howc53, hbwc53⟩; replace howc53 : OwnS wc51.heap.size wc53.heap.size wc53 (.agg #[.slice x54s0 x54n0 x54c0, .slice x54s1 x54n1 x54c1, .int .i64 x54v2]) g1 := howc53; replace cf4 := cell_b cf4 hbwc53; replace cf5 := cell_b cf5 hbwc53; replace cf6 := cell_b cf6 hbwc53; replace cf7 := cell_b cf7 hbwc53; replace cf8 := cell_b cf8 hbwc53; replace cf9 := cell_b cf9 hbwc53; replace cf24 := cell_b cf24 hbwc53; replace cf25 := cell_b cf25 hbwc53; replace cf26 := cell_b cf26 hbwc53; replace cf34 := cell_b cf34 hbwc53; replace cf35 := cell_b cf35 hbwc53; replace cf36 := cell_b cf36 hbwc53; replace howc12 := howc12.below hbwc53; replace howc14 := howc14.below hbwc53; replace howc16 := howc16.below hbwc53; replace howc40 := howc40.below hbwc53; replace howc43 := howc43.below hbwc53; replace hmwc46 := hmwc46.below hbwc53; replace hmwc47 := hmwc47.below hbwc53; replace hmwc49 := hmwc49.below hbwc53; replace howc51 := howc51.below hbwc53; replace hbw : Below w.heap.size w wc53 := hbw.trans (hbwc53.mono hbw.size); have hzwc53 : wc51.heap.size ≤ wc53.heap.size := hbwc53.size)
          | (go_at_call 36; (with_reducible refine (pulledIn_i _ _ _ _ _ howc51.is howc53.is).mono ?_); rintro e wc55 ⟨y56s0, y56n0, y56c0, rfl, howc55, hbwc55⟩; replace howc55 : OwnI wc53.heap.size wc55.heap.size wc55 (.slice y56s0 y56n0 y56c0) (pulN g0 g1) := howc55; replace cf4 := cell_b cf4 hbwc55; replace cf5 := cell_b cf5 hbwc55; replace cf6 := cell_b cf6 hbwc55; replace cf7 := cell_b cf7 hbwc55; replace cf8 := cell_b cf8 hbwc55; replace cf9 := cell_b cf9 hbwc55; replace cf24 := cell_b cf24 hbwc55; replace cf25 := cell_b cf25 hbwc55; replace cf26 := cell_b cf26 hbwc55; replace cf34 := cell_b cf34 hbwc55; replace cf35 := cell_b cf35 hbwc55; replace cf36 := cell_b cf36 hbwc55; replace howc12 := howc12.below hbwc55; replace howc14 := howc14.below hbwc55; replace howc16 := howc16.below hbwc55; replace howc40 := howc40.below hbwc55; replace howc43 := howc43.below hbwc55; replace hmwc46 := hmwc46.below hbwc55; replace hmwc47 := hmwc47.below hbwc55; replace hmwc49 := hmwc49.below hbwc55; replace howc51 := howc51.below hbwc55; replace howc53 := howc53.below hbwc55; replace hbw : Below w.heap.size w wc55 := hbw.trans (hbwc55.mono hbw.size); have hzwc55 : wc53.heap.size ≤ wc55.heap.size := hbwc55.size; have hlimwc55 : y56n0 ≤ 1048576 := by have h1 := howc55.len; have h2 := pulN_len g0 g1; omega))
      go_wp2_with fail
      refine (eqI_any' howc55.is howc16.is).mono ?_
      rw [tf_true rfl]
      rintro e wc57 ⟨rfl, hbwc57⟩
      replace cf4 := cell_b cf4 hbwc57
      replace cf5 := cell_b cf5 hbwc57
      replace cf6 := cell_b cf6 hbwc57
      replace cf7 := cell_b cf7 hbwc57
      replace cf8 := cell_b cf8 hbwc57
      replace cf9 := cell_b cf9 hbwc57
      replace cf24 := cell_b cf24 hbwc57
      replace cf25 := cell_b cf25 hbwc57
      replace cf26 := cell_b cf26 hbwc57
      replace cf34 := cell_b cf34 hbwc57
      replace cf35 := cell_b cf35 hbwc57
      replace cf36 := cell_b cf36 hbwc57
      replace howc12 := howc12.below hbwc57
      replace howc14 := howc14.below hbwc57
      replace howc16 := howc16.below hbwc57
      replace howc40 := howc40.below hbwc57
      replace howc43 := howc43.below hbwc57
      replace hmwc46 := hmwc46.below hbwc57
      replace hmwc47 := hmwc47.below hbwc57
      replace hmwc49 := hmwc49.below hbwc57
      replace howc51 := howc51.below hbwc57
      replace howc53 := howc53.below hbwc57
      replace howc55 := howc55.below hbwc57
      replace hbw : Below w.heap.size w wc57 := hbw.trans (hbwc57.mono hbw.size)
      have hzwc57 : wc55.heap.size ≤ wc57.heap.size := hbwc57.size
      go_wp2_with fail
      refine (heldI_law _ hmwc49.is (by omega) (by omega) (by omega)).mono ?_
      rintro e wc58 ⟨rfl, hbwc58⟩
      replace cf4 := cell_b cf4 hbwc58
      replace cf5 := cell_b cf5 hbwc58
      replace cf6 := cell_b cf6 hbwc58
      replace cf7 := cell_b cf7 hbwc58
      replace cf8 := cell_b cf8 hbwc58
      replace cf9 := cell_b cf9 hbwc58
      replace cf24 := cell_b cf24 hbwc58
      replace cf25 := cell_b cf25 hbwc58
      replace cf26 := cell_b cf26 hbwc58
      replace cf34 := cell_b cf34 hbwc58
      replace cf35 := cell_b cf35 hbwc58
      replace cf36 := cell_b cf36 hbwc58
      replace howc12 := howc12.below hbwc58
      replace howc14 := howc14.below hbwc58
      replace howc16 := howc16.below hbwc58
      replace howc40 := howc40.below hbwc58
      replace howc43 := howc43.below hbwc58
      replace hmwc46 := hmwc46.below hbwc58
      replace hmwc47 := hmwc47.below hbwc58
      replace hmwc49 := hmwc49.below hbwc58
      replace howc51 := howc51.below hbwc58
      replace howc53 := howc53.below hbwc58
      replace howc55 := howc55.below hbwc58
      replace hbw : Below w.heap.size w wc58 := hbw.trans (hbwc58.mono hbw.size)
      have hzwc58 : wc57.heap.size ≤ wc58.heap.size := hbwc58.size
      go_wp2_with fail
      go_ret
      exact ⟨rfl, hbw⟩
    · have hz_1 := lft_no (l := 1048576 - ((szP g0 : Nat) : Int)) (n := szS g1) (by omega)
      go_enter Try.func8, Try.ntmps8
      have hbw : Below w.heap.size w w := Below.refl _ _
      go_wp2_with fail
      generalize hqwm3 : (w.alloc (.cells #[.slice a0s0 a0n0 a0c0, .slice a0s1 a0n1 a0c1, .slice a0s2 a0n2 a0c2] 27)).alloc (.cells #[.slice a1s0 a1n0 a1c0, .slice a1s1 a1n1 a1c1, .int .i64 a1v2] 40) = wm3
      have hywm3 : wm3.heap.size = w.heap.size + 2 := by rw [← hqwm3]; simp
      have hbwm3 : Below w.heap.size w wm3 := by rw [← hqwm3]; exact (by repeat' (first | (with_reducible exact Below.refl _ _) | (with_reducible apply Below.alloc) | (with_reducible apply Below.drew) | (with_reducible apply below_drawn) | omega | (simp only [World.size_alloc, World.size_setCell, World.size_drew]; omega)))
      have HQwm3_0 : Blk wm3 (w.heap.size) [.slice a0s0 a0n0 a0c0, .slice a0s1 a0n1 a0c1, .slice a0s2 a0n2 a0c2] 27 := by rw [← hqwm3]; have hnew := blk_new w [.slice a0s0 a0n0 a0c0, .slice a0s1 a0n1 a0c1, .slice a0s2 a0n2 a0c2] 27; (try simp only [World.size_alloc] at hnew); exact (Blk.alloc hnew _)
      have cf4 : wm3.cell? ⟨w.heap.size, 0, none⟩ = some (.slice a0s0 a0n0 a0c0) := HQwm3_0.cell 0 rfl
      have cf5 : wm3.cell? ⟨w.heap.size, 1, none⟩ = some (.slice a0s1 a0n1 a0c1) := HQwm3_0.cell 1 rfl
      have cf6 : wm3.cell? ⟨w.heap.size, 2, none⟩ = some (.slice a0s2 a0n2 a0c2) := HQwm3_0.cell 2 rfl
      clear HQwm3_0
      have HQwm3_1 : Blk wm3 (w.heap.size + 1) [.slice a1s0 a1n0 a1c0, .slice a1s1 a1n1 a1c1, .int .i64 a1v2] 40 := by rw [← hqwm3]; have hnew := blk_new (w.alloc (.cells #[.slice a0s0 a0n0 a0c0, .slice a0s1 a0n1 a0c1, .slice a0s2 a0n2 a0c2] 27)) [.slice a1s0 a1n0 a1c0, .slice a1s1 a1n1 a1c1, .int .i64 a1v2] 40; (try simp only [World.size_alloc] at hnew); exact hnew
      have cf7 : wm3.cell? ⟨w.heap.size + 1, 0, none⟩ = some (.slice a1s0 a1n0 a1c0) := HQwm3_1.cell 0 rfl
      have cf8 : wm3.cell? ⟨w.heap.size + 1, 1, none⟩ = some (.slice a1s1 a1n1 a1c1) := HQwm3_1.cell 1 rfl
      have cf9 : wm3.cell? ⟨w.heap.size + 1, 2, none⟩ = some (.int .i64 a1v2) := HQwm3_1.cell 2 rfl
      clear HQwm3_1
      clear hqwm3
      replace hbw : Below w.heap.size w wm3 := hbw.trans (hbwm3.mono hbw.size)
      have hzwm3 : w.heap.size ≤ wm3.heap.size := hbwm3.size
      refine (szP_any _ _ _ _ (h0.below hbw) (by omega) (by omega)).mono ?_
      rw [hz_0]
      rintro e wc10 ⟨rfl, hbwc10⟩
      replace cf4 := cell_b cf4 hbwc10
      replace cf5 := cell_b cf5 hbwc10
      replace cf6 := cell_b cf6 hbwc10
      replace cf7 := cell_b cf7 hbwc10
      replace cf8 := cell_b cf8 hbwc10
      replace cf9 := cell_b cf9 hbwc10
      replace hbw : Below w.heap.size w wc10 := hbw.trans (hbwc10.mono hbw.size)
      have hzwc10 : wm3.heap.size ≤ wc10.heap.size := hbwc10.size
      go_wp2_with fail
      refine (szS_any _ _ _ _ (h1.below hbw) (by omega) (by omega)).mono ?_
      rw [hz_1]
      rintro e wc11 ⟨rfl, hbwc11⟩
      replace cf4 := cell_b cf4 hbwc11
      replace cf5 := cell_b cf5 hbwc11
      replace cf6 := cell_b cf6 hbwc11
      replace cf7 := cell_b cf7 hbwc11
      replace cf8 := cell_b cf8 hbwc11
      replace cf9 := cell_b cf9 hbwc11
      replace hbw : Below w.heap.size w wc11 := hbw.trans (hbwc11.mono hbw.size)
      have hzwc11 : wc10.heap.size ≤ wc11.heap.size := hbwc11.size
      go_wp2_with fail
      go_ret
      exact ⟨rfl, hbw⟩
  · have hz_0 := lft_no (l := 1048576) (n := szP g0) (by omega)
    go_enter Try.func8, Try.ntmps8
    have hbw : Below w.heap.size w w := Below.refl _ _
    go_wp2_with fail
    generalize hqwm3 : (w.alloc (.cells #[.slice a0s0 a0n0 a0c0, .slice a0s1 a0n1 a0c1, .slice a0s2 a0n2 a0c2] 27)).alloc (.cells #[.slice a1s0 a1n0 a1c0, .slice a1s1 a1n1 a1c1, .int .i64 a1v2] 40) = wm3
    have hywm3 : wm3.heap.size = w.heap.size + 2 := by rw [← hqwm3]; simp
    have hbwm3 : Below w.heap.size w wm3 := by rw [← hqwm3]; exact (by repeat' (first | (with_reducible exact Below.refl _ _) | (with_reducible apply Below.alloc) | (with_reducible apply Below.drew) | (with_reducible apply below_drawn) | omega | (simp only [World.size_alloc, World.size_setCell, World.size_drew]; omega)))
    have HQwm3_0 : Blk wm3 (w.heap.size) [.slice a0s0 a0n0 a0c0, .slice a0s1 a0n1 a0c1, .slice a0s2 a0n2 a0c2] 27 := by rw [← hqwm3]; have hnew := blk_new w [.slice a0s0 a0n0 a0c0, .slice a0s1 a0n1 a0c1, .slice a0s2 a0n2 a0c2] 27; (try simp only [World.size_alloc] at hnew); exact (Blk.alloc hnew _)
    have cf4 : wm3.cell? ⟨w.heap.size, 0, none⟩ = some (.slice a0s0 a0n0 a0c0) := HQwm3_0.cell 0 rfl
    have cf5 : wm3.cell? ⟨w.heap.size, 1, none⟩ = some (.slice a0s1 a0n1 a0c1) := HQwm3_0.cell 1 rfl
    have cf6 : wm3.cell? ⟨w.heap.size, 2, none⟩ = some (.slice a0s2 a0n2 a0c2) := HQwm3_0.cell 2 rfl
    clear HQwm3_0
    have HQwm3_1 : Blk wm3 (w.heap.size + 1) [.slice a1s0 a1n0 a1c0, .slice a1s1 a1n1 a1c1, .int .i64 a1v2] 40 := by rw [← hqwm3]; have hnew := blk_new (w.alloc (.cells #[.slice a0s0 a0n0 a0c0, .slice a0s1 a0n1 a0c1, .slice a0s2 a0n2 a0c2] 27)) [.slice a1s0 a1n0 a1c0, .slice a1s1 a1n1 a1c1, .int .i64 a1v2] 40; (try simp only [World.size_alloc] at hnew); exact hnew
    have cf7 : wm3.cell? ⟨w.heap.size + 1, 0, none⟩ = some (.slice a1s0 a1n0 a1c0) := HQwm3_1.cell 0 rfl
    have cf8 : wm3.cell? ⟨w.heap.size + 1, 1, none⟩ = some (.slice a1s1 a1n1 a1c1) := HQwm3_1.cell 1 rfl
    have cf9 : wm3.cell? ⟨w.heap.size + 1, 2, none⟩ = some (.int .i64 a1v2) := HQwm3_1.cell 2 rfl
    clear HQwm3_1
    clear hqwm3
    replace hbw : Below w.heap.size w wm3 := hbw.trans (hbwm3.mono hbw.size)
    have hzwm3 : w.heap.size ≤ wm3.heap.size := hbwm3.size
    refine (szP_any _ _ _ _ (h0.below hbw) (by omega) (by omega)).mono ?_
    rw [hz_0]
    rintro e wc10 ⟨rfl, hbwc10⟩
    replace cf4 := cell_b cf4 hbwc10
    replace cf5 := cell_b cf5 hbwc10
    replace cf6 := cell_b cf6 hbwc10
    replace cf7 := cell_b cf7 hbwc10
    replace cf8 := cell_b cf8 hbwc10
    replace cf9 := cell_b cf9 hbwc10
    replace hbw : Below w.heap.size w wc10 := hbw.trans (hbwc10.mono hbw.size)
    have hzwc10 : wm3.heap.size ≤ wc10.heap.size := hbwc10.size
    go_wp2_with fail
    go_ret
    exact ⟨rfl, hbw⟩
open Go.ChangeShapes Go.WideShapes Go.ChangeAt
theorem rec : ∀ t ∈ Try.f8.params.toList, Try.prog.readableRec t = true ∧ t < Try.prog.types.size := by
  rw [Try.params8]
  intro t ht
  simp only [List.mem_cons, List.not_mem_nil, or_false] at ht
  rcases ht with rfl | rfl
  all_goals exact ⟨by kernel_rfl, of_decide_eq_true (by kernel_rfl)⟩
set_option maxRecDepth 100000 in
theorem lifted (os : Os) (started : os.Started) (H : Type) (enc : TypeId × Value → H) :
    ReturnsInHanded {} Try.checked os 8 .any (Rows.fnExactPulledInSpec.pre6 enc Try.prog Try.f8 Rows.fnExactPulledInRow.domain false) (Rows.fnExactPulledInSpec.post enc Try.prog Try.f8 false true false false) := by
  refine returnsInHanded_of_change (C := Try.checked) own started (by kernel_rfl) Try.func8
    (ChangeSpec.witness6 (enc := enc) (C := Try.checked) false ⟨#[], #[.agg #[.slice none 0 0, .slice none 0 0, .slice none 0 0], .agg #[.slice none 0 0, .slice none 0 0, .int .i64 0]], []⟩ 8 (by kernel_rfl) (by kernel_rfl) (by kernel_rfl) (by kernel_rfl)) ?_
  intro W base args ds gs before hval0 hW hcnd _
  have hval : ∀ (j : Nat) t v, Try.f8.params[j]? = some t → args[j]? = some v → Value.okWide Try.prog W .any base t v := hval0
  have hW' := hW
  obtain ⟨p, q, hA0, hV, rfl, hfz, hnd⟩ := hW
  have hA : DataW.TrodAll enc Try.prog W 0 (fun _ => true) true Try.f8.params.toList args.toList ds p := hA0
  rw [Try.params8] at hA hval
  obtain ⟨v0, vs0, d0, ds0, p0, q0, hargs, rfl, rfl, t0, r0⟩ := trodAll_cons hA
  obtain ⟨v1, vs1, d1, ds1, p1, q1, rfl, rfl, rfl, t1, r1⟩ := trodAll_cons r0
  obtain ⟨rfl, rfl, rfl⟩ := trodAll_nil r1
  obtain rfl : args = #[v0, v1] := by cases args; simp_all
  obtain ⟨rfl, rfl⟩ := trodVars_none hV
  obtain ⟨g0, h0, wf0⟩ := openP (hval 0 _ v0 rfl rfl) t0
  obtain ⟨g1, h1, wf1⟩ := openS (hval 1 _ v1 rfl rfl) t1
  clear hA0 hval0
  refine (walk v0 g0 v1 g1 W h0 h1 wf0 wf1).mono fun e W' ⟨he, hb⟩ => ?_
  subst he
  exact ⟨_, rfl, law_post laid rec (by kernel_rfl) rfl rfl hW' hb⟩
theorem over : Rows.fnExactPulledInRow.holds Try.pinned (OpenSpec.ofChange Rows.fnExactPulledInSpec) :=
  OpenClaim.holds_of_wide 8 Try.f8 rfl rfl rfl rfl rfl rfl rfl ⟨rfl, rfl, rfl, rfl, rfl⟩ rfl rfl rfl rfl rfl (by kernel_rfl) Try.func8 (by kernel_rfl)
    (of_decide_eq_true (by kernel_rfl)) (by unfold Func.isWrapper; first | (rw [if_pos (by decide +kernel)]; kernel_rfl) | (rw [if_neg (by decide +kernel)]; exact ⟨rfl, rfl⟩))
    (fun os started H enc _ => lifted os started H enc)
theorem proved : Rows.FnExactPulledInSaid := over
#print axioms proved
end Go.Proofs.Ytfmnikiinfbanaa.fnExactPulledIn
