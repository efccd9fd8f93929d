/-
  For every input the law FnExactShutIn returns true and leaves its arguments as they were: the program's ShutIn returns what the reference's returns. No condition.
-/
import Derived.Test.YtfmnikiinfbanaaZaLaw
import Derived.Test.YtfmnikiinfbanaaZaL7
import Derived.Test.YtfmnikiinfbanaaZaCb
import Derived.Test.YtfmnikiinfbanaaZaStgA
namespace Go.Proofs.Ytfmnikiinfbanaa.fnExactShutIn
set_option linter.unusedVariables false
set_option linter.unusedSimpArgs false
open Go.RowKit
attribute [local go_sem ↓] Go.wp_at_zero Go.wp_at_succ
set_option maxRecDepth 100000 in
set_option maxHeartbeats 4000000 in
theorem walk (u0 : Value) (g0 : Pa) (u1 : Value) (g1 : St) (w : World) (h0 : IsP w u0 g0) (h1 : IsS w u1 g1) (wf0 : WfP g0) (wf1 : WfS g1) : Calls Try.prog 7 #[u0, u1] w (Bb w true) := by
  obtain ⟨a0s0, a0n0, a0c0, a0s1, a0n1, a0c1, a0s2, a0n2, a0c2, rfl⟩ := h0.form
  obtain ⟨a1s0, a1n0, a1c0, a1s1, a1n1, a1c1, a1v2, rfl⟩ := h1.form
  by_cases hn_0 : ((szP g0 : Nat) : Int) ≤ 1048576
  · have hz_0 := lft_ok hn_0
    replace hn_0 : szP g0 ≤ 1048576 - (0) := by omega
    have hp_0 : (0 : Int) ≤ 1048576 - ((szP g0 : Nat) : Int) := by omega
    by_cases hn_1 : ((szS g1 : Nat) : Int) ≤ 1048576 - ((szP g0 : Nat) : Int)
    · have hz_1 := lft_ok hn_1
      replace hn_1 : szS g1 ≤ 1048576 - (0 + szP g0) := by omega
      have hp_1 : (0 : Int) ≤ 1048576 - ((szP g0 : Nat) : Int) - ((szS g1 : Nat) : Int) := by omega
      go_enter Try.func7, Try.ntmps7
      have hbw : Below w.heap.size w w := Below.refl _ _
      go_wp2_with fail
      generalize hqwm3 : (w.alloc (.cells #[.slice a0s0 a0n0 a0c0, .slice a0s1 a0n1 a0c1, .slice a0s2 a0n2 a0c2] 27)).alloc (.cells #[.slice a1s0 a1n0 a1c0, .slice a1s1 a1n1 a1c1, .int .i64 a1v2] 40) = wm3
      have hywm3 : wm3.heap.size = w.heap.size + 2 := by rw [← hqwm3]; simp
      have hbwm3 : Below w.heap.size w wm3 := by rw [← hqwm3]; exact (by repeat' (first | (with_reducible exact Below.refl _ _) | (with_reducible apply Below.alloc) | (with_reducible apply Below.drew) | (with_reducible apply below_drawn) | omega | (simp only [World.size_alloc, World.size_setCell, World.size_drew]; omega)))
      have HQwm3_0 : Blk wm3 (w.heap.size) [.slice a0s0 a0n0 a0c0, .slice a0s1 a0n1 a0c1, .slice a0s2 a0n2 a0c2] 27 := by rw [← hqwm3]; have hnew := blk_new w [.slice a0s0 a0n0 a0c0, .slice a0s1 a0n1 a0c1, .slice a0s2 a0n2 a0c2] 27; (try simp only [World.size_alloc] at hnew); exact (Blk.alloc hnew _)
      have cf4 : wm3.cell? ⟨w.heap.size, 0, none⟩ = some (.slice a0s0 a0n0 a0c0) := HQwm3_0.cell 0 rfl
      have cf5 : wm3.cell? ⟨w.heap.size, 1, none⟩ = some (.slice a0s1 a0n1 a0c1) := HQwm3_0.cell 1 rfl
      have cf6 : wm3.cell? ⟨w.heap.size, 2, none⟩ = some (.slice a0s2 a0n2 a0c2) := HQwm3_0.cell 2 rfl
      clear HQwm3_0
      have HQwm3_1 : Blk wm3 (w.heap.size + 1) [.slice a1s0 a1n0 a1c0, .slice a1s1 a1n1 a1c1, .int .i64 a1v2] 40 := by rw [← hqwm3]; have hnew := blk_new (w.alloc (.cells #[.slice a0s0 a0n0 a0c0, .slice a0s1 a0n1 a0c1, .slice a0s2 a0n2 a0c2] 27)) [.slice a1s0 a1n0 a1c0, .slice a1s1 a1n1 a1c1, .int .i64 a1v2] 40; (try simp only [World.size_alloc] at hnew); exact hnew
      have cf7 : wm3.cell? ⟨w.heap.size + 1, 0, none⟩ = some (.slice a1s0 a1n0 a1c0) := HQwm3_1.cell 0 rfl
      have cf8 : wm3.cell? ⟨w.heap.size + 1, 1, none⟩ = some (.slice a1s1 a1n1 a1c1) := HQwm3_1.cell 1 rfl
      have cf9 : wm3.cell? ⟨w.heap.size + 1, 2, none⟩ = some (.int .i64 a1v2) := HQwm3_1.cell 2 rfl
      clear HQwm3_1
      clear hqwm3
      replace hbw : Below w.heap.size w wm3 := hbw.trans (hbwm3.mono hbw.size)
      have hzwm3 : w.heap.size ≤ wm3.heap.size := hbwm3.size
      refine (szP_any _ _ _ _ (h0.below hbw) (by omega) (by omega)).mono ?_
      rw [hz_0]
      rintro e wc10 ⟨rfl, hbwc10⟩
      replace cf4 := cell_b cf4 hbwc10
      replace cf5 := cell_b cf5 hbwc10
      replace cf6 := cell_b cf6 hbwc10
      replace cf7 := cell_b cf7 hbwc10
      replace cf8 := cell_b cf8 hbwc10
      replace cf9 := cell_b cf9 hbwc10
      replace hbw : Below w.heap.size w wc10 := hbw.trans (hbwc10.mono hbw.size)
      have hzwc10 : wm3.heap.size ≤ wc10.heap.size := hbwc10.size
      go_wp2_with fail
      refine (szS_any _ _ _ _ (h1.below hbw) (by omega) (by omega)).mono ?_
      rw [hz_1]
      rintro e wc11 ⟨rfl, hbwc11⟩
      replace cf4 := cell_b cf4 hbwc11
      replace cf5 := cell_b cf5 hbwc11
      replace cf6 := cell_b cf6 hbwc11
      replace cf7 := cell_b cf7 hbwc11
      replace cf8 := cell_b cf8 hbwc11
      replace cf9 := cell_b cf9 hbwc11
      replace hbw : Below w.heap.size w wc11 := hbw.trans (hbwc11.mono hbw.size)
      have hzwc11 : wc10.heap.size ≤ wc11.heap.size := hbwc11.size
      go_wp2_with fail
      go_region_held3 (fun w' => w'.cell? ⟨w.heap.size, 0, none⟩ = some (.slice a0s0 a0n0 a0c0) ∧ w'.cell? ⟨w.heap.size, 1, none⟩ = some (.slice a0s1 a0n1 a0c1) ∧ w'.cell? ⟨w.heap.size, 2, none⟩ = some (.slice a0s2 a0n2 a0c2) ∧ w'.cell? ⟨w.heap.size + 1, 0, none⟩ = some (.slice a1s0 a1n0 a1c0) ∧ w'.cell? ⟨w.heap.size + 1, 1, none⟩ = some (.slice a1s1 a1n1 a1c1) ∧ w'.cell? ⟨w.heap.size + 1, 2, none⟩ = some (.int .i64 a1v2)) (first | exact ⟨cf4, cf5, cf6, cf7, cf8, cf9⟩ | go_keep)
        (first
          | (go_at_call 14; (with_reducible refine (toP_any _ _ _ ((h0.below hbw)).drew (by omega)).mono ?_); rintro e wc12 ⟨x13s0, x13n0, x13c0, x13s1, x13n1, x13c1, x13s2, x13n2, x13c2, rfl, howc12, hbwc12⟩; replace howc12 : OwnP wc11.heap.size wc12.heap.size wc12 (.agg #[.slice x13s0 x13n0 x13c0, .slice x13s1 x13n1 x13c1, .slice x13s2 x13n2 x13c2]) g0 := howc12; replace hbwc12 : Below wc11.heap.size wc11 wc12 := (below_drew _).trans hbwc12; replace cf4 := cell_b cf4 hbwc12; replace cf5 := cell_b cf5 hbwc12; replace cf6 := cell_b cf6 hbwc12; replace cf7 := cell_b cf7 hbwc12; replace cf8 := cell_b cf8 hbwc12; replace cf9 := cell_b cf9 hbwc12; replace hbw : Below w.heap.size w wc12 := hbw.trans (hbwc12.mono hbw.size); have hzwc12 : wc11.heap.size ≤ wc12.heap.size := hbwc12.size)
          | (go_at_call 25; (with_reducible refine (toS_any _ _ _ (h1.below hbw) (by omega)).mono ?_); rintro e wc14 ⟨x15s0, x15n0, x15c0, x15s1, x15n1, x15c1, x15v2, rfl, howc14, hbwc14⟩; replace howc14 : OwnS wc12.heap.size wc14.heap.size wc14 (.agg #[.slice x15s0 x15n0 x15c0, .slice x15s1 x15n1 x15c1, .int .i64 x15v2]) g1 := howc14; replace cf4 := cell_b cf4 hbwc14; replace cf5 := cell_b cf5 hbwc14; replace cf6 := cell_b cf6 hbwc14; replace cf7 := cell_b cf7 hbwc14; replace cf8 := cell_b cf8 hbwc14; replace cf9 := cell_b cf9 hbwc14; replace howc12 := howc12.below hbwc14; replace hbw : Below w.heap.size w wc14 := hbw.trans (hbwc14.mono hbw.size); have hzwc14 : wc12.heap.size ≤ wc14.heap.size := hbwc14.size)
          | (go_at_call 33; (with_reducible refine (shutIn_s _ _ _ _ _ howc12.is howc14.is).mono ?_); rintro e wc16 ⟨rfl, hbwc16⟩; replace cf4 := cell_b cf4 hbwc16; replace cf5 := cell_b cf5 hbwc16; replace cf6 := cell_b cf6 hbwc16; replace cf7 := cell_b cf7 hbwc16; replace cf8 := cell_b cf8 hbwc16; replace cf9 := cell_b cf9 hbwc16; replace howc12 := howc12.below hbwc16; replace howc14 := howc14.below hbwc16; replace hbw : Below w.heap.size w wc16 := hbw.trans (hbwc16.mono hbw.size); have hzwc16 : wc14.heap.size ≤ wc16.heap.size := hbwc16.size))
      go_wp2_with fail
      refine (toP_any _ _ _ (h0.below hbw) (by omega)).mono ?_
      rintro e wc17 ⟨x18s0, x18n0, x18c0, x18s1, x18n1, x18c1, x18s2, x18n2, x18c2, rfl, howc17, hbwc17⟩
      replace howc17 : OwnP wc16.heap.size wc17.heap.size wc17 (.agg #[.slice x18s0 x18n0 x18c0, .slice x18s1 x18n1 x18c1, .slice x18s2 x18n2 x18c2]) g0 := howc17
      replace cf4 := cell_b cf4 hbwc17
      replace cf5 := cell_b cf5 hbwc17
      replace cf6 := cell_b cf6 hbwc17
      replace cf7 := cell_b cf7 hbwc17
      replace cf8 := cell_b cf8 hbwc17
      replace cf9 := cell_b cf9 hbwc17
      replace howc12 := howc12.below hbwc17
      replace howc14 := howc14.below hbwc17
      replace hbw : Below w.heap.size w wc17 := hbw.trans (hbwc17.mono hbw.size)
      have hzwc17 : wc16.heap.size ≤ wc17.heap.size := hbwc17.size
      have hl20 : w.heap.size < wc17.heap.size := by omega
      have hl21 : w.heap.size + 1 < wc17.heap.size := by omega
      go_wp2_with fail
      generalize hqwm22 : wc17.alloc (.cells #[.slice x18s0 x18n0 x18c0, .slice x18s1 x18n1 x18c1, .slice x18s2 x18n2 x18c2] 32) = wm22
      have hywm22 : wm22.heap.size = wc17.heap.size + 1 := by rw [← hqwm22]; simp
      have hbwm22 : Below wc17.heap.size wc17 wm22 := by rw [← hqwm22]; exact (by repeat' (first | (with_reducible exact Below.refl _ _) | (with_reducible apply Below.alloc) | (with_reducible apply Below.drew) | (with_reducible apply below_drawn) | omega | (simp only [World.size_alloc, World.size_setCell, World.size_drew]; omega)))
      have HQwm22_0 : Blk wm22 (wc17.heap.size) [.slice x18s0 x18n0 x18c0, .slice x18s1 x18n1 x18c1, .slice x18s2 x18n2 x18c2] 32 := by rw [← hqwm22]; have hnew := blk_new wc17 [.slice x18s0 x18n0 x18c0, .slice x18s1 x18n1 x18c1, .slice x18s2 x18n2 x18c2] 32; (try simp only [World.size_alloc] at hnew); exact hnew
      have cf23 : wm22.cell? ⟨wc17.heap.size, 0, none⟩ = some (.slice x18s0 x18n0 x18c0) := HQwm22_0.cell 0 rfl
      have cf24 : wm22.cell? ⟨wc17.heap.size, 1, none⟩ = some (.slice x18s1 x18n1 x18c1) := HQwm22_0.cell 1 rfl
      have cf25 : wm22.cell? ⟨wc17.heap.size, 2, none⟩ = some (.slice x18s2 x18n2 x18c2) := HQwm22_0.cell 2 rfl
      clear HQwm22_0
      clear hqwm22
      replace cf4 := cell_b cf4 hbwm22
      replace cf5 := cell_b cf5 hbwm22
      replace cf6 := cell_b cf6 hbwm22
      replace cf7 := cell_b cf7 hbwm22
      replace cf8 := cell_b cf8 hbwm22
      replace cf9 := cell_b cf9 hbwm22
      replace howc12 := howc12.below hbwm22
      replace howc14 := howc14.below hbwm22
      replace howc17 := howc17.below hbwm22
      replace hbw : Below w.heap.size w wm22 := hbw.trans (hbwm22.mono hbw.size)
      have hzwm22 : wc17.heap.size ≤ wm22.heap.size := hbwm22.size
      refine (toS_any _ _ _ (h1.below hbw) (by omega)).mono ?_
      rintro e wc26 ⟨x27s0, x27n0, x27c0, x27s1, x27n1, x27c1, x27v2, rfl, howc26, hbwc26⟩
      replace howc26 : OwnS wm22.heap.size wc26.heap.size wc26 (.agg #[.slice x27s0 x27n0 x27c0, .slice x27s1 x27n1 x27c1, .int .i64 x27v2]) g1 := howc26
      replace cf4 := cell_b cf4 hbwc26
      replace cf5 := cell_b cf5 hbwc26
      replace cf6 := cell_b cf6 hbwc26
      replace cf7 := cell_b cf7 hbwc26
      replace cf8 := cell_b cf8 hbwc26
      replace cf9 := cell_b cf9 hbwc26
      replace cf23 := cell_b cf23 hbwc26
      replace cf24 := cell_b cf24 hbwc26
      replace cf25 := cell_b cf25 hbwc26
      replace howc12 := howc12.below hbwc26
      replace howc14 := howc14.below hbwc26
      replace howc17 := howc17.below hbwc26
      replace hbw : Below w.heap.size w wc26 := hbw.trans (hbwc26.mono hbw.size)
      have hzwc26 : wm22.heap.size ≤ wc26.heap.size := hbwc26.size
      have hl29 : w.heap.size < wc26.heap.size := by omega
      have hl30 : w.heap.size + 1 < wc26.heap.size := by omega
      have hl31 : wc17.heap.size < wc26.heap.size := by omega
      go_wp2_with fail
      generalize hqwm32 : wc26.alloc (.cells #[.slice x27s0 x27n0 x27c0, .slice x27s1 x27n1 x27c1, .int .i64 x27v2] 43) = wm32
      have hywm32 : wm32.heap.size = wc26.heap.size + 1 := by rw [← hqwm32]; simp
      have hbwm32 : Below wc26.heap.size wc26 wm32 := by rw [← hqwm32]; exact (by repeat' (first | (with_reducible exact Below.refl _ _) | (with_reducible apply Below.alloc) | (with_reducible apply Below.drew) | (with_reducible apply below_drawn) | omega | (simp only [World.size_alloc, World.size_setCell, World.size_drew]; omega)))
      have HQwm32_0 : Blk wm32 (wc26.heap.size) [.slice x27s0 x27n0 x27c0, .slice x27s1 x27n1 x27c1, .int .i64 x27v2] 43 := by rw [← hqwm32]; have hnew := blk_new wc26 [.slice x27s0 x27n0 x27c0, .slice x27s1 x27n1 x27c1, .int .i64 x27v2] 43; (try simp only [World.size_alloc] at hnew); exact hnew
      have cf33 : wm32.cell? ⟨wc26.heap.size, 0, none⟩ = some (.slice x27s0 x27n0 x27c0) := HQwm32_0.cell 0 rfl
      have cf34 : wm32.cell? ⟨wc26.heap.size, 1, none⟩ = some (.slice x27s1 x27n1 x27c1) := HQwm32_0.cell 1 rfl
      have cf35 : wm32.cell? ⟨wc26.heap.size, 2, none⟩ = some (.int .i64 x27v2) := HQwm32_0.cell 2 rfl
      clear HQwm32_0
      clear hqwm32
      replace cf4 := cell_b cf4 hbwm32
      replace cf5 := cell_b cf5 hbwm32
      replace cf6 := cell_b cf6 hbwm32
      replace cf7 := cell_b cf7 hbwm32
      replace cf8 := cell_b cf8 hbwm32
      replace cf9 := cell_b cf9 hbwm32
      replace cf23 := cell_b cf23 hbwm32
      replace cf24 := cell_b cf24 hbwm32
      replace cf25 := cell_b cf25 hbwm32
      replace howc12 := howc12.below hbwm32
      replace howc14 := howc14.below hbwm32
      replace howc17 := howc17.below hbwm32
      replace howc26 := howc26.below hbwm32
      replace hbw : Below w.heap.size w wm32 := hbw.trans (hbwm32.mono hbw.size)
      have hzwm32 : wc26.heap.size ≤ wm32.heap.size := hbwm32.size
      refine (shutIn_i _ _ _ _ _ howc17.is howc26.is).mono ?_
      rintro e wc36 ⟨rfl, hbwc36⟩
      replace cf4 := cell_b cf4 hbwc36
      replace cf5 := cell_b cf5 hbwc36
      replace cf6 := cell_b cf6 hbwc36
      replace cf7 := cell_b cf7 hbwc36
      replace cf8 := cell_b cf8 hbwc36
      replace cf9 := cell_b cf9 hbwc36
      replace cf23 := cell_b cf23 hbwc36
      replace cf24 := cell_b cf24 hbwc36
      replace cf25 := cell_b cf25 hbwc36
      replace cf33 := cell_b cf33 hbwc36
      replace cf34 := cell_b cf34 hbwc36
      replace cf35 := cell_b cf35 hbwc36
      replace howc12 := howc12.below hbwc36
      replace howc14 := howc14.below hbwc36
      replace howc17 := howc17.below hbwc36
      replace howc26 := howc26.below hbwc36
      replace hbw : Below w.heap.size w wc36 := hbw.trans (hbwc36.mono hbw.size)
      have hzwc36 : wm32.heap.size ≤ wc36.heap.size := hbwc36.size
      go_wp2_with fail
      go_region_held3 (fun w' => w'.cell? ⟨wc17.heap.size, 0, none⟩ = some (.slice x18s0 x18n0 x18c0) ∧ w'.cell? ⟨wc17.heap.size, 1, none⟩ = some (.slice x18s1 x18n1 x18c1) ∧ w'.cell? ⟨wc17.heap.size, 2, none⟩ = some (.slice x18s2 x18n2 x18c2) ∧ w'.cell? ⟨w.heap.size, 0, none⟩ = some (.slice a0s0 a0n0 a0c0) ∧ w'.cell? ⟨w.heap.size, 1, none⟩ = some (.slice a0s1 a0n1 a0c1) ∧ w'.cell? ⟨w.heap.size, 2, none⟩ = some (.slice a0s2 a0n2 a0c2)) (first | exact ⟨cf23, cf24, cf25, cf4, cf5, cf6⟩ | go_keep)
        (first
          | (go_at_call 14; (with_reducible refine (toP_any _ _ _ ((h0.below hbw)).drew (by omega)).mono ?_); rintro e wc37 ⟨x38s0, x38n0, x38c0, x38s1, x38n1, x38c1, x38s2, x38n2, x38c2, rfl, howc37, hbwc37⟩; replace howc37 : OwnP wc36.heap.size wc37.heap.size wc37 (.agg #[.slice x38s0 x38n0 x38c0, .slice x38s1 x38n1 x38c1, .slice x38s2 x38n2 x38c2]) g0 := howc37; replace hbwc37 : Below wc36.heap.size wc36 wc37 := (below_drew _).trans hbwc37; replace cf4 := cell_b cf4 hbwc37; replace cf5 := cell_b cf5 hbwc37; replace cf6 := cell_b cf6 hbwc37; replace cf7 := cell_b cf7 hbwc37; replace cf8 := cell_b cf8 hbwc37; replace cf9 := cell_b cf9 hbwc37; replace cf23 := cell_b cf23 hbwc37; replace cf24 := cell_b cf24 hbwc37; replace cf25 := cell_b cf25 hbwc37; replace cf33 := cell_b cf33 hbwc37; replace cf34 := cell_b cf34 hbwc37; replace cf35 := cell_b cf35 hbwc37; replace howc12 := howc12.below hbwc37; replace howc14 := howc14.below hbwc37; replace howc17 := howc17.below hbwc37; replace howc26 := howc26.below hbwc37; replace hbw : Below w.heap.size w wc37 := hbw.trans (hbwc37.mono hbw.size); have hzwc37 : wc36.heap.size ≤ wc37.heap.size := hbwc37.size)
          | (go_at_call 17; (with_reducible refine (eqP_any _ _ _ _ _ howc17.is howc37.is).mono ?_); rw [tf_true rfl]; rintro e wc39 ⟨rfl, hbwc39⟩; replace cf4 := cell_b cf4 hbwc39; replace cf5 := cell_b cf5 hbwc39; replace cf6 := cell_b cf6 hbwc39; replace cf7 := cell_b cf7 hbwc39; replace cf8 := cell_b cf8 hbwc39; replace cf9 := cell_b cf9 hbwc39; replace cf23 := cell_b cf23 hbwc39; replace cf24 := cell_b cf24 hbwc39; replace cf25 := cell_b cf25 hbwc39; replace cf33 := cell_b cf33 hbwc39; replace cf34 := cell_b cf34 hbwc39; replace cf35 := cell_b cf35 hbwc39; replace howc12 := howc12.below hbwc39; replace howc14 := howc14.below hbwc39; replace howc17 := howc17.below hbwc39; replace howc26 := howc26.below hbwc39; replace howc37 := howc37.below hbwc39; replace hbw : Below w.heap.size w wc39 := hbw.trans (hbwc39.mono hbw.size); have hzwc39 : wc37.heap.size ≤ wc39.heap.size := hbwc39.size))
      go_wp2_with fail
      go_region_held3 (fun w' => w'.cell? ⟨wc26.heap.size, 0, none⟩ = some (.slice x27s0 x27n0 x27c0) ∧ w'.cell? ⟨wc26.heap.size, 1, none⟩ = some (.slice x27s1 x27n1 x27c1) ∧ w'.cell? ⟨wc26.heap.size, 2, none⟩ = some (.int .i64 x27v2) ∧ w'.cell? ⟨w.heap.size + 1, 0, none⟩ = some (.slice a1s0 a1n0 a1c0) ∧ w'.cell? ⟨w.heap.size + 1, 1, none⟩ = some (.slice a1s1 a1n1 a1c1) ∧ w'.cell? ⟨w.heap.size + 1, 2, none⟩ = some (.int .i64 a1v2)) (first | exact ⟨cf33, cf34, cf35, cf7, cf8, cf9⟩ | go_keep)
        (first
          | (go_at_call 25; (with_reducible refine (toS_any _ _ _ ((h1.below hbw)).drew (by omega)).mono ?_); rintro e wc40 ⟨x41s0, x41n0, x41c0, x41s1, x41n1, x41c1, x41v2, rfl, howc40, hbwc40⟩; replace howc40 : OwnS wc39.heap.size wc40.heap.size wc40 (.agg #[.slice x41s0 x41n0 x41c0, .slice x41s1 x41n1 x41c1, .int .i64 x41v2]) g1 := howc40; replace hbwc40 : Below wc39.heap.size wc39 wc40 := (below_drew _).trans hbwc40; replace cf4 := cell_b cf4 hbwc40; replace cf5 := cell_b cf5 hbwc40; replace cf6 := cell_b cf6 hbwc40; replace cf7 := cell_b cf7 hbwc40; replace cf8 := cell_b cf8 hbwc40; replace cf9 := cell_b cf9 hbwc40; replace cf23 := cell_b cf23 hbwc40; replace cf24 := cell_b cf24 hbwc40; replace cf25 := cell_b cf25 hbwc40; replace cf33 := cell_b cf33 hbwc40; replace cf34 := cell_b cf34 hbwc40; replace cf35 := cell_b cf35 hbwc40; replace howc12 := howc12.below hbwc40; replace howc14 := howc14.below hbwc40; replace howc17 := howc17.below hbwc40; replace howc26 := howc26.below hbwc40; replace howc37 := howc37.below hbwc40; replace hbw : Below w.heap.size w wc40 := hbw.trans (hbwc40.mono hbw.size); have hzwc40 : wc39.heap.size ≤ wc40.heap.size := hbwc40.size)
          | (go_at_call 27; (with_reducible refine (eqS_any _ _ _ _ _ howc26.is howc40.is).mono ?_); rw [tf_true rfl]; rintro e wc42 ⟨rfl, hbwc42⟩; replace cf4 := cell_b cf4 hbwc42; replace cf5 := cell_b cf5 hbwc42; replace cf6 := cell_b cf6 hbwc42; replace cf7 := cell_b cf7 hbwc42; replace cf8 := cell_b cf8 hbwc42; replace cf9 := cell_b cf9 hbwc42; replace cf23 := cell_b cf23 hbwc42; replace cf24 := cell_b cf24 hbwc42; replace cf25 := cell_b cf25 hbwc42; replace cf33 := cell_b cf33 hbwc42; replace cf34 := cell_b cf34 hbwc42; replace cf35 := cell_b cf35 hbwc42; replace howc12 := howc12.below hbwc42; replace howc14 := howc14.below hbwc42; replace howc17 := howc17.below hbwc42; replace howc26 := howc26.below hbwc42; replace howc37 := howc37.below hbwc42; replace howc40 := howc40.below hbwc42; replace hbw : Below w.heap.size w wc42 := hbw.trans (hbwc42.mono hbw.size); have hzwc42 : wc40.heap.size ≤ wc42.heap.size := hbwc42.size))
      go_wp2_with fail
      go_ret
      exact ⟨rfl, hbw⟩
    · have hz_1 := lft_no (l := 1048576 - ((szP g0 : Nat) : Int)) (n := szS g1) (by omega)
      go_enter Try.func7, Try.ntmps7
      have hbw : Below w.heap.size w w := Below.refl _ _
      go_wp2_with fail
      generalize hqwm3 : (w.alloc (.cells #[.slice a0s0 a0n0 a0c0, .slice a0s1 a0n1 a0c1, .slice a0s2 a0n2 a0c2] 27)).alloc (.cells #[.slice a1s0 a1n0 a1c0, .slice a1s1 a1n1 a1c1, .int .i64 a1v2] 40) = wm3
      have hywm3 : wm3.heap.size = w.heap.size + 2 := by rw [← hqwm3]; simp
      have hbwm3 : Below w.heap.size w wm3 := by rw [← hqwm3]; exact (by repeat' (first | (with_reducible exact Below.refl _ _) | (with_reducible apply Below.alloc) | (with_reducible apply Below.drew) | (with_reducible apply below_drawn) | omega | (simp only [World.size_alloc, World.size_setCell, World.size_drew]; omega)))
      have HQwm3_0 : Blk wm3 (w.heap.size) [.slice a0s0 a0n0 a0c0, .slice a0s1 a0n1 a0c1, .slice a0s2 a0n2 a0c2] 27 := by rw [← hqwm3]; have hnew := blk_new w [.slice a0s0 a0n0 a0c0, .slice a0s1 a0n1 a0c1, .slice a0s2 a0n2 a0c2] 27; (try simp only [World.size_alloc] at hnew); exact (Blk.alloc hnew _)
      have cf4 : wm3.cell? ⟨w.heap.size, 0, none⟩ = some (.slice a0s0 a0n0 a0c0) := HQwm3_0.cell 0 rfl
      have cf5 : wm3.cell? ⟨w.heap.size, 1, none⟩ = some (.slice a0s1 a0n1 a0c1) := HQwm3_0.cell 1 rfl
      have cf6 : wm3.cell? ⟨w.heap.size, 2, none⟩ = some (.slice a0s2 a0n2 a0c2) := HQwm3_0.cell 2 rfl
      clear HQwm3_0
      have HQwm3_1 : Blk wm3 (w.heap.size + 1) [.slice a1s0 a1n0 a1c0, .slice a1s1 a1n1 a1c1, .int .i64 a1v2] 40 := by rw [← hqwm3]; have hnew := blk_new (w.alloc (.cells #[.slice a0s0 a0n0 a0c0, .slice a0s1 a0n1 a0c1, .slice a0s2 a0n2 a0c2] 27)) [.slice a1s0 a1n0 a1c0, .slice a1s1 a1n1 a1c1, .int .i64 a1v2] 40; (try simp only [World.size_alloc] at hnew); exact hnew
      have cf7 : wm3.cell? ⟨w.heap.size + 1, 0, none⟩ = some (.slice a1s0 a1n0 a1c0) := HQwm3_1.cell 0 rfl
      have cf8 : wm3.cell? ⟨w.heap.size + 1, 1, none⟩ = some (.slice a1s1 a1n1 a1c1) := HQwm3_1.cell 1 rfl
      have cf9 : wm3.cell? ⟨w.heap.size + 1, 2, none⟩ = some (.int .i64 a1v2) := HQwm3_1.cell 2 rfl
      clear HQwm3_1
      clear hqwm3
      replace hbw : Below w.heap.size w wm3 := hbw.trans (hbwm3.mono hbw.size)
      have hzwm3 : w.heap.size ≤ wm3.heap.size := hbwm3.size
      refine (szP_any _ _ _ _ (h0.below hbw) (by omega) (by omega)).mono ?_
      rw [hz_0]
      rintro e wc10 ⟨rfl, hbwc10⟩
      replace cf4 := cell_b cf4 hbwc10
      replace cf5 := cell_b cf5 hbwc10
      replace cf6 := cell_b cf6 hbwc10
      replace cf7 := cell_b cf7 hbwc10
      replace cf8 := cell_b cf8 hbwc10
      replace cf9 := cell_b cf9 hbwc10
      replace hbw : Below w.heap.size w wc10 := hbw.trans (hbwc10.mono hbw.size)
      have hzwc10 : wm3.heap.size ≤ wc10.heap.size := hbwc10.size
      go_wp2_with fail
      refine (szS_any _ _ _ _ (h1.below hbw) (by omega) (by omega)).mono ?_
      rw [hz_1]
      rintro e wc11 ⟨rfl, hbwc11⟩
      replace cf4 := cell_b cf4 hbwc11
      replace cf5 := cell_b cf5 hbwc11
      replace cf6 := cell_b cf6 hbwc11
      replace cf7 := cell_b cf7 hbwc11
      replace cf8 := cell_b cf8 hbwc11
      replace cf9 := cell_b cf9 hbwc11
      replace hbw : Below w.heap.size w wc11 := hbw.trans (hbwc11.mono hbw.size)
      have hzwc11 : wc10.heap.size ≤ wc11.heap.size := hbwc11.size
      go_wp2_with fail
      go_ret
      exact ⟨rfl, hbw⟩
  · have hz_0 := lft_no (l := 1048576) (n := szP g0) (by omega)
    go_enter Try.func7, Try.ntmps7
    have hbw : Below w.heap.size w w := Below.refl _ _
    go_wp2_with fail
    generalize hqwm3 : (w.alloc (.cells #[.slice a0s0 a0n0 a0c0, .slice a0s1 a0n1 a0c1, .slice a0s2 a0n2 a0c2] 27)).alloc (.cells #[.slice a1s0 a1n0 a1c0, .slice a1s1 a1n1 a1c1, .int .i64 a1v2] 40) = wm3
    have hywm3 : wm3.heap.size = w.heap.size + 2 := by rw [← hqwm3]; simp
    have hbwm3 : Below w.heap.size w wm3 := by rw [← hqwm3]; exact (by repeat' (first | (with_reducible exact Below.refl _ _) | (with_reducible apply Below.alloc) | (with_reducible apply Below.drew) | (with_reducible apply below_drawn) | omega | (simp only [World.size_alloc, World.size_setCell, World.size_drew]; omega)))
    have HQwm3_0 : Blk wm3 (w.heap.size) [.slice a0s0 a0n0 a0c0, .slice a0s1 a0n1 a0c1, .slice a0s2 a0n2 a0c2] 27 := by rw [← hqwm3]; have hnew := blk_new w [.slice a0s0 a0n0 a0c0, .slice a0s1 a0n1 a0c1, .slice a0s2 a0n2 a0c2] 27; (try simp only [World.size_alloc] at hnew); exact (Blk.alloc hnew _)
    have cf4 : wm3.cell? ⟨w.heap.size, 0, none⟩ = some (.slice a0s0 a0n0 a0c0) := HQwm3_0.cell 0 rfl
    have cf5 : wm3.cell? ⟨w.heap.size, 1, none⟩ = some (.slice a0s1 a0n1 a0c1) := HQwm3_0.cell 1 rfl
    have cf6 : wm3.cell? ⟨w.heap.size, 2, none⟩ = some (.slice a0s2 a0n2 a0c2) := HQwm3_0.cell 2 rfl
    clear HQwm3_0
    have HQwm3_1 : Blk wm3 (w.heap.size + 1) [.slice a1s0 a1n0 a1c0, .slice a1s1 a1n1 a1c1, .int .i64 a1v2] 40 := by rw [← hqwm3]; have hnew := blk_new (w.alloc (.cells #[.slice a0s0 a0n0 a0c0, .slice a0s1 a0n1 a0c1, .slice a0s2 a0n2 a0c2] 27)) [.slice a1s0 a1n0 a1c0, .slice a1s1 a1n1 a1c1, .int .i64 a1v2] 40; (try simp only [World.size_alloc] at hnew); exact hnew
    have cf7 : wm3.cell? ⟨w.heap.size + 1, 0, none⟩ = some (.slice a1s0 a1n0 a1c0) := HQwm3_1.cell 0 rfl
    have cf8 : wm3.cell? ⟨w.heap.size + 1, 1, none⟩ = some (.slice a1s1 a1n1 a1c1) := HQwm3_1.cell 1 rfl
    have cf9 : wm3.cell? ⟨w.heap.size + 1, 2, none⟩ = some (.int .i64 a1v2) := HQwm3_1.cell 2 rfl
    clear HQwm3_1
    clear hqwm3
    replace hbw : Below w.heap.size w wm3 := hbw.trans (hbwm3.mono hbw.size)
    have hzwm3 : w.heap.size ≤ wm3.heap.size := hbwm3.size
    refine (szP_any _ _ _ _ (h0.below hbw) (by omega) (by omega)).mono ?_
    rw [hz_0]
    rintro e wc10 ⟨rfl, hbwc10⟩
    replace cf4 := cell_b cf4 hbwc10
    replace cf5 := cell_b cf5 hbwc10
    replace cf6 := cell_b cf6 hbwc10
    replace cf7 := cell_b cf7 hbwc10
    replace cf8 := cell_b cf8 hbwc10
    replace cf9 := cell_b cf9 hbwc10
    replace hbw : Below w.heap.size w wc10 := hbw.trans (hbwc10.mono hbw.size)
    have hzwc10 : wm3.heap.size ≤ wc10.heap.size := hbwc10.size
    go_wp2_with fail
    go_ret
    exact ⟨rfl, hbw⟩
open Go.ChangeShapes Go.WideShapes Go.ChangeAt
theorem rec : ∀ t ∈ Try.f7.params.toList, Try.prog.readableRec t = true ∧ t < Try.prog.types.size := by
  rw [Try.params7]
  intro t ht
  simp only [List.mem_cons, List.not_mem_nil, or_false] at ht
  rcases ht with rfl | rfl
  all_goals exact ⟨by kernel_rfl, of_decide_eq_true (by kernel_rfl)⟩
set_option maxRecDepth 100000 in
theorem lifted (os : Os) (started : os.Started) (H : Type) (enc : TypeId × Value → H) :
    ReturnsInHanded {} Try.checked os 7 .any (Rows.fnExactShutInSpec.pre6 enc Try.prog Try.f7 Rows.fnExactShutInRow.domain false) (Rows.fnExactShutInSpec.post enc Try.prog Try.f7 false true false false) := by
  refine returnsInHanded_of_change (C := Try.checked) own started (by kernel_rfl) Try.func7
    (ChangeSpec.witness6 (enc := enc) (C := Try.checked) false ⟨#[], #[.agg #[.slice none 0 0, .slice none 0 0, .slice none 0 0], .agg #[.slice none 0 0, .slice none 0 0, .int .i64 0]], []⟩ 8 (by kernel_rfl) (by kernel_rfl) (by kernel_rfl) (by kernel_rfl)) ?_
  intro W base args ds gs before hval0 hW hcnd _
  have hval : ∀ (j : Nat) t v, Try.f7.params[j]? = some t → args[j]? = some v → Value.okWide Try.prog W .any base t v := hval0
  have hW' := hW
  obtain ⟨p, q, hA0, hV, rfl, hfz, hnd⟩ := hW
  have hA : DataW.TrodAll enc Try.prog W 0 (fun _ => true) true Try.f7.params.toList args.toList ds p := hA0
  rw [Try.params7] at hA hval
  obtain ⟨v0, vs0, d0, ds0, p0, q0, hargs, rfl, rfl, t0, r0⟩ := trodAll_cons hA
  obtain ⟨v1, vs1, d1, ds1, p1, q1, rfl, rfl, rfl, t1, r1⟩ := trodAll_cons r0
  obtain ⟨rfl, rfl, rfl⟩ := trodAll_nil r1
  obtain rfl : args = #[v0, v1] := by cases args; simp_all
  obtain ⟨rfl, rfl⟩ := trodVars_none hV
  obtain ⟨g0, h0, wf0⟩ := openP (hval 0 _ v0 rfl rfl) t0
  obtain ⟨g1, h1, wf1⟩ := openS (hval 1 _ v1 rfl rfl) t1
  clear hA0 hval0
  refine (walk v0 g0 v1 g1 W h0 h1 wf0 wf1).mono fun e W' ⟨he, hb⟩ => ?_
  subst he
  exact ⟨_, rfl, law_post laid rec (by kernel_rfl) rfl rfl hW' hb⟩
theorem over : Rows.fnExactShutInRow.holds Try.pinned (OpenSpec.ofChange Rows.fnExactShutInSpec) :=
  OpenClaim.holds_of_wide 7 Try.f7 rfl rfl rfl rfl rfl rfl rfl ⟨rfl, rfl, rfl, rfl, rfl⟩ rfl rfl rfl rfl rfl (by kernel_rfl) Try.func7 (by kernel_rfl)
    (of_decide_eq_true (by kernel_rfl)) (by unfold Func.isWrapper; first | (rw [if_pos (by decide +kernel)]; kernel_rfl) | (rw [if_neg (by decide +kernel)]; exact ⟨rfl, rfl⟩))
    (fun os started H enc _ => lifted os started H enc)
theorem proved : Rows.FnExactShutInSaid := over
#print axioms proved
end Go.Proofs.Ytfmnikiinfbanaa.fnExactShutIn
