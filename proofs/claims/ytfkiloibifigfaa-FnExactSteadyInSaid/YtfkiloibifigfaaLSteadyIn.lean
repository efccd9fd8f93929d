/-
  For every input the law FnExactSteadyIn returns true and leaves its arguments as they were: the program's SteadyIn returns what the reference's returns. No condition.
-/
import Derived.Test.YtfkiloibifigfaaLaw
import Derived.Test.YtfkiloibifigfaaLawII
import Derived.Test.YtfkiloibifigfaaL4
import Derived.Test.YtfkiloibifigfaaCb
namespace Go.Proofs.Ytfkiloibifigfaa.fnExactSteadyIn
set_option linter.unusedVariables false
set_option linter.unusedSimpArgs false
open Go.RowKit
attribute [local go_sem ↓] Go.wp_at_zero Go.wp_at_succ

set_option maxRecDepth 100000 in
set_option maxHeartbeats 4000000 in
theorem walk (u0 : Value) (g0 : Pa) (u1 : Value) (g1 : List (List Int)) (w : World) (h0 : IsP w u0 g0) (h1 : IsII w u1 g1) (wf0 : WfP g0) (wf1 : WfII g1) : Calls Try.prog 7 #[u0, u1] w (Bb w true) := by
  obtain ⟨a0s0, a0n0, a0c0, a0s1, a0n1, a0c1, a0s2, a0n2, a0c2, rfl⟩ := h0.form
  obtain ⟨a1s0, a1n0, a1c0, rfl⟩ := h1.form
  by_cases hn_0 : ((szP g0 : Nat) : Int) ≤ 1048576
  · have hz_0 := lft_ok hn_0
    replace hn_0 : szP g0 ≤ 1048576 - (0) := by omega
    have hp_0 : (0 : Int) ≤ 1048576 - ((szP g0 : Nat) : Int) := by omega
    by_cases hn_1 : ((szII g1 : Nat) : Int) ≤ 1048576 - ((szP g0 : Nat) : Int)
    · have hz_1 := lft_ok hn_1
      replace hn_1 : szII g1 ≤ 1048576 - (0 + szP g0) := by omega
      have hp_1 : (0 : Int) ≤ 1048576 - ((szP g0 : Nat) : Int) - ((szII g1 : Nat) : Int) := by omega
      go_enter Try.func7, Try.ntmps7
      have hbw : Below w.heap.size w w := Below.refl _ _
      go_wp2_with fail
      generalize hqwm2 : w.alloc (.cells #[.slice a0s0 a0n0 a0c0, .slice a0s1 a0n1 a0c1, .slice a0s2 a0n2 a0c2] 27) = wm2
      have hywm2 : wm2.heap.size = w.heap.size + 1 := by rw [← hqwm2]; simp
      have hbwm2 : Below w.heap.size w wm2 := by rw [← hqwm2]; exact (by repeat' (first | (with_reducible exact Below.refl _ _) | (with_reducible apply Below.alloc) | (with_reducible apply Below.drew) | (with_reducible apply below_drawn) | omega | (simp only [World.size_alloc, World.size_setCell, World.size_drew]; omega)))
      have HQwm2_0 : Blk wm2 (w.heap.size) [.slice a0s0 a0n0 a0c0, .slice a0s1 a0n1 a0c1, .slice a0s2 a0n2 a0c2] 27 := by rw [← hqwm2]; have hnew := blk_new w [.slice a0s0 a0n0 a0c0, .slice a0s1 a0n1 a0c1, .slice a0s2 a0n2 a0c2] 27; (try simp only [World.size_alloc] at hnew); exact hnew
      have cf3 : wm2.cell? ⟨w.heap.size, 0, none⟩ = some (.slice a0s0 a0n0 a0c0) := HQwm2_0.cell 0 rfl
      have cf4 : wm2.cell? ⟨w.heap.size, 1, none⟩ = some (.slice a0s1 a0n1 a0c1) := HQwm2_0.cell 1 rfl
      have cf5 : wm2.cell? ⟨w.heap.size, 2, none⟩ = some (.slice a0s2 a0n2 a0c2) := HQwm2_0.cell 2 rfl
      clear HQwm2_0
      clear hqwm2
      replace hbw : Below w.heap.size w wm2 := hbw.trans (hbwm2.mono hbw.size)
      have hzwm2 : w.heap.size ≤ wm2.heap.size := hbwm2.size
      refine (szP_any _ _ _ _ (h0.below hbw) (by omega) (by omega)).mono ?_
      rw [hz_0]
      rintro e wc6 ⟨rfl, hbwc6⟩
      replace cf3 := cell_b cf3 hbwc6
      replace cf4 := cell_b cf4 hbwc6
      replace cf5 := cell_b cf5 hbwc6
      replace hbw : Below w.heap.size w wc6 := hbw.trans (hbwc6.mono hbw.size)
      have hzwc6 : wm2.heap.size ≤ wc6.heap.size := hbwc6.size
      go_wp2_with fail
      refine (szII_any _ _ _ _ _ _ (Is2R (h1.below hbw)) (by omega) (by omega)).mono ?_
      rw [hz_1]
      rintro e wc7 ⟨rfl, rfl⟩
      go_wp2_with fail
      refine (toP_any _ _ _ (h0.below hbw) (by omega)).mono ?_
      rintro e wc8 ⟨x9s0, x9n0, x9c0, x9s1, x9n1, x9c1, x9s2, x9n2, x9c2, rfl, howc8, hbwc8⟩
      replace howc8 : OwnP wc6.heap.size wc8.heap.size wc8 (.agg #[.slice x9s0 x9n0 x9c0, .slice x9s1 x9n1 x9c1, .slice x9s2 x9n2 x9c2]) g0 := howc8
      replace cf3 := cell_b cf3 hbwc8
      replace cf4 := cell_b cf4 hbwc8
      replace cf5 := cell_b cf5 hbwc8
      replace hbw : Below w.heap.size w wc8 := hbw.trans (hbwc8.mono hbw.size)
      have hzwc8 : wc6.heap.size ≤ wc8.heap.size := hbwc8.size
      go_wp2_with fail
      refine (toII_any' (h1.below hbw) (by omega)).mono ?_
      rintro e wc10 ⟨x11s0, x11n0, x11c0, rfl, howc10, hbwc10⟩
      replace howc10 : OwnII wc8.heap.size wc10.heap.size wc10 (.slice x11s0 x11n0 x11c0) g1 := howc10
      replace cf3 := cell_b cf3 hbwc10
      replace cf4 := cell_b cf4 hbwc10
      replace cf5 := cell_b cf5 hbwc10
      replace howc8 := howc8.below hbwc10
      replace hbw : Below w.heap.size w wc10 := hbw.trans (hbwc10.mono hbw.size)
      have hzwc10 : wc8.heap.size ≤ wc10.heap.size := hbwc10.size
      go_wp2_with fail
      refine (steady_s _ _ _ _ _ howc8.is howc10.is).mono ?_
      rintro e wc12 ⟨rfl, hbwc12⟩
      replace cf3 := cell_b cf3 hbwc12
      replace cf4 := cell_b cf4 hbwc12
      replace cf5 := cell_b cf5 hbwc12
      replace howc8 := howc8.below hbwc12
      replace howc10 := howc10.below hbwc12
      replace hbw : Below w.heap.size w wc12 := hbw.trans (hbwc12.mono hbw.size)
      have hzwc12 : wc10.heap.size ≤ wc12.heap.size := hbwc12.size
      go_wp2_with fail
      refine (toP_any _ _ _ (h0.below hbw) (by omega)).mono ?_
      rintro e wc13 ⟨x14s0, x14n0, x14c0, x14s1, x14n1, x14c1, x14s2, x14n2, x14c2, rfl, howc13, hbwc13⟩
      replace howc13 : OwnP wc12.heap.size wc13.heap.size wc13 (.agg #[.slice x14s0 x14n0 x14c0, .slice x14s1 x14n1 x14c1, .slice x14s2 x14n2 x14c2]) g0 := howc13
      replace cf3 := cell_b cf3 hbwc13
      replace cf4 := cell_b cf4 hbwc13
      replace cf5 := cell_b cf5 hbwc13
      replace howc8 := howc8.below hbwc13
      replace howc10 := howc10.below hbwc13
      replace hbw : Below w.heap.size w wc13 := hbw.trans (hbwc13.mono hbw.size)
      have hzwc13 : wc12.heap.size ≤ wc13.heap.size := hbwc13.size
      have hl16 : w.heap.size < wc13.heap.size := by omega
      go_wp2_with fail
      generalize hqwm17 : wc13.alloc (.cells #[.slice x14s0 x14n0 x14c0, .slice x14s1 x14n1 x14c1, .slice x14s2 x14n2 x14c2] 33) = wm17
      have hywm17 : wm17.heap.size = wc13.heap.size + 1 := by rw [← hqwm17]; simp
      have hbwm17 : Below wc13.heap.size wc13 wm17 := by rw [← hqwm17]; exact (by repeat' (first | (with_reducible exact Below.refl _ _) | (with_reducible apply Below.alloc) | (with_reducible apply Below.drew) | (with_reducible apply below_drawn) | omega | (simp only [World.size_alloc, World.size_setCell, World.size_drew]; omega)))
      have HQwm17_0 : Blk wm17 (wc13.heap.size) [.slice x14s0 x14n0 x14c0, .slice x14s1 x14n1 x14c1, .slice x14s2 x14n2 x14c2] 33 := by rw [← hqwm17]; have hnew := blk_new wc13 [.slice x14s0 x14n0 x14c0, .slice x14s1 x14n1 x14c1, .slice x14s2 x14n2 x14c2] 33; (try simp only [World.size_alloc] at hnew); exact hnew
      have cf18 : wm17.cell? ⟨wc13.heap.size, 0, none⟩ = some (.slice x14s0 x14n0 x14c0) := HQwm17_0.cell 0 rfl
      have cf19 : wm17.cell? ⟨wc13.heap.size, 1, none⟩ = some (.slice x14s1 x14n1 x14c1) := HQwm17_0.cell 1 rfl
      have cf20 : wm17.cell? ⟨wc13.heap.size, 2, none⟩ = some (.slice x14s2 x14n2 x14c2) := HQwm17_0.cell 2 rfl
      clear HQwm17_0
      clear hqwm17
      replace cf3 := cell_b cf3 hbwm17
      replace cf4 := cell_b cf4 hbwm17
      replace cf5 := cell_b cf5 hbwm17
      replace howc8 := howc8.below hbwm17
      replace howc10 := howc10.below hbwm17
      replace howc13 := howc13.below hbwm17
      replace hbw : Below w.heap.size w wm17 := hbw.trans (hbwm17.mono hbw.size)
      have hzwm17 : wc13.heap.size ≤ wm17.heap.size := hbwm17.size
      refine (toII_any' (h1.below hbw) (by omega)).mono ?_
      rintro e wc21 ⟨x22s0, x22n0, x22c0, rfl, howc21, hbwc21⟩
      replace howc21 : OwnII wm17.heap.size wc21.heap.size wc21 (.slice x22s0 x22n0 x22c0) g1 := howc21
      replace cf3 := cell_b cf3 hbwc21
      replace cf4 := cell_b cf4 hbwc21
      replace cf5 := cell_b cf5 hbwc21
      replace cf18 := cell_b cf18 hbwc21
      replace cf19 := cell_b cf19 hbwc21
      replace cf20 := cell_b cf20 hbwc21
      replace howc8 := howc8.below hbwc21
      replace howc10 := howc10.below hbwc21
      replace howc13 := howc13.below hbwc21
      replace hbw : Below w.heap.size w wc21 := hbw.trans (hbwc21.mono hbw.size)
      have hzwc21 : wm17.heap.size ≤ wc21.heap.size := hbwc21.size
      go_wp2_with fail
      refine (steady_i _ _ _ _ _ howc13.is howc21.is).mono ?_
      rintro e wc23 ⟨rfl, hbwc23⟩
      replace cf3 := cell_b cf3 hbwc23
      replace cf4 := cell_b cf4 hbwc23
      replace cf5 := cell_b cf5 hbwc23
      replace cf18 := cell_b cf18 hbwc23
      replace cf19 := cell_b cf19 hbwc23
      replace cf20 := cell_b cf20 hbwc23
      replace howc8 := howc8.below hbwc23
      replace howc10 := howc10.below hbwc23
      replace howc13 := howc13.below hbwc23
      replace howc21 := howc21.below hbwc23
      replace hbw : Below w.heap.size w wc23 := hbw.trans (hbwc23.mono hbw.size)
      have hzwc23 : wc21.heap.size ≤ wc23.heap.size := hbwc23.size
      go_wp2_with fail
      go_region_held3 (fun w' => w'.cell? ⟨wc13.heap.size, 0, none⟩ = some (.slice x14s0 x14n0 x14c0) ∧ w'.cell? ⟨wc13.heap.size, 1, none⟩ = some (.slice x14s1 x14n1 x14c1) ∧ w'.cell? ⟨wc13.heap.size, 2, none⟩ = some (.slice x14s2 x14n2 x14c2) ∧ w'.cell? ⟨w.heap.size, 0, none⟩ = some (.slice a0s0 a0n0 a0c0) ∧ w'.cell? ⟨w.heap.size, 1, none⟩ = some (.slice a0s1 a0n1 a0c1) ∧ w'.cell? ⟨w.heap.size, 2, none⟩ = some (.slice a0s2 a0n2 a0c2)) (first | exact ⟨cf18, cf19, cf20, cf3, cf4, cf5⟩ | go_keep)
        (first
          | (go_at_call 17; (with_reducible refine (toP_any _ _ _ ((h0.below hbw)).drew (by omega)).mono ?_); rintro e wc24 ⟨x25s0, x25n0, x25c0, x25s1, x25n1, x25c1, x25s2, x25n2, x25c2, rfl, howc24, hbwc24⟩; replace howc24 : OwnP wc23.heap.size wc24.heap.size wc24 (.agg #[.slice x25s0 x25n0 x25c0, .slice x25s1 x25n1 x25c1, .slice x25s2 x25n2 x25c2]) g0 := howc24; replace hbwc24 : Below wc23.heap.size wc23 wc24 := (below_drew _).trans hbwc24; replace cf3 := cell_b cf3 hbwc24; replace cf4 := cell_b cf4 hbwc24; replace cf5 := cell_b cf5 hbwc24; replace cf18 := cell_b cf18 hbwc24; replace cf19 := cell_b cf19 hbwc24; replace cf20 := cell_b cf20 hbwc24; replace howc8 := howc8.below hbwc24; replace howc10 := howc10.below hbwc24; replace howc13 := howc13.below hbwc24; replace howc21 := howc21.below hbwc24; replace hbw : Below w.heap.size w wc24 := hbw.trans (hbwc24.mono hbw.size); have hzwc24 : wc23.heap.size ≤ wc24.heap.size := hbwc24.size)
          | (go_at_call 20; (with_reducible refine (eqP_any _ _ _ _ _ howc13.is howc24.is).mono ?_); rw [tf_true rfl]; rintro e wc26 ⟨rfl, hbwc26⟩; replace cf3 := cell_b cf3 hbwc26; replace cf4 := cell_b cf4 hbwc26; replace cf5 := cell_b cf5 hbwc26; replace cf18 := cell_b cf18 hbwc26; replace cf19 := cell_b cf19 hbwc26; replace cf20 := cell_b cf20 hbwc26; replace howc8 := howc8.below hbwc26; replace howc10 := howc10.below hbwc26; replace howc13 := howc13.below hbwc26; replace howc21 := howc21.below hbwc26; replace howc24 := howc24.below hbwc26; replace hbw : Below w.heap.size w wc26 := hbw.trans (hbwc26.mono hbw.size); have hzwc26 : wc24.heap.size ≤ wc26.heap.size := hbwc26.size))
      go_wp2_with fail
      refine (toII_any' (h1.below hbw) (by omega)).mono ?_
      rintro e wc27 ⟨x28s0, x28n0, x28c0, rfl, howc27, hbwc27⟩
      replace howc27 : OwnII wc26.heap.size wc27.heap.size wc27 (.slice x28s0 x28n0 x28c0) g1 := howc27
      replace cf3 := cell_b cf3 hbwc27
      replace cf4 := cell_b cf4 hbwc27
      replace cf5 := cell_b cf5 hbwc27
      replace cf18 := cell_b cf18 hbwc27
      replace cf19 := cell_b cf19 hbwc27
      replace cf20 := cell_b cf20 hbwc27
      replace howc8 := howc8.below hbwc27
      replace howc10 := howc10.below hbwc27
      replace howc13 := howc13.below hbwc27
      replace howc21 := howc21.below hbwc27
      replace howc24 := howc24.below hbwc27
      replace hbw : Below w.heap.size w wc27 := hbw.trans (hbwc27.mono hbw.size)
      have hzwc27 : wc26.heap.size ≤ wc27.heap.size := hbwc27.size
      go_wp2_with fail
      refine (eqII_any' howc21.is howc27.is).mono ?_
      rw [tf_true rfl]
      rintro e wc29 ⟨rfl, hbwc29⟩
      replace cf3 := cell_b cf3 hbwc29
      replace cf4 := cell_b cf4 hbwc29
      replace cf5 := cell_b cf5 hbwc29
      replace cf18 := cell_b cf18 hbwc29
      replace cf19 := cell_b cf19 hbwc29
      replace cf20 := cell_b cf20 hbwc29
      replace howc8 := howc8.below hbwc29
      replace howc10 := howc10.below hbwc29
      replace howc13 := howc13.below hbwc29
      replace howc21 := howc21.below hbwc29
      replace howc24 := howc24.below hbwc29
      replace howc27 := howc27.below hbwc29
      replace hbw : Below w.heap.size w wc29 := hbw.trans (hbwc29.mono hbw.size)
      have hzwc29 : wc27.heap.size ≤ wc29.heap.size := hbwc29.size
      go_wp2_with fail
      go_ret
      exact ⟨rfl, hbw⟩
    · have hz_1 := lft_no (l := 1048576 - ((szP g0 : Nat) : Int)) (n := szII g1) (by omega)
      go_enter Try.func7, Try.ntmps7
      have hbw : Below w.heap.size w w := Below.refl _ _
      go_wp2_with fail
      generalize hqwm2 : w.alloc (.cells #[.slice a0s0 a0n0 a0c0, .slice a0s1 a0n1 a0c1, .slice a0s2 a0n2 a0c2] 27) = wm2
      have hywm2 : wm2.heap.size = w.heap.size + 1 := by rw [← hqwm2]; simp
      have hbwm2 : Below w.heap.size w wm2 := by rw [← hqwm2]; exact (by repeat' (first | (with_reducible exact Below.refl _ _) | (with_reducible apply Below.alloc) | (with_reducible apply Below.drew) | (with_reducible apply below_drawn) | omega | (simp only [World.size_alloc, World.size_setCell, World.size_drew]; omega)))
      have HQwm2_0 : Blk wm2 (w.heap.size) [.slice a0s0 a0n0 a0c0, .slice a0s1 a0n1 a0c1, .slice a0s2 a0n2 a0c2] 27 := by rw [← hqwm2]; have hnew := blk_new w [.slice a0s0 a0n0 a0c0, .slice a0s1 a0n1 a0c1, .slice a0s2 a0n2 a0c2] 27; (try simp only [World.size_alloc] at hnew); exact hnew
      have cf3 : wm2.cell? ⟨w.heap.size, 0, none⟩ = some (.slice a0s0 a0n0 a0c0) := HQwm2_0.cell 0 rfl
      have cf4 : wm2.cell? ⟨w.heap.size, 1, none⟩ = some (.slice a0s1 a0n1 a0c1) := HQwm2_0.cell 1 rfl
      have cf5 : wm2.cell? ⟨w.heap.size, 2, none⟩ = some (.slice a0s2 a0n2 a0c2) := HQwm2_0.cell 2 rfl
      clear HQwm2_0
      clear hqwm2
      replace hbw : Below w.heap.size w wm2 := hbw.trans (hbwm2.mono hbw.size)
      have hzwm2 : w.heap.size ≤ wm2.heap.size := hbwm2.size
      refine (szP_any _ _ _ _ (h0.below hbw) (by omega) (by omega)).mono ?_
      rw [hz_0]
      rintro e wc6 ⟨rfl, hbwc6⟩
      replace cf3 := cell_b cf3 hbwc6
      replace cf4 := cell_b cf4 hbwc6
      replace cf5 := cell_b cf5 hbwc6
      replace hbw : Below w.heap.size w wc6 := hbw.trans (hbwc6.mono hbw.size)
      have hzwc6 : wm2.heap.size ≤ wc6.heap.size := hbwc6.size
      go_wp2_with fail
      refine (szII_any _ _ _ _ _ _ (Is2R (h1.below hbw)) (by omega) (by omega)).mono ?_
      rw [hz_1]
      rintro e wc7 ⟨rfl, rfl⟩
      go_wp2_with fail
      go_ret
      exact ⟨rfl, hbw⟩
  · have hz_0 := lft_no (l := 1048576) (n := szP g0) (by omega)
    go_enter Try.func7, Try.ntmps7
    have hbw : Below w.heap.size w w := Below.refl _ _
    go_wp2_with fail
    generalize hqwm2 : w.alloc (.cells #[.slice a0s0 a0n0 a0c0, .slice a0s1 a0n1 a0c1, .slice a0s2 a0n2 a0c2] 27) = wm2
    have hywm2 : wm2.heap.size = w.heap.size + 1 := by rw [← hqwm2]; simp
    have hbwm2 : Below w.heap.size w wm2 := by rw [← hqwm2]; exact (by repeat' (first | (with_reducible exact Below.refl _ _) | (with_reducible apply Below.alloc) | (with_reducible apply Below.drew) | (with_reducible apply below_drawn) | omega | (simp only [World.size_alloc, World.size_setCell, World.size_drew]; omega)))
    have HQwm2_0 : Blk wm2 (w.heap.size) [.slice a0s0 a0n0 a0c0, .slice a0s1 a0n1 a0c1, .slice a0s2 a0n2 a0c2] 27 := by rw [← hqwm2]; have hnew := blk_new w [.slice a0s0 a0n0 a0c0, .slice a0s1 a0n1 a0c1, .slice a0s2 a0n2 a0c2] 27; (try simp only [World.size_alloc] at hnew); exact hnew
    have cf3 : wm2.cell? ⟨w.heap.size, 0, none⟩ = some (.slice a0s0 a0n0 a0c0) := HQwm2_0.cell 0 rfl
    have cf4 : wm2.cell? ⟨w.heap.size, 1, none⟩ = some (.slice a0s1 a0n1 a0c1) := HQwm2_0.cell 1 rfl
    have cf5 : wm2.cell? ⟨w.heap.size, 2, none⟩ = some (.slice a0s2 a0n2 a0c2) := HQwm2_0.cell 2 rfl
    clear HQwm2_0
    clear hqwm2
    replace hbw : Below w.heap.size w wm2 := hbw.trans (hbwm2.mono hbw.size)
    have hzwm2 : w.heap.size ≤ wm2.heap.size := hbwm2.size
    refine (szP_any _ _ _ _ (h0.below hbw) (by omega) (by omega)).mono ?_
    rw [hz_0]
    rintro e wc6 ⟨rfl, hbwc6⟩
    replace cf3 := cell_b cf3 hbwc6
    replace cf4 := cell_b cf4 hbwc6
    replace cf5 := cell_b cf5 hbwc6
    replace hbw : Below w.heap.size w wc6 := hbw.trans (hbwc6.mono hbw.size)
    have hzwc6 : wm2.heap.size ≤ wc6.heap.size := hbwc6.size
    go_wp2_with fail
    go_ret
    exact ⟨rfl, hbw⟩

open Go.ChangeShapes Go.WideShapes Go.ChangeAt
theorem rec : ∀ t ∈ Try.f7.params.toList, Try.prog.readableRec t = true ∧ t < Try.prog.types.size := by
  rw [Try.params7]
  intro t ht
  simp only [List.mem_cons, List.not_mem_nil, or_false] at ht
  rcases ht with rfl | rfl
  all_goals exact ⟨by kernel_rfl, of_decide_eq_true (by kernel_rfl)⟩
set_option maxRecDepth 100000 in
theorem lifted (os : Os) (started : os.Started) (H : Type) (enc : TypeId × Value → H) :
    ReturnsInHanded {} Try.checked os 7 .any (Rows.fnExactSteadyInSpec.pre6 enc Try.prog Try.f7 Rows.fnExactSteadyInRow.domain false) (Rows.fnExactSteadyInSpec.post enc Try.prog Try.f7 false true false false) := by
  refine returnsInHanded_of_change (C := Try.checked) own started (by kernel_rfl) Try.func7
    (ChangeSpec.witness6 (enc := enc) (C := Try.checked) false ⟨#[], #[.agg #[.slice none 0 0, .slice none 0 0, .slice none 0 0], .slice none 0 0], []⟩ 8 (by kernel_rfl) (by kernel_rfl) (by kernel_rfl) (by kernel_rfl)) ?_
  intro W base args ds gs before hval0 hW hcnd _
  have hval : ∀ (j : Nat) t v, Try.f7.params[j]? = some t → args[j]? = some v → Value.okWide Try.prog W .any base t v := hval0
  have hW' := hW
  obtain ⟨p, q, hA0, hV, rfl, hfz, hnd⟩ := hW
  have hA : DataW.TrodAll enc Try.prog W 0 (fun _ => true) true Try.f7.params.toList args.toList ds p := hA0
  rw [Try.params7] at hA hval
  obtain ⟨v0, vs0, d0, ds0, p0, q0, hargs, rfl, rfl, t0, r0⟩ := trodAll_cons hA
  obtain ⟨v1, vs1, d1, ds1, p1, q1, rfl, rfl, rfl, t1, r1⟩ := trodAll_cons r0
  obtain ⟨rfl, rfl, rfl⟩ := trodAll_nil r1
  obtain rfl : args = #[v0, v1] := by cases args; simp_all
  obtain ⟨rfl, rfl⟩ := trodVars_none hV
  obtain ⟨g0, h0, wf0⟩ := openP (hval 0 _ v0 rfl rfl) t0
  obtain ⟨g1, h1, wf1⟩ := openII1 (hval 1 _ v1 rfl rfl) t1
  clear hA0 hval0
  refine (walk v0 g0 v1 g1 W h0 h1 wf0 wf1).mono fun e W' ⟨he, hb⟩ => ?_
  subst he
  exact ⟨_, rfl, law_post laid rec (by kernel_rfl) rfl rfl hW' hb⟩
theorem over : Rows.fnExactSteadyInRow.holds Try.pinned (OpenSpec.ofChange Rows.fnExactSteadyInSpec) :=
  OpenClaim.holds_of_wide 7 Try.f7 rfl rfl rfl rfl rfl rfl rfl ⟨rfl, rfl, rfl, rfl, rfl⟩ rfl rfl rfl rfl rfl (by kernel_rfl) Try.func7 (by kernel_rfl)
    (of_decide_eq_true (by kernel_rfl)) (by unfold Func.isWrapper; first | (rw [if_pos (by decide +kernel)]; kernel_rfl) | (rw [if_neg (by decide +kernel)]; exact ⟨rfl, rfl⟩))
    (fun os started H enc _ => lifted os started H enc)
theorem proved : Rows.FnExactSteadyInSaid := over
#print axioms proved
end Go.Proofs.Ytfkiloibifigfaa.fnExactSteadyIn
