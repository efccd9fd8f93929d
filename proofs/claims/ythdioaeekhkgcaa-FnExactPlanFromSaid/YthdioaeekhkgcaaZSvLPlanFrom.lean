/-
  For every input the law FnExactPlanFrom returns true and leaves its arguments as they were: the program's PlanFrom returns what the reference's returns. No condition.
-/
import Derived.Test.YthdioaeekhkgcaaZSvLaw
import Derived.Test.YthdioaeekhkgcaaZSvL3
import Derived.Test.YthdioaeekhkgcaaZSvCb
namespace Go.Proofs.Ythdioaeekhkgcaa.fnExactPlanFrom
set_option linter.unusedVariables false
set_option linter.unusedSimpArgs false
open Go.RowKit
attribute [local go_sem ↓] Go.wp_at_zero Go.wp_at_succ
set_option maxRecDepth 100000 in
set_option maxHeartbeats 4000000 in
theorem walk (u0 : Value) (g0 : Pa) (u1 : Value) (g1 : List Int) (w : World) (h0 : IsP w u0 g0) (h1 : IsI w u1 g1) (wf0 : WfP g0) (wf1 : Wf g1) : Calls Try.prog 9 #[u0, u1] w (Bb w true) := by
  obtain ⟨a0s0, a0n0, a0c0, a0s1, a0n1, a0c1, a0s2, a0n2, a0c2, rfl⟩ := h0.form
  obtain ⟨a1s0, a1n0, a1c0, rfl⟩ := h1.form
  have hl1 : a1n0 ≤ 9223372036854775807 := h1.len_le
  have he1 := Lib.hid h1.len_eq
  by_cases hn_1 : a1n0 ≤ 1048576
  · by_cases hn_0 : ((szP g0 : Nat) : Int) ≤ 1048576
    · have hz_0 := lft_ok hn_0
      replace hn_0 : szP g0 ≤ 1048576 - (0) := by omega
      have hp_0 : (0 : Int) ≤ 1048576 - ((szP g0 : Nat) : Int) := by omega
      go_enter Try.func9, Try.ntmps9
      have hbw : Below w.heap.size w w := Below.refl _ _
      go_wp2_with fail
      generalize hqwm2 : w.alloc (.cells #[.slice a0s0 a0n0 a0c0, .slice a0s1 a0n1 a0c1, .slice a0s2 a0n2 a0c2] 27) = wm2
      have hywm2 : wm2.heap.size = w.heap.size + 1 := by rw [← hqwm2]; simp
      have hbwm2 : Below w.heap.size w wm2 := by rw [← hqwm2]; exact (by repeat' (first | (with_reducible exact Below.refl _ _) | (with_reducible apply Below.alloc) | (with_reducible apply Below.drew) | (with_reducible apply below_drawn) | omega | (simp only [World.size_alloc, World.size_setCell, World.size_drew]; omega)))
      have HQwm2_0 : Blk wm2 (w.heap.size) [.slice a0s0 a0n0 a0c0, .slice a0s1 a0n1 a0c1, .slice a0s2 a0n2 a0c2] 27 := by rw [← hqwm2]; have hnew := blk_new w [.slice a0s0 a0n0 a0c0, .slice a0s1 a0n1 a0c1, .slice a0s2 a0n2 a0c2] 27; (try simp only [World.size_alloc] at hnew); exact hnew
      have cf3 : wm2.cell? ⟨w.heap.size, 0, none⟩ = some (.slice a0s0 a0n0 a0c0) := HQwm2_0.cell 0 rfl
      have cf4 : wm2.cell? ⟨w.heap.size, 1, none⟩ = some (.slice a0s1 a0n1 a0c1) := HQwm2_0.cell 1 rfl
      have cf5 : wm2.cell? ⟨w.heap.size, 2, none⟩ = some (.slice a0s2 a0n2 a0c2) := HQwm2_0.cell 2 rfl
      clear HQwm2_0
      clear hqwm2
      replace hbw : Below w.heap.size w wm2 := hbw.trans (hbwm2.mono hbw.size)
      have hzwm2 : w.heap.size ≤ wm2.heap.size := hbwm2.size
      refine (szP_any _ _ _ _ (h0.below hbw) (by omega) (by omega)).mono ?_
      rw [hz_0]
      rintro e wc6 ⟨rfl, hbwc6⟩
      replace cf3 := cell_b cf3 hbwc6
      replace cf4 := cell_b cf4 hbwc6
      replace cf5 := cell_b cf5 hbwc6
      replace hbw : Below w.heap.size w wc6 := hbw.trans (hbwc6.mono hbw.size)
      have hzwc6 : wm2.heap.size ≤ wc6.heap.size := hbwc6.size
      go_wp2_with fail
      refine (toP_any _ _ _ (h0.below hbw) (by omega)).mono ?_
      rintro e wc7 ⟨x8s0, x8n0, x8c0, x8s1, x8n1, x8c1, x8s2, x8n2, x8c2, rfl, howc7, hbwc7⟩
      replace howc7 : OwnP wc6.heap.size wc7.heap.size wc7 (.agg #[.slice x8s0 x8n0 x8c0, .slice x8s1 x8n1 x8c1, .slice x8s2 x8n2 x8c2]) g0 := howc7
      replace cf3 := cell_b cf3 hbwc7
      replace cf4 := cell_b cf4 hbwc7
      replace cf5 := cell_b cf5 hbwc7
      replace hbw : Below w.heap.size w wc7 := hbw.trans (hbwc7.mono hbw.size)
      have hzwc7 : wc6.heap.size ≤ wc7.heap.size := hbwc7.size
      go_wp2_with fail
      refine (toI_any' (h1.below hbw) hn_1).mono ?_
      rintro e wc9 ⟨x10s0, x10n0, x10c0, rfl, howc9, hbwc9⟩
      replace howc9 : OwnI wc7.heap.size wc9.heap.size wc9 (.slice x10s0 x10n0 x10c0) g1 := howc9
      replace cf3 := cell_b cf3 hbwc9
      replace cf4 := cell_b cf4 hbwc9
      replace cf5 := cell_b cf5 hbwc9
      replace howc7 := howc7.below hbwc9
      replace hbw : Below w.heap.size w wc9 := hbw.trans (hbwc9.mono hbw.size)
      have hzwc9 : wc7.heap.size ≤ wc9.heap.size := hbwc9.size
      go_wp2_with fail
      refine (planFrom_s _ _ _ _ _ howc7.is howc9.is).mono ?_
      rintro e wc11 ⟨y12s0, y12n0, y12c0, y12s1, y12n1, y12c1, rfl, howc11, hbwc11⟩
      replace howc11 : OwnN wc9.heap.size wc11.heap.size wc11 (.agg #[.slice y12s0 y12n0 y12c0, .slice y12s1 y12n1 y12c1]) (plnN g0 g1) := howc11
      replace cf3 := cell_b cf3 hbwc11
      replace cf4 := cell_b cf4 hbwc11
      replace cf5 := cell_b cf5 hbwc11
      replace howc7 := howc7.below hbwc11
      replace howc9 := howc9.below hbwc11
      replace hbw : Below w.heap.size w wc11 := hbw.trans (hbwc11.mono hbw.size)
      have hzwc11 : wc9.heap.size ≤ wc11.heap.size := hbwc11.size
      have hl14 : w.heap.size < wc11.heap.size := by omega
      go_wp2_with fail
      generalize hqwm15 : wc11.alloc (.cells #[.slice y12s0 y12n0 y12c0, .slice y12s1 y12n1 y12c1] 47) = wm15
      have hywm15 : wm15.heap.size = wc11.heap.size + 1 := by rw [← hqwm15]; simp
      have hbwm15 : Below wc11.heap.size wc11 wm15 := by rw [← hqwm15]; exact (by repeat' (first | (with_reducible exact Below.refl _ _) | (with_reducible apply Below.alloc) | (with_reducible apply Below.drew) | (with_reducible apply below_drawn) | omega | (simp only [World.size_alloc, World.size_setCell, World.size_drew]; omega)))
      have HQwm15_0 : Blk wm15 (wc11.heap.size) [.slice y12s0 y12n0 y12c0, .slice y12s1 y12n1 y12c1] 47 := by rw [← hqwm15]; have hnew := blk_new wc11 [.slice y12s0 y12n0 y12c0, .slice y12s1 y12n1 y12c1] 47; (try simp only [World.size_alloc] at hnew); exact hnew
      have cf16 : wm15.cell? ⟨wc11.heap.size, 0, none⟩ = some (.slice y12s0 y12n0 y12c0) := HQwm15_0.cell 0 rfl
      have cf17 : wm15.cell? ⟨wc11.heap.size, 1, none⟩ = some (.slice y12s1 y12n1 y12c1) := HQwm15_0.cell 1 rfl
      clear HQwm15_0
      clear hqwm15
      replace cf3 := cell_b cf3 hbwm15
      replace cf4 := cell_b cf4 hbwm15
      replace cf5 := cell_b cf5 hbwm15
      replace howc7 := howc7.below hbwm15
      replace howc9 := howc9.below hbwm15
      replace howc11 := howc11.below hbwm15
      replace hbw : Below w.heap.size w wm15 := hbw.trans (hbwm15.mono hbw.size)
      have hzwm15 : wc11.heap.size ≤ wm15.heap.size := hbwm15.size
      refine (toP_any _ _ _ (h0.below hbw) (by omega)).mono ?_
      rintro e wc18 ⟨x19s0, x19n0, x19c0, x19s1, x19n1, x19c1, x19s2, x19n2, x19c2, rfl, howc18, hbwc18⟩
      replace howc18 : OwnP wm15.heap.size wc18.heap.size wc18 (.agg #[.slice x19s0 x19n0 x19c0, .slice x19s1 x19n1 x19c1, .slice x19s2 x19n2 x19c2]) g0 := howc18
      replace cf3 := cell_b cf3 hbwc18
      replace cf4 := cell_b cf4 hbwc18
      replace cf5 := cell_b cf5 hbwc18
      replace cf16 := cell_b cf16 hbwc18
      replace cf17 := cell_b cf17 hbwc18
      replace howc7 := howc7.below hbwc18
      replace howc9 := howc9.below hbwc18
      replace howc11 := howc11.below hbwc18
      replace hbw : Below w.heap.size w wc18 := hbw.trans (hbwc18.mono hbw.size)
      have hzwc18 : wm15.heap.size ≤ wc18.heap.size := hbwc18.size
      have hl21 : w.heap.size < wc18.heap.size := by omega
      have hl22 : wc11.heap.size < wc18.heap.size := by omega
      go_wp2_with fail
      generalize hqwm23 : wc18.alloc (.cells #[.slice x19s0 x19n0 x19c0, .slice x19s1 x19n1 x19c1, .slice x19s2 x19n2 x19c2] 32) = wm23
      have hywm23 : wm23.heap.size = wc18.heap.size + 1 := by rw [← hqwm23]; simp
      have hbwm23 : Below wc18.heap.size wc18 wm23 := by rw [← hqwm23]; exact (by repeat' (first | (with_reducible exact Below.refl _ _) | (with_reducible apply Below.alloc) | (with_reducible apply Below.drew) | (with_reducible apply below_drawn) | omega | (simp only [World.size_alloc, World.size_setCell, World.size_drew]; omega)))
      have HQwm23_0 : Blk wm23 (wc18.heap.size) [.slice x19s0 x19n0 x19c0, .slice x19s1 x19n1 x19c1, .slice x19s2 x19n2 x19c2] 32 := by rw [← hqwm23]; have hnew := blk_new wc18 [.slice x19s0 x19n0 x19c0, .slice x19s1 x19n1 x19c1, .slice x19s2 x19n2 x19c2] 32; (try simp only [World.size_alloc] at hnew); exact hnew
      have cf24 : wm23.cell? ⟨wc18.heap.size, 0, none⟩ = some (.slice x19s0 x19n0 x19c0) := HQwm23_0.cell 0 rfl
      have cf25 : wm23.cell? ⟨wc18.heap.size, 1, none⟩ = some (.slice x19s1 x19n1 x19c1) := HQwm23_0.cell 1 rfl
      have cf26 : wm23.cell? ⟨wc18.heap.size, 2, none⟩ = some (.slice x19s2 x19n2 x19c2) := HQwm23_0.cell 2 rfl
      clear HQwm23_0
      clear hqwm23
      replace cf3 := cell_b cf3 hbwm23
      replace cf4 := cell_b cf4 hbwm23
      replace cf5 := cell_b cf5 hbwm23
      replace cf16 := cell_b cf16 hbwm23
      replace cf17 := cell_b cf17 hbwm23
      replace howc7 := howc7.below hbwm23
      replace howc9 := howc9.below hbwm23
      replace howc11 := howc11.below hbwm23
      replace howc18 := howc18.below hbwm23
      replace hbw : Below w.heap.size w wm23 := hbw.trans (hbwm23.mono hbw.size)
      have hzwm23 : wc18.heap.size ≤ wm23.heap.size := hbwm23.size
      refine (toI_any' (h1.below hbw) hn_1).mono ?_
      rintro e wc27 ⟨x28s0, x28n0, x28c0, rfl, howc27, hbwc27⟩
      replace howc27 : OwnI wm23.heap.size wc27.heap.size wc27 (.slice x28s0 x28n0 x28c0) g1 := howc27
      replace cf3 := cell_b cf3 hbwc27
      replace cf4 := cell_b cf4 hbwc27
      replace cf5 := cell_b cf5 hbwc27
      replace cf16 := cell_b cf16 hbwc27
      replace cf17 := cell_b cf17 hbwc27
      replace cf24 := cell_b cf24 hbwc27
      replace cf25 := cell_b cf25 hbwc27
      replace cf26 := cell_b cf26 hbwc27
      replace howc7 := howc7.below hbwc27
      replace howc9 := howc9.below hbwc27
      replace howc11 := howc11.below hbwc27
      replace howc18 := howc18.below hbwc27
      replace hbw : Below w.heap.size w wc27 := hbw.trans (hbwc27.mono hbw.size)
      have hzwc27 : wm23.heap.size ≤ wc27.heap.size := hbwc27.size
      go_wp2_with fail
      refine (planFrom_i _ _ _ _ _ howc18.is howc27.is).mono ?_
      rintro e wc29 ⟨y30s0, y30n0, y30c0, y30s1, y30n1, y30c1, rfl, howc29, hbwc29⟩
      replace howc29 : OwnN wc27.heap.size wc29.heap.size wc29 (.agg #[.slice y30s0 y30n0 y30c0, .slice y30s1 y30n1 y30c1]) (plnN g0 g1) := howc29
      replace cf3 := cell_b cf3 hbwc29
      replace cf4 := cell_b cf4 hbwc29
      replace cf5 := cell_b cf5 hbwc29
      replace cf16 := cell_b cf16 hbwc29
      replace cf17 := cell_b cf17 hbwc29
      replace cf24 := cell_b cf24 hbwc29
      replace cf25 := cell_b cf25 hbwc29
      replace cf26 := cell_b cf26 hbwc29
      replace howc7 := howc7.below hbwc29
      replace howc9 := howc9.below hbwc29
      replace howc11 := howc11.below hbwc29
      replace howc18 := howc18.below hbwc29
      replace howc27 := howc27.below hbwc29
      replace hbw : Below w.heap.size w wc29 := hbw.trans (hbwc29.mono hbw.size)
      have hzwc29 : wc27.heap.size ≤ wc29.heap.size := hbwc29.size
      have hlimwc29 : szN (plnN g0 g1) ≤ 1048576 := plnN_sz g0 g1
      have hl32 : w.heap.size < wc29.heap.size := by omega
      have hl33 : wc11.heap.size < wc29.heap.size := by omega
      have hl34 : wc18.heap.size < wc29.heap.size := by omega
      go_wp2_with fail
      generalize hqwm35 : wc29.alloc (.cells #[.slice y30s0 y30n0 y30c0, .slice y30s1 y30n1 y30c1] 47) = wm35
      have hywm35 : wm35.heap.size = wc29.heap.size + 1 := by rw [← hqwm35]; simp
      have hbwm35 : Below wc29.heap.size wc29 wm35 := by rw [← hqwm35]; exact (by repeat' (first | (with_reducible exact Below.refl _ _) | (with_reducible apply Below.alloc) | (with_reducible apply Below.drew) | (with_reducible apply below_drawn) | omega | (simp only [World.size_alloc, World.size_setCell, World.size_drew]; omega)))
      have HQwm35_0 : Blk wm35 (wc29.heap.size) [.slice y30s0 y30n0 y30c0, .slice y30s1 y30n1 y30c1] 47 := by rw [← hqwm35]; have hnew := blk_new wc29 [.slice y30s0 y30n0 y30c0, .slice y30s1 y30n1 y30c1] 47; (try simp only [World.size_alloc] at hnew); exact hnew
      have cf36 : wm35.cell? ⟨wc29.heap.size, 0, none⟩ = some (.slice y30s0 y30n0 y30c0) := HQwm35_0.cell 0 rfl
      have cf37 : wm35.cell? ⟨wc29.heap.size, 1, none⟩ = some (.slice y30s1 y30n1 y30c1) := HQwm35_0.cell 1 rfl
      clear HQwm35_0
      clear hqwm35
      replace cf3 := cell_b cf3 hbwm35
      replace cf4 := cell_b cf4 hbwm35
      replace cf5 := cell_b cf5 hbwm35
      replace cf16 := cell_b cf16 hbwm35
      replace cf17 := cell_b cf17 hbwm35
      replace cf24 := cell_b cf24 hbwm35
      replace cf25 := cell_b cf25 hbwm35
      replace cf26 := cell_b cf26 hbwm35
      replace howc7 := howc7.below hbwm35
      replace howc9 := howc9.below hbwm35
      replace howc11 := howc11.below hbwm35
      replace howc18 := howc18.below hbwm35
      replace howc27 := howc27.below hbwm35
      replace howc29 := howc29.below hbwm35
      replace hbw : Below w.heap.size w wm35 := hbw.trans (hbwm35.mono hbw.size)
      have hzwm35 : wc29.heap.size ≤ wm35.heap.size := hbwm35.size
      refine (eqN_any _ _ _ _ _ howc29.is howc11.is).mono ?_
      rw [tf_true rfl]
      rintro e wc38 ⟨rfl, hbwc38⟩
      replace cf3 := cell_b cf3 hbwc38
      replace cf4 := cell_b cf4 hbwc38
      replace cf5 := cell_b cf5 hbwc38
      replace cf16 := cell_b cf16 hbwc38
      replace cf17 := cell_b cf17 hbwc38
      replace cf24 := cell_b cf24 hbwc38
      replace cf25 := cell_b cf25 hbwc38
      replace cf26 := cell_b cf26 hbwc38
      replace cf36 := cell_b cf36 hbwc38
      replace cf37 := cell_b cf37 hbwc38
      replace howc7 := howc7.below hbwc38
      replace howc9 := howc9.below hbwc38
      replace howc11 := howc11.below hbwc38
      replace howc18 := howc18.below hbwc38
      replace howc27 := howc27.below hbwc38
      replace howc29 := howc29.below hbwc38
      replace hbw : Below w.heap.size w wc38 := hbw.trans (hbwc38.mono hbw.size)
      have hzwc38 : wm35.heap.size ≤ wc38.heap.size := hbwc38.size
      go_wp2_with fail
      go_region_held3 (fun w' => w'.cell? ⟨wc18.heap.size, 0, none⟩ = some (.slice x19s0 x19n0 x19c0) ∧ w'.cell? ⟨wc18.heap.size, 1, none⟩ = some (.slice x19s1 x19n1 x19c1) ∧ w'.cell? ⟨wc18.heap.size, 2, none⟩ = some (.slice x19s2 x19n2 x19c2) ∧ w'.cell? ⟨w.heap.size, 0, none⟩ = some (.slice a0s0 a0n0 a0c0) ∧ w'.cell? ⟨w.heap.size, 1, none⟩ = some (.slice a0s1 a0n1 a0c1) ∧ w'.cell? ⟨w.heap.size, 2, none⟩ = some (.slice a0s2 a0n2 a0c2)) (first | exact ⟨cf24, cf25, cf26, cf3, cf4, cf5⟩ | go_keep)
        (first
          | (go_at_call 17; (with_reducible refine (toP_any _ _ _ ((h0.below hbw)).drew (by omega)).mono ?_); rintro e wc39 ⟨x40s0, x40n0, x40c0, x40s1, x40n1, x40c1, x40s2, x40n2, x40c2, rfl, howc39, hbwc39⟩; replace howc39 : OwnP wc38.heap.size wc39.heap.size wc39 (.agg #[.slice x40s0 x40n0 x40c0, .slice x40s1 x40n1 x40c1, .slice x40s2 x40n2 x40c2]) g0 := howc39; replace hbwc39 : Below wc38.heap.size wc38 wc39 := (below_drew _).trans hbwc39; replace cf3 := cell_b cf3 hbwc39; replace cf4 := cell_b cf4 hbwc39; replace cf5 := cell_b cf5 hbwc39; replace cf16 := cell_b cf16 hbwc39; replace cf17 := cell_b cf17 hbwc39; replace cf24 := cell_b cf24 hbwc39; replace cf25 := cell_b cf25 hbwc39; replace cf26 := cell_b cf26 hbwc39; replace cf36 := cell_b cf36 hbwc39; replace cf37 := cell_b cf37 hbwc39; replace howc7 := howc7.below hbwc39; replace howc9 := howc9.below hbwc39; replace howc11 := howc11.below hbwc39; replace howc18 := howc18.below hbwc39; replace howc27 := howc27.below hbwc39; replace howc29 := howc29.below hbwc39; replace hbw : Below w.heap.size w wc39 := hbw.trans (hbwc39.mono hbw.size); have hzwc39 : wc38.heap.size ≤ wc39.heap.size := hbwc39.size)
          | (go_at_call 19; (with_reducible refine (eqP_any _ _ _ _ _ howc18.is howc39.is).mono ?_); rw [tf_true rfl]; rintro e wc41 ⟨rfl, hbwc41⟩; replace cf3 := cell_b cf3 hbwc41; replace cf4 := cell_b cf4 hbwc41; replace cf5 := cell_b cf5 hbwc41; replace cf16 := cell_b cf16 hbwc41; replace cf17 := cell_b cf17 hbwc41; replace cf24 := cell_b cf24 hbwc41; replace cf25 := cell_b cf25 hbwc41; replace cf26 := cell_b cf26 hbwc41; replace cf36 := cell_b cf36 hbwc41; replace cf37 := cell_b cf37 hbwc41; replace howc7 := howc7.below hbwc41; replace howc9 := howc9.below hbwc41; replace howc11 := howc11.below hbwc41; replace howc18 := howc18.below hbwc41; replace howc27 := howc27.below hbwc41; replace howc29 := howc29.below hbwc41; replace howc39 := howc39.below hbwc41; replace hbw : Below w.heap.size w wc41 := hbw.trans (hbwc41.mono hbw.size); have hzwc41 : wc39.heap.size ≤ wc41.heap.size := hbwc41.size))
      go_wp2_with fail
      refine (toI_any' (h1.below hbw) hn_1).mono ?_
      rintro e wc42 ⟨x43s0, x43n0, x43c0, rfl, howc42, hbwc42⟩
      replace howc42 : OwnI wc41.heap.size wc42.heap.size wc42 (.slice x43s0 x43n0 x43c0) g1 := howc42
      replace cf3 := cell_b cf3 hbwc42
      replace cf4 := cell_b cf4 hbwc42
      replace cf5 := cell_b cf5 hbwc42
      replace cf16 := cell_b cf16 hbwc42
      replace cf17 := cell_b cf17 hbwc42
      replace cf24 := cell_b cf24 hbwc42
      replace cf25 := cell_b cf25 hbwc42
      replace cf26 := cell_b cf26 hbwc42
      replace cf36 := cell_b cf36 hbwc42
      replace cf37 := cell_b cf37 hbwc42
      replace howc7 := howc7.below hbwc42
      replace howc9 := howc9.below hbwc42
      replace howc11 := howc11.below hbwc42
      replace howc18 := howc18.below hbwc42
      replace howc27 := howc27.below hbwc42
      replace howc29 := howc29.below hbwc42
      replace howc39 := howc39.below hbwc42
      replace hbw : Below w.heap.size w wc42 := hbw.trans (hbwc42.mono hbw.size)
      have hzwc42 : wc41.heap.size ≤ wc42.heap.size := hbwc42.size
      go_wp2_with fail
      refine (eqI_any' howc27.is howc42.is).mono ?_
      rw [tf_true rfl]
      rintro e wc44 ⟨rfl, hbwc44⟩
      replace cf3 := cell_b cf3 hbwc44
      replace cf4 := cell_b cf4 hbwc44
      replace cf5 := cell_b cf5 hbwc44
      replace cf16 := cell_b cf16 hbwc44
      replace cf17 := cell_b cf17 hbwc44
      replace cf24 := cell_b cf24 hbwc44
      replace cf25 := cell_b cf25 hbwc44
      replace cf26 := cell_b cf26 hbwc44
      replace cf36 := cell_b cf36 hbwc44
      replace cf37 := cell_b cf37 hbwc44
      replace howc7 := howc7.below hbwc44
      replace howc9 := howc9.below hbwc44
      replace howc11 := howc11.below hbwc44
      replace howc18 := howc18.below hbwc44
      replace howc27 := howc27.below hbwc44
      replace howc29 := howc29.below hbwc44
      replace howc39 := howc39.below hbwc44
      replace howc42 := howc42.below hbwc44
      replace hbw : Below w.heap.size w wc44 := hbw.trans (hbwc44.mono hbw.size)
      have hzwc44 : wc42.heap.size ≤ wc44.heap.size := hbwc44.size
      go_wp2_with fail
      refine (markP_any howc18 _ (by omega) (by omega) (by omega) (by omega)).mono ?_
      rintro e wc45 ⟨rfl, hmwc45, hOwc45⟩
      replace cf3 := cell_o cf3 hOwc45 (by omega)
      replace cf4 := cell_o cf4 hOwc45 (by omega)
      replace cf5 := cell_o cf5 hOwc45 (by omega)
      replace cf16 := cell_o cf16 hOwc45 (by omega)
      replace cf17 := cell_o cf17 hOwc45 (by omega)
      replace cf24 := cell_o cf24 hOwc45 (by omega)
      replace cf25 := cell_o cf25 hOwc45 (by omega)
      replace cf26 := cell_o cf26 hOwc45 (by omega)
      replace cf36 := cell_o cf36 hOwc45 (by omega)
      replace cf37 := cell_o cf37 hOwc45 (by omega)
      replace howc7 := howc7.out hOwc45 (by omega)
      replace howc9 := howc9.out hOwc45 (by omega)
      replace howc11 := howc11.out hOwc45 (by omega)
      replace howc27 := howc27.out hOwc45 (by omega)
      replace howc29 := howc29.out hOwc45 (by omega)
      replace howc39 := howc39.out hOwc45 (by omega)
      replace howc42 := howc42.out hOwc45 (by omega)
      replace hbw : Below w.heap.size w wc45 := hbw.trans (hOwc45.below (by omega))
      have hzwc45 : wc44.heap.size ≤ wc45.heap.size := hOwc45.size
      have hlfwc45 : leafP g0 ≤ szP g0 := by unfold leafP leafA leafII szP szA szII; omega
      go_wp2_with fail
      have hkiwc46 : x28n0 ≤ 1048576 := by have h1 := howc27.len; have h2 := he1.out; omega
      refine (markI_law howc27 _ (by omega) (by omega) (by omega)).mono ?_
      rintro e wc46 ⟨rfl, hmwc46, hOwc46⟩
      replace cf3 := cell_o cf3 hOwc46 (by omega)
      replace cf4 := cell_o cf4 hOwc46 (by omega)
      replace cf5 := cell_o cf5 hOwc46 (by omega)
      replace cf16 := cell_o cf16 hOwc46 (by omega)
      replace cf17 := cell_o cf17 hOwc46 (by omega)
      replace cf24 := cell_o cf24 hOwc46 (by omega)
      replace cf25 := cell_o cf25 hOwc46 (by omega)
      replace cf26 := cell_o cf26 hOwc46 (by omega)
      replace cf36 := cell_o cf36 hOwc46 (by omega)
      replace cf37 := cell_o cf37 hOwc46 (by omega)
      replace howc7 := howc7.out hOwc46 (by omega)
      replace howc9 := howc9.out hOwc46 (by omega)
      replace howc11 := howc11.out hOwc46 (by omega)
      replace howc29 := howc29.out hOwc46 (by omega)
      replace howc39 := howc39.out hOwc46 (by omega)
      replace howc42 := howc42.out hOwc46 (by omega)
      replace hmwc45 := hmwc45.out hOwc46 (by omega)
      replace hbw : Below w.heap.size w wc46 := hbw.trans (hOwc46.below (by omega))
      have hzwc46 : wc45.heap.size ≤ wc46.heap.size := hOwc46.size
      go_wp2_with fail
      refine (eqN_any _ _ _ _ _ howc29.is howc11.is).mono ?_
      rw [tf_true rfl]
      rintro e wc47 ⟨rfl, hbwc47⟩
      replace cf3 := cell_b cf3 hbwc47
      replace cf4 := cell_b cf4 hbwc47
      replace cf5 := cell_b cf5 hbwc47
      replace cf16 := cell_b cf16 hbwc47
      replace cf17 := cell_b cf17 hbwc47
      replace cf24 := cell_b cf24 hbwc47
      replace cf25 := cell_b cf25 hbwc47
      replace cf26 := cell_b cf26 hbwc47
      replace cf36 := cell_b cf36 hbwc47
      replace cf37 := cell_b cf37 hbwc47
      replace howc7 := howc7.below hbwc47
      replace howc9 := howc9.below hbwc47
      replace howc11 := howc11.below hbwc47
      replace howc29 := howc29.below hbwc47
      replace howc39 := howc39.below hbwc47
      replace howc42 := howc42.below hbwc47
      replace hmwc45 := hmwc45.below hbwc47
      replace hmwc46 := hmwc46.below hbwc47
      replace hbw : Below w.heap.size w wc47 := hbw.trans (hbwc47.mono hbw.size)
      have hzwc47 : wc46.heap.size ≤ wc47.heap.size := hbwc47.size
      go_wp2_with fail
      refine (markN_any howc29 _ (by omega) (by omega) (by omega) (by omega)).mono ?_
      rintro e wc48 ⟨rfl, hmwc48, hOwc48⟩
      replace cf3 := cell_o cf3 hOwc48 (by omega)
      replace cf4 := cell_o cf4 hOwc48 (by omega)
      replace cf5 := cell_o cf5 hOwc48 (by omega)
      replace cf16 := cell_o cf16 hOwc48 (by omega)
      replace cf17 := cell_o cf17 hOwc48 (by omega)
      replace cf24 := cell_o cf24 hOwc48 (by omega)
      replace cf25 := cell_o cf25 hOwc48 (by omega)
      replace cf26 := cell_o cf26 hOwc48 (by omega)
      replace cf36 := cell_o cf36 hOwc48 (by omega)
      replace cf37 := cell_o cf37 hOwc48 (by omega)
      replace howc7 := howc7.out hOwc48 (by omega)
      replace howc9 := howc9.out hOwc48 (by omega)
      replace howc11 := howc11.out hOwc48 (by omega)
      replace howc39 := howc39.out hOwc48 (by omega)
      replace howc42 := howc42.out hOwc48 (by omega)
      replace hmwc45 := hmwc45.out hOwc48 (by omega)
      replace hmwc46 := hmwc46.out hOwc48 (by omega)
      replace hbw : Below w.heap.size w wc48 := hbw.trans (hOwc48.below (by omega))
      have hzwc48 : wc47.heap.size ≤ wc48.heap.size := hOwc48.size
      go_wp2_with fail
      refine (heldN_any _ _ hmwc48.is (by omega) (by omega) (by omega)).mono ?_
      rintro e wc49 ⟨rfl, hbwc49⟩
      replace cf3 := cell_b cf3 hbwc49
      replace cf4 := cell_b cf4 hbwc49
      replace cf5 := cell_b cf5 hbwc49
      replace cf16 := cell_b cf16 hbwc49
      replace cf17 := cell_b cf17 hbwc49
      replace cf24 := cell_b cf24 hbwc49
      replace cf25 := cell_b cf25 hbwc49
      replace cf26 := cell_b cf26 hbwc49
      replace cf36 := cell_b cf36 hbwc49
      replace cf37 := cell_b cf37 hbwc49
      replace howc7 := howc7.below hbwc49
      replace howc9 := howc9.below hbwc49
      replace howc11 := howc11.below hbwc49
      replace howc39 := howc39.below hbwc49
      replace howc42 := howc42.below hbwc49
      replace hmwc45 := hmwc45.below hbwc49
      replace hmwc46 := hmwc46.below hbwc49
      replace hmwc48 := hmwc48.below hbwc49
      replace hbw : Below w.heap.size w wc49 := hbw.trans (hbwc49.mono hbw.size)
      have hzwc49 : wc48.heap.size ≤ wc49.heap.size := hbwc49.size
      go_wp2_with fail
      refine (toP_any _ _ _ (h0.below hbw) (by omega)).mono ?_
      rintro e wc50 ⟨x51s0, x51n0, x51c0, x51s1, x51n1, x51c1, x51s2, x51n2, x51c2, rfl, howc50, hbwc50⟩
      replace howc50 : OwnP wc49.heap.size wc50.heap.size wc50 (.agg #[.slice x51s0 x51n0 x51c0, .slice x51s1 x51n1 x51c1, .slice x51s2 x51n2 x51c2]) g0 := howc50
      replace cf3 := cell_b cf3 hbwc50
      replace cf4 := cell_b cf4 hbwc50
      replace cf5 := cell_b cf5 hbwc50
      replace cf16 := cell_b cf16 hbwc50
      replace cf17 := cell_b cf17 hbwc50
      replace cf24 := cell_b cf24 hbwc50
      replace cf25 := cell_b cf25 hbwc50
      replace cf26 := cell_b cf26 hbwc50
      replace cf36 := cell_b cf36 hbwc50
      replace cf37 := cell_b cf37 hbwc50
      replace howc7 := howc7.below hbwc50
      replace howc9 := howc9.below hbwc50
      replace howc11 := howc11.below hbwc50
      replace howc39 := howc39.below hbwc50
      replace howc42 := howc42.below hbwc50
      replace hmwc45 := hmwc45.below hbwc50
      replace hmwc46 := hmwc46.below hbwc50
      replace hmwc48 := hmwc48.below hbwc50
      replace hbw : Below w.heap.size w wc50 := hbw.trans (hbwc50.mono hbw.size)
      have hzwc50 : wc49.heap.size ≤ wc50.heap.size := hbwc50.size
      go_wp2_with fail
      refine (toI_any' (h1.below hbw) hn_1).mono ?_
      rintro e wc52 ⟨x53s0, x53n0, x53c0, rfl, howc52, hbwc52⟩
      replace howc52 : OwnI wc50.heap.size wc52.heap.size wc52 (.slice x53s0 x53n0 x53c0) g1 := howc52
      replace cf3 := cell_b cf3 hbwc52
      replace cf4 := cell_b cf4 hbwc52
      replace cf5 := cell_b cf5 hbwc52
      replace cf16 := cell_b cf16 hbwc52
      replace cf17 := cell_b cf17 hbwc52
      replace cf24 := cell_b cf24 hbwc52
      replace cf25 := cell_b cf25 hbwc52
      replace cf26 := cell_b cf26 hbwc52
      replace cf36 := cell_b cf36 hbwc52
      replace cf37 := cell_b cf37 hbwc52
      replace howc7 := howc7.below hbwc52
      replace howc9 := howc9.below hbwc52
      replace howc11 := howc11.below hbwc52
      replace howc39 := howc39.below hbwc52
      replace howc42 := howc42.below hbwc52
      replace hmwc45 := hmwc45.below hbwc52
      replace hmwc46 := hmwc46.below hbwc52
      replace hmwc48 := hmwc48.below hbwc52
      replace howc50 := howc50.below hbwc52
      replace hbw : Below w.heap.size w wc52 := hbw.trans (hbwc52.mono hbw.size)
      have hzwc52 : wc50.heap.size ≤ wc52.heap.size := hbwc52.size
      go_wp2_with fail
      refine (planFrom_i _ _ _ _ _ howc50.is howc52.is).mono ?_
      rintro e wc54 ⟨y55s0, y55n0, y55c0, y55s1, y55n1, y55c1, rfl, howc54, hbwc54⟩
      replace howc54 : OwnN wc52.heap.size wc54.heap.size wc54 (.agg #[.slice y55s0 y55n0 y55c0, .slice y55s1 y55n1 y55c1]) (plnN g0 g1) := howc54
      replace cf3 := cell_b cf3 hbwc54
      replace cf4 := cell_b cf4 hbwc54
      replace cf5 := cell_b cf5 hbwc54
      replace cf16 := cell_b cf16 hbwc54
      replace cf17 := cell_b cf17 hbwc54
      replace cf24 := cell_b cf24 hbwc54
      replace cf25 := cell_b cf25 hbwc54
      replace cf26 := cell_b cf26 hbwc54
      replace cf36 := cell_b cf36 hbwc54
      replace cf37 := cell_b cf37 hbwc54
      replace howc7 := howc7.below hbwc54
      replace howc9 := howc9.below hbwc54
      replace howc11 := howc11.below hbwc54
      replace howc39 := howc39.below hbwc54
      replace howc42 := howc42.below hbwc54
      replace hmwc45 := hmwc45.below hbwc54
      replace hmwc46 := hmwc46.below hbwc54
      replace hmwc48 := hmwc48.below hbwc54
      replace howc50 := howc50.below hbwc54
      replace howc52 := howc52.below hbwc54
      replace hbw : Below w.heap.size w wc54 := hbw.trans (hbwc54.mono hbw.size)
      have hzwc54 : wc52.heap.size ≤ wc54.heap.size := hbwc54.size
      have hlimwc54 : szN (plnN g0 g1) ≤ 1048576 := plnN_sz g0 g1
      have hl57 : w.heap.size < wc54.heap.size := by omega
      have hl58 : wc11.heap.size < wc54.heap.size := by omega
      have hl59 : wc18.heap.size < wc54.heap.size := by omega
      have hl60 : wc29.heap.size < wc54.heap.size := by omega
      go_wp2_with fail
      generalize hqwm61 : wc54.alloc (.cells #[.slice y55s0 y55n0 y55c0, .slice y55s1 y55n1 y55c1] 47) = wm61
      have hywm61 : wm61.heap.size = wc54.heap.size + 1 := by rw [← hqwm61]; simp
      have hbwm61 : Below wc54.heap.size wc54 wm61 := by rw [← hqwm61]; exact (by repeat' (first | (with_reducible exact Below.refl _ _) | (with_reducible apply Below.alloc) | (with_reducible apply Below.drew) | (with_reducible apply below_drawn) | omega | (simp only [World.size_alloc, World.size_setCell, World.size_drew]; omega)))
      have HQwm61_0 : Blk wm61 (wc54.heap.size) [.slice y55s0 y55n0 y55c0, .slice y55s1 y55n1 y55c1] 47 := by rw [← hqwm61]; have hnew := blk_new wc54 [.slice y55s0 y55n0 y55c0, .slice y55s1 y55n1 y55c1] 47; (try simp only [World.size_alloc] at hnew); exact hnew
      have cf62 : wm61.cell? ⟨wc54.heap.size, 0, none⟩ = some (.slice y55s0 y55n0 y55c0) := HQwm61_0.cell 0 rfl
      have cf63 : wm61.cell? ⟨wc54.heap.size, 1, none⟩ = some (.slice y55s1 y55n1 y55c1) := HQwm61_0.cell 1 rfl
      clear HQwm61_0
      clear hqwm61
      replace cf3 := cell_b cf3 hbwm61
      replace cf4 := cell_b cf4 hbwm61
      replace cf5 := cell_b cf5 hbwm61
      replace cf16 := cell_b cf16 hbwm61
      replace cf17 := cell_b cf17 hbwm61
      replace cf24 := cell_b cf24 hbwm61
      replace cf25 := cell_b cf25 hbwm61
      replace cf26 := cell_b cf26 hbwm61
      replace cf36 := cell_b cf36 hbwm61
      replace cf37 := cell_b cf37 hbwm61
      replace howc7 := howc7.below hbwm61
      replace howc9 := howc9.below hbwm61
      replace howc11 := howc11.below hbwm61
      replace howc39 := howc39.below hbwm61
      replace howc42 := howc42.below hbwm61
      replace hmwc45 := hmwc45.below hbwm61
      replace hmwc46 := hmwc46.below hbwm61
      replace hmwc48 := hmwc48.below hbwm61
      replace howc50 := howc50.below hbwm61
      replace howc52 := howc52.below hbwm61
      replace howc54 := howc54.below hbwm61
      replace hbw : Below w.heap.size w wm61 := hbw.trans (hbwm61.mono hbw.size)
      have hzwm61 : wc54.heap.size ≤ wm61.heap.size := hbwm61.size
      refine (eqN_any _ _ _ _ _ howc54.is howc11.is).mono ?_
      rw [tf_true rfl]
      rintro e wc64 ⟨rfl, hbwc64⟩
      replace cf3 := cell_b cf3 hbwc64
      replace cf4 := cell_b cf4 hbwc64
      replace cf5 := cell_b cf5 hbwc64
      replace cf16 := cell_b cf16 hbwc64
      replace cf17 := cell_b cf17 hbwc64
      replace cf24 := cell_b cf24 hbwc64
      replace cf25 := cell_b cf25 hbwc64
      replace cf26 := cell_b cf26 hbwc64
      replace cf36 := cell_b cf36 hbwc64
      replace cf37 := cell_b cf37 hbwc64
      replace cf62 := cell_b cf62 hbwc64
      replace cf63 := cell_b cf63 hbwc64
      replace howc7 := howc7.below hbwc64
      replace howc9 := howc9.below hbwc64
      replace howc11 := howc11.below hbwc64
      replace howc39 := howc39.below hbwc64
      replace howc42 := howc42.below hbwc64
      replace hmwc45 := hmwc45.below hbwc64
      replace hmwc46 := hmwc46.below hbwc64
      replace hmwc48 := hmwc48.below hbwc64
      replace howc50 := howc50.below hbwc64
      replace howc52 := howc52.below hbwc64
      replace howc54 := howc54.below hbwc64
      replace hbw : Below w.heap.size w wc64 := hbw.trans (hbwc64.mono hbw.size)
      have hzwc64 : wm61.heap.size ≤ wc64.heap.size := hbwc64.size
      go_wp2_with fail
      refine (heldN_any _ _ hmwc48.is (by omega) (by omega) (by omega)).mono ?_
      rintro e wc65 ⟨rfl, hbwc65⟩
      replace cf3 := cell_b cf3 hbwc65
      replace cf4 := cell_b cf4 hbwc65
      replace cf5 := cell_b cf5 hbwc65
      replace cf16 := cell_b cf16 hbwc65
      replace cf17 := cell_b cf17 hbwc65
      replace cf24 := cell_b cf24 hbwc65
      replace cf25 := cell_b cf25 hbwc65
      replace cf26 := cell_b cf26 hbwc65
      replace cf36 := cell_b cf36 hbwc65
      replace cf37 := cell_b cf37 hbwc65
      replace cf62 := cell_b cf62 hbwc65
      replace cf63 := cell_b cf63 hbwc65
      replace howc7 := howc7.below hbwc65
      replace howc9 := howc9.below hbwc65
      replace howc11 := howc11.below hbwc65
      replace howc39 := howc39.below hbwc65
      replace howc42 := howc42.below hbwc65
      replace hmwc45 := hmwc45.below hbwc65
      replace hmwc46 := hmwc46.below hbwc65
      replace hmwc48 := hmwc48.below hbwc65
      replace howc50 := howc50.below hbwc65
      replace howc52 := howc52.below hbwc65
      replace howc54 := howc54.below hbwc65
      replace hbw : Below w.heap.size w wc65 := hbw.trans (hbwc65.mono hbw.size)
      have hzwc65 : wc64.heap.size ≤ wc65.heap.size := hbwc65.size
      go_wp2_with fail
      go_ret
      exact ⟨rfl, hbw⟩
    · have hz_0 := lft_no (l := 1048576) (n := szP g0) (by omega)
      go_enter Try.func9, Try.ntmps9
      have hbw : Below w.heap.size w w := Below.refl _ _
      go_wp2_with fail
      generalize hqwm2 : w.alloc (.cells #[.slice a0s0 a0n0 a0c0, .slice a0s1 a0n1 a0c1, .slice a0s2 a0n2 a0c2] 27) = wm2
      have hywm2 : wm2.heap.size = w.heap.size + 1 := by rw [← hqwm2]; simp
      have hbwm2 : Below w.heap.size w wm2 := by rw [← hqwm2]; exact (by repeat' (first | (with_reducible exact Below.refl _ _) | (with_reducible apply Below.alloc) | (with_reducible apply Below.drew) | (with_reducible apply below_drawn) | omega | (simp only [World.size_alloc, World.size_setCell, World.size_drew]; omega)))
      have HQwm2_0 : Blk wm2 (w.heap.size) [.slice a0s0 a0n0 a0c0, .slice a0s1 a0n1 a0c1, .slice a0s2 a0n2 a0c2] 27 := by rw [← hqwm2]; have hnew := blk_new w [.slice a0s0 a0n0 a0c0, .slice a0s1 a0n1 a0c1, .slice a0s2 a0n2 a0c2] 27; (try simp only [World.size_alloc] at hnew); exact hnew
      have cf3 : wm2.cell? ⟨w.heap.size, 0, none⟩ = some (.slice a0s0 a0n0 a0c0) := HQwm2_0.cell 0 rfl
      have cf4 : wm2.cell? ⟨w.heap.size, 1, none⟩ = some (.slice a0s1 a0n1 a0c1) := HQwm2_0.cell 1 rfl
      have cf5 : wm2.cell? ⟨w.heap.size, 2, none⟩ = some (.slice a0s2 a0n2 a0c2) := HQwm2_0.cell 2 rfl
      clear HQwm2_0
      clear hqwm2
      replace hbw : Below w.heap.size w wm2 := hbw.trans (hbwm2.mono hbw.size)
      have hzwm2 : w.heap.size ≤ wm2.heap.size := hbwm2.size
      refine (szP_any _ _ _ _ (h0.below hbw) (by omega) (by omega)).mono ?_
      rw [hz_0]
      rintro e wc6 ⟨rfl, hbwc6⟩
      replace cf3 := cell_b cf3 hbwc6
      replace cf4 := cell_b cf4 hbwc6
      replace cf5 := cell_b cf5 hbwc6
      replace hbw : Below w.heap.size w wc6 := hbw.trans (hbwc6.mono hbw.size)
      have hzwc6 : wm2.heap.size ≤ wc6.heap.size := hbwc6.size
      go_wp2_with fail
      go_ret
      exact ⟨rfl, hbw⟩
  · go_enter Try.func9, Try.ntmps9
    have hbw : Below w.heap.size w w := Below.refl _ _
    go_wp2_with fail
    go_ret
    exact ⟨rfl, (by repeat' (first | (with_reducible exact Below.refl _ _) | (with_reducible assumption) | (with_reducible apply below_set) | (with_reducible apply Below.alloc) | (with_reducible apply Below.drew) | (with_reducible apply below_drawn) | (with_reducible refine Below.trans ?_ (Below.mono (by assumption) ?_)) | omega | (simp only [World.size_alloc, World.size_setCell, World.size_drew]; omega)))⟩
open Go.ChangeShapes Go.WideShapes Go.ChangeAt
theorem rec : ∀ t ∈ Try.f9.params.toList, Try.prog.readableRec t = true ∧ t < Try.prog.types.size := by
  rw [Try.params9]
  intro t ht
  simp only [List.mem_cons, List.not_mem_nil, or_false] at ht
  rcases ht with rfl | rfl
  all_goals exact ⟨by kernel_rfl, of_decide_eq_true (by kernel_rfl)⟩
set_option maxRecDepth 100000 in
theorem lifted (os : Os) (started : os.Started) (H : Type) (enc : TypeId × Value → H) :
    ReturnsInHanded {} Try.checked os 9 .any (Rows.fnExactPlanFromSpec.pre6 enc Try.prog Try.f9 Rows.fnExactPlanFromRow.domain false) (Rows.fnExactPlanFromSpec.post enc Try.prog Try.f9 false true false false) := by
  refine returnsInHanded_of_change (C := Try.checked) own started (by kernel_rfl) Try.func9
    (ChangeSpec.witness6 (enc := enc) (C := Try.checked) false ⟨#[], #[.agg #[.slice none 0 0, .slice none 0 0, .slice none 0 0], .slice none 0 0], []⟩ 8 (by kernel_rfl) (by kernel_rfl) (by kernel_rfl) (by kernel_rfl)) ?_
  intro W base args ds gs before hval0 hW hcnd _
  have hval : ∀ (j : Nat) t v, Try.f9.params[j]? = some t → args[j]? = some v → Value.okWide Try.prog W .any base t v := hval0
  have hW' := hW
  obtain ⟨p, q, hA0, hV, rfl, hfz, hnd⟩ := hW
  have hA : DataW.TrodAll enc Try.prog W 0 (fun _ => true) true Try.f9.params.toList args.toList ds p := hA0
  rw [Try.params9] at hA hval
  obtain ⟨v0, vs0, d0, ds0, p0, q0, hargs, rfl, rfl, t0, r0⟩ := trodAll_cons hA
  obtain ⟨v1, vs1, d1, ds1, p1, q1, rfl, rfl, rfl, t1, r1⟩ := trodAll_cons r0
  obtain ⟨rfl, rfl, rfl⟩ := trodAll_nil r1
  obtain rfl : args = #[v0, v1] := by cases args; simp_all
  obtain ⟨rfl, rfl⟩ := trodVars_none hV
  obtain ⟨g0, h0, wf0⟩ := openP (hval 0 _ v0 rfl rfl) t0
  obtain ⟨g1, h1, wf1⟩ := openI1 (hval 1 _ v1 rfl rfl) t1
  clear hA0 hval0
  refine (walk v0 g0 v1 g1 W h0 h1 wf0 wf1).mono fun e W' ⟨he, hb⟩ => ?_
  subst he
  exact ⟨_, rfl, law_post laid rec (by kernel_rfl) rfl rfl hW' hb⟩
theorem over : Rows.fnExactPlanFromRow.holds Try.pinned (OpenSpec.ofChange Rows.fnExactPlanFromSpec) :=
  OpenClaim.holds_of_wide 9 Try.f9 rfl rfl rfl rfl rfl rfl rfl ⟨rfl, rfl, rfl, rfl, rfl⟩ rfl rfl rfl rfl rfl (by kernel_rfl) Try.func9 (by kernel_rfl)
    (of_decide_eq_true (by kernel_rfl)) (by unfold Func.isWrapper; first | (rw [if_pos (by decide +kernel)]; kernel_rfl) | (rw [if_neg (by decide +kernel)]; exact ⟨rfl, rfl⟩))
    (fun os started H enc _ => lifted os started H enc)
theorem proved : Rows.FnExactPlanFromSaid := over
#print axioms proved
end Go.Proofs.Ythdioaeekhkgcaa.fnExactPlanFrom
