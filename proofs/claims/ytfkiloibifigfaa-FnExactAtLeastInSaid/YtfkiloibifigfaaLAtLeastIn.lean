/-
  For every input the law FnExactAtLeastIn returns true and leaves its arguments as they were: the program's AtLeastIn returns what the reference's returns. No condition.
-/
import Derived.Test.YtfkiloibifigfaaLaw
import Derived.Test.YtfkiloibifigfaaL4
import Derived.Test.YtfkiloibifigfaaCb
namespace Go.Proofs.Ytfkiloibifigfaa.fnExactAtLeastIn
set_option linter.unusedVariables false
set_option linter.unusedSimpArgs false
open Go.RowKit
attribute [local go_sem ↓] Go.wp_at_zero Go.wp_at_succ

set_option maxRecDepth 100000 in
set_option maxHeartbeats 4000000 in
theorem walk (u0 : Value) (g0 : Pa) (u1 : Value) (g1 : List Int) (u2 : Value) (g2 : List Int) (g3 : Int) (w : World) (h0 : IsP w u0 g0) (h1 : IsI w u1 g1) (h2 : IsI w u2 g2) (wf0 : WfP g0) (wf1 : Wf g1) (wf2 : Wf g2) (wf3 : (Lit.int .i64 g3).wf = true) : Calls Try.prog 4 #[u0, u1, u2, .int .i64 g3] w (Bb w true) := by
  obtain ⟨a0s0, a0n0, a0c0, a0s1, a0n1, a0c1, a0s2, a0n2, a0c2, rfl⟩ := h0.form
  obtain ⟨a1s0, a1n0, a1c0, rfl⟩ := h1.form
  obtain ⟨a2s0, a2n0, a2c0, rfl⟩ := h2.form
  have hl1 : a1n0 ≤ 9223372036854775807 := h1.len_le
  have he1 := Lib.hid h1.len_eq
  have hl2 : a2n0 ≤ 9223372036854775807 := h2.len_le
  have he2 := Lib.hid h2.len_eq
  by_cases hn_1 : a1n0 ≤ 1048576
  · by_cases hn_2 : a2n0 ≤ 1048576
    · by_cases hn_0 : ((szP g0 : Nat) : Int) ≤ 1048576
      · have hz_0 := lft_ok hn_0
        replace hn_0 : szP g0 ≤ 1048576 - (0) := by omega
        have hp_0 : (0 : Int) ≤ 1048576 - ((szP g0 : Nat) : Int) := by omega
        go_enter Try.func4, Try.ntmps4
        have hbw : Below w.heap.size w w := Below.refl _ _
        go_wp2_with fail
        generalize hqwm2 : w.alloc (.cells #[.slice a0s0 a0n0 a0c0, .slice a0s1 a0n1 a0c1, .slice a0s2 a0n2 a0c2] 27) = wm2
        have hywm2 : wm2.heap.size = w.heap.size + 1 := by rw [← hqwm2]; simp
        have hbwm2 : Below w.heap.size w wm2 := by rw [← hqwm2]; exact (by repeat' (first | (with_reducible exact Below.refl _ _) | (with_reducible apply Below.alloc) | (with_reducible apply Below.drew) | (with_reducible apply below_drawn) | omega | (simp only [World.size_alloc, World.size_setCell, World.size_drew]; omega)))
        have HQwm2_0 : Blk wm2 (w.heap.size) [.slice a0s0 a0n0 a0c0, .slice a0s1 a0n1 a0c1, .slice a0s2 a0n2 a0c2] 27 := by rw [← hqwm2]; have hnew := blk_new w [.slice a0s0 a0n0 a0c0, .slice a0s1 a0n1 a0c1, .slice a0s2 a0n2 a0c2] 27; (try simp only [World.size_alloc] at hnew); exact hnew
        have cf3 : wm2.cell? ⟨w.heap.size, 0, none⟩ = some (.slice a0s0 a0n0 a0c0) := HQwm2_0.cell 0 rfl
        have cf4 : wm2.cell? ⟨w.heap.size, 1, none⟩ = some (.slice a0s1 a0n1 a0c1) := HQwm2_0.cell 1 rfl
        have cf5 : wm2.cell? ⟨w.heap.size, 2, none⟩ = some (.slice a0s2 a0n2 a0c2) := HQwm2_0.cell 2 rfl
        clear HQwm2_0
        clear hqwm2
        replace hbw : Below w.heap.size w wm2 := hbw.trans (hbwm2.mono hbw.size)
        have hzwm2 : w.heap.size ≤ wm2.heap.size := hbwm2.size
        refine (szP_any _ _ _ _ (h0.below hbw) (by omega) (by omega)).mono ?_
        rw [hz_0]
        rintro e wc6 ⟨rfl, hbwc6⟩
        replace cf3 := cell_b cf3 hbwc6
        replace cf4 := cell_b cf4 hbwc6
        replace cf5 := cell_b cf5 hbwc6
        replace hbw : Below w.heap.size w wc6 := hbw.trans (hbwc6.mono hbw.size)
        have hzwc6 : wm2.heap.size ≤ wc6.heap.size := hbwc6.size
        go_wp2_with fail
        refine (toP_any _ _ _ (h0.below hbw) (by omega)).mono ?_
        rintro e wc7 ⟨x8s0, x8n0, x8c0, x8s1, x8n1, x8c1, x8s2, x8n2, x8c2, rfl, howc7, hbwc7⟩
        replace howc7 : OwnP wc6.heap.size wc7.heap.size wc7 (.agg #[.slice x8s0 x8n0 x8c0, .slice x8s1 x8n1 x8c1, .slice x8s2 x8n2 x8c2]) g0 := howc7
        replace cf3 := cell_b cf3 hbwc7
        replace cf4 := cell_b cf4 hbwc7
        replace cf5 := cell_b cf5 hbwc7
        replace hbw : Below w.heap.size w wc7 := hbw.trans (hbwc7.mono hbw.size)
        have hzwc7 : wc6.heap.size ≤ wc7.heap.size := hbwc7.size
        go_wp2_with fail
        refine (toI_any' (h1.below hbw) hn_1).mono ?_
        rintro e wc9 ⟨x10s0, x10n0, x10c0, rfl, howc9, hbwc9⟩
        replace howc9 : OwnI wc7.heap.size wc9.heap.size wc9 (.slice x10s0 x10n0 x10c0) g1 := howc9
        replace cf3 := cell_b cf3 hbwc9
        replace cf4 := cell_b cf4 hbwc9
        replace cf5 := cell_b cf5 hbwc9
        replace howc7 := howc7.below hbwc9
        replace hbw : Below w.heap.size w wc9 := hbw.trans (hbwc9.mono hbw.size)
        have hzwc9 : wc7.heap.size ≤ wc9.heap.size := hbwc9.size
        go_wp2_with fail
        refine (toI_any' (h2.below hbw) hn_2).mono ?_
        rintro e wc11 ⟨x12s0, x12n0, x12c0, rfl, howc11, hbwc11⟩
        replace howc11 : OwnI wc9.heap.size wc11.heap.size wc11 (.slice x12s0 x12n0 x12c0) g2 := howc11
        replace cf3 := cell_b cf3 hbwc11
        replace cf4 := cell_b cf4 hbwc11
        replace cf5 := cell_b cf5 hbwc11
        replace howc7 := howc7.below hbwc11
        replace howc9 := howc9.below hbwc11
        replace hbw : Below w.heap.size w wc11 := hbw.trans (hbwc11.mono hbw.size)
        have hzwc11 : wc9.heap.size ≤ wc11.heap.size := hbwc11.size
        go_wp2_with fail
        refine (atLeast_s _ _ _ _ _ _ _ _ howc7.is howc9.is howc11.is).mono ?_
        rintro e wc13 ⟨rfl, hbwc13⟩
        replace cf3 := cell_b cf3 hbwc13
        replace cf4 := cell_b cf4 hbwc13
        replace cf5 := cell_b cf5 hbwc13
        replace howc7 := howc7.below hbwc13
        replace howc9 := howc9.below hbwc13
        replace howc11 := howc11.below hbwc13
        replace hbw : Below w.heap.size w wc13 := hbw.trans (hbwc13.mono hbw.size)
        have hzwc13 : wc11.heap.size ≤ wc13.heap.size := hbwc13.size
        go_wp2_with fail
        refine (toP_any _ _ _ (h0.below hbw) (by omega)).mono ?_
        rintro e wc14 ⟨x15s0, x15n0, x15c0, x15s1, x15n1, x15c1, x15s2, x15n2, x15c2, rfl, howc14, hbwc14⟩
        replace howc14 : OwnP wc13.heap.size wc14.heap.size wc14 (.agg #[.slice x15s0 x15n0 x15c0, .slice x15s1 x15n1 x15c1, .slice x15s2 x15n2 x15c2]) g0 := howc14
        replace cf3 := cell_b cf3 hbwc14
        replace cf4 := cell_b cf4 hbwc14
        replace cf5 := cell_b cf5 hbwc14
        replace howc7 := howc7.below hbwc14
        replace howc9 := howc9.below hbwc14
        replace howc11 := howc11.below hbwc14
        replace hbw : Below w.heap.size w wc14 := hbw.trans (hbwc14.mono hbw.size)
        have hzwc14 : wc13.heap.size ≤ wc14.heap.size := hbwc14.size
        have hl17 : w.heap.size < wc14.heap.size := by omega
        go_wp2_with fail
        generalize hqwm18 : wc14.alloc (.cells #[.slice x15s0 x15n0 x15c0, .slice x15s1 x15n1 x15c1, .slice x15s2 x15n2 x15c2] 33) = wm18
        have hywm18 : wm18.heap.size = wc14.heap.size + 1 := by rw [← hqwm18]; simp
        have hbwm18 : Below wc14.heap.size wc14 wm18 := by rw [← hqwm18]; exact (by repeat' (first | (with_reducible exact Below.refl _ _) | (with_reducible apply Below.alloc) | (with_reducible apply Below.drew) | (with_reducible apply below_drawn) | omega | (simp only [World.size_alloc, World.size_setCell, World.size_drew]; omega)))
        have HQwm18_0 : Blk wm18 (wc14.heap.size) [.slice x15s0 x15n0 x15c0, .slice x15s1 x15n1 x15c1, .slice x15s2 x15n2 x15c2] 33 := by rw [← hqwm18]; have hnew := blk_new wc14 [.slice x15s0 x15n0 x15c0, .slice x15s1 x15n1 x15c1, .slice x15s2 x15n2 x15c2] 33; (try simp only [World.size_alloc] at hnew); exact hnew
        have cf19 : wm18.cell? ⟨wc14.heap.size, 0, none⟩ = some (.slice x15s0 x15n0 x15c0) := HQwm18_0.cell 0 rfl
        have cf20 : wm18.cell? ⟨wc14.heap.size, 1, none⟩ = some (.slice x15s1 x15n1 x15c1) := HQwm18_0.cell 1 rfl
        have cf21 : wm18.cell? ⟨wc14.heap.size, 2, none⟩ = some (.slice x15s2 x15n2 x15c2) := HQwm18_0.cell 2 rfl
        clear HQwm18_0
        clear hqwm18
        replace cf3 := cell_b cf3 hbwm18
        replace cf4 := cell_b cf4 hbwm18
        replace cf5 := cell_b cf5 hbwm18
        replace howc7 := howc7.below hbwm18
        replace howc9 := howc9.below hbwm18
        replace howc11 := howc11.below hbwm18
        replace howc14 := howc14.below hbwm18
        replace hbw : Below w.heap.size w wm18 := hbw.trans (hbwm18.mono hbw.size)
        have hzwm18 : wc14.heap.size ≤ wm18.heap.size := hbwm18.size
        refine (toI_any' (h1.below hbw) hn_1).mono ?_
        rintro e wc22 ⟨x23s0, x23n0, x23c0, rfl, howc22, hbwc22⟩
        replace howc22 : OwnI wm18.heap.size wc22.heap.size wc22 (.slice x23s0 x23n0 x23c0) g1 := howc22
        replace cf3 := cell_b cf3 hbwc22
        replace cf4 := cell_b cf4 hbwc22
        replace cf5 := cell_b cf5 hbwc22
        replace cf19 := cell_b cf19 hbwc22
        replace cf20 := cell_b cf20 hbwc22
        replace cf21 := cell_b cf21 hbwc22
        replace howc7 := howc7.below hbwc22
        replace howc9 := howc9.below hbwc22
        replace howc11 := howc11.below hbwc22
        replace howc14 := howc14.below hbwc22
        replace hbw : Below w.heap.size w wc22 := hbw.trans (hbwc22.mono hbw.size)
        have hzwc22 : wm18.heap.size ≤ wc22.heap.size := hbwc22.size
        go_wp2_with fail
        refine (toI_any' (h2.below hbw) hn_2).mono ?_
        rintro e wc24 ⟨x25s0, x25n0, x25c0, rfl, howc24, hbwc24⟩
        replace howc24 : OwnI wc22.heap.size wc24.heap.size wc24 (.slice x25s0 x25n0 x25c0) g2 := howc24
        replace cf3 := cell_b cf3 hbwc24
        replace cf4 := cell_b cf4 hbwc24
        replace cf5 := cell_b cf5 hbwc24
        replace cf19 := cell_b cf19 hbwc24
        replace cf20 := cell_b cf20 hbwc24
        replace cf21 := cell_b cf21 hbwc24
        replace howc7 := howc7.below hbwc24
        replace howc9 := howc9.below hbwc24
        replace howc11 := howc11.below hbwc24
        replace howc14 := howc14.below hbwc24
        replace howc22 := howc22.below hbwc24
        replace hbw : Below w.heap.size w wc24 := hbw.trans (hbwc24.mono hbw.size)
        have hzwc24 : wc22.heap.size ≤ wc24.heap.size := hbwc24.size
        go_wp2_with fail
        refine (atLeast_i _ _ _ _ _ _ _ _ howc14.is howc22.is howc24.is).mono ?_
        rintro e wc26 ⟨rfl, hbwc26⟩
        replace cf3 := cell_b cf3 hbwc26
        replace cf4 := cell_b cf4 hbwc26
        replace cf5 := cell_b cf5 hbwc26
        replace cf19 := cell_b cf19 hbwc26
        replace cf20 := cell_b cf20 hbwc26
        replace cf21 := cell_b cf21 hbwc26
        replace howc7 := howc7.below hbwc26
        replace howc9 := howc9.below hbwc26
        replace howc11 := howc11.below hbwc26
        replace howc14 := howc14.below hbwc26
        replace howc22 := howc22.below hbwc26
        replace howc24 := howc24.below hbwc26
        replace hbw : Below w.heap.size w wc26 := hbw.trans (hbwc26.mono hbw.size)
        have hzwc26 : wc24.heap.size ≤ wc26.heap.size := hbwc26.size
        go_wp2_with fail
        go_region_held3 (fun w' => w'.cell? ⟨wc14.heap.size, 0, none⟩ = some (.slice x15s0 x15n0 x15c0) ∧ w'.cell? ⟨wc14.heap.size, 1, none⟩ = some (.slice x15s1 x15n1 x15c1) ∧ w'.cell? ⟨wc14.heap.size, 2, none⟩ = some (.slice x15s2 x15n2 x15c2) ∧ w'.cell? ⟨w.heap.size, 0, none⟩ = some (.slice a0s0 a0n0 a0c0) ∧ w'.cell? ⟨w.heap.size, 1, none⟩ = some (.slice a0s1 a0n1 a0c1) ∧ w'.cell? ⟨w.heap.size, 2, none⟩ = some (.slice a0s2 a0n2 a0c2)) (first | exact ⟨cf19, cf20, cf21, cf3, cf4, cf5⟩ | go_keep)
          (first
            | (go_at_call 17; (with_reducible refine (toP_any _ _ _ ((h0.below hbw)).drew (by omega)).mono ?_); rintro e wc27 ⟨x28s0, x28n0, x28c0, x28s1, x28n1, x28c1, x28s2, x28n2, x28c2, rfl, howc27, hbwc27⟩; replace howc27 : OwnP wc26.heap.size wc27.heap.size wc27 (.agg #[.slice x28s0 x28n0 x28c0, .slice x28s1 x28n1 x28c1, .slice x28s2 x28n2 x28c2]) g0 := howc27; replace hbwc27 : Below wc26.heap.size wc26 wc27 := (below_drew _).trans hbwc27; replace cf3 := cell_b cf3 hbwc27; replace cf4 := cell_b cf4 hbwc27; replace cf5 := cell_b cf5 hbwc27; replace cf19 := cell_b cf19 hbwc27; replace cf20 := cell_b cf20 hbwc27; replace cf21 := cell_b cf21 hbwc27; replace howc7 := howc7.below hbwc27; replace howc9 := howc9.below hbwc27; replace howc11 := howc11.below hbwc27; replace howc14 := howc14.below hbwc27; replace howc22 := howc22.below hbwc27; replace howc24 := howc24.below hbwc27; replace hbw : Below w.heap.size w wc27 := hbw.trans (hbwc27.mono hbw.size); have hzwc27 : wc26.heap.size ≤ wc27.heap.size := hbwc27.size)
            | (go_at_call 20; (with_reducible refine (eqP_any _ _ _ _ _ howc14.is howc27.is).mono ?_); rw [tf_true rfl]; rintro e wc29 ⟨rfl, hbwc29⟩; replace cf3 := cell_b cf3 hbwc29; replace cf4 := cell_b cf4 hbwc29; replace cf5 := cell_b cf5 hbwc29; replace cf19 := cell_b cf19 hbwc29; replace cf20 := cell_b cf20 hbwc29; replace cf21 := cell_b cf21 hbwc29; replace howc7 := howc7.below hbwc29; replace howc9 := howc9.below hbwc29; replace howc11 := howc11.below hbwc29; replace howc14 := howc14.below hbwc29; replace howc22 := howc22.below hbwc29; replace howc24 := howc24.below hbwc29; replace howc27 := howc27.below hbwc29; replace hbw : Below w.heap.size w wc29 := hbw.trans (hbwc29.mono hbw.size); have hzwc29 : wc27.heap.size ≤ wc29.heap.size := hbwc29.size))
        go_wp2_with fail
        refine (toI_any' (h1.below hbw) hn_1).mono ?_
        rintro e wc30 ⟨x31s0, x31n0, x31c0, rfl, howc30, hbwc30⟩
        replace howc30 : OwnI wc29.heap.size wc30.heap.size wc30 (.slice x31s0 x31n0 x31c0) g1 := howc30
        replace cf3 := cell_b cf3 hbwc30
        replace cf4 := cell_b cf4 hbwc30
        replace cf5 := cell_b cf5 hbwc30
        replace cf19 := cell_b cf19 hbwc30
        replace cf20 := cell_b cf20 hbwc30
        replace cf21 := cell_b cf21 hbwc30
        replace howc7 := howc7.below hbwc30
        replace howc9 := howc9.below hbwc30
        replace howc11 := howc11.below hbwc30
        replace howc14 := howc14.below hbwc30
        replace howc22 := howc22.below hbwc30
        replace howc24 := howc24.below hbwc30
        replace howc27 := howc27.below hbwc30
        replace hbw : Below w.heap.size w wc30 := hbw.trans (hbwc30.mono hbw.size)
        have hzwc30 : wc29.heap.size ≤ wc30.heap.size := hbwc30.size
        go_wp2_with fail
        refine (eqI_any' howc22.is howc30.is).mono ?_
        rw [tf_true rfl]
        rintro e wc32 ⟨rfl, hbwc32⟩
        replace cf3 := cell_b cf3 hbwc32
        replace cf4 := cell_b cf4 hbwc32
        replace cf5 := cell_b cf5 hbwc32
        replace cf19 := cell_b cf19 hbwc32
        replace cf20 := cell_b cf20 hbwc32
        replace cf21 := cell_b cf21 hbwc32
        replace howc7 := howc7.below hbwc32
        replace howc9 := howc9.below hbwc32
        replace howc11 := howc11.below hbwc32
        replace howc14 := howc14.below hbwc32
        replace howc22 := howc22.below hbwc32
        replace howc24 := howc24.below hbwc32
        replace howc27 := howc27.below hbwc32
        replace howc30 := howc30.below hbwc32
        replace hbw : Below w.heap.size w wc32 := hbw.trans (hbwc32.mono hbw.size)
        have hzwc32 : wc30.heap.size ≤ wc32.heap.size := hbwc32.size
        go_wp2_with fail
        refine (toI_any' (h2.below hbw) hn_2).mono ?_
        rintro e wc33 ⟨x34s0, x34n0, x34c0, rfl, howc33, hbwc33⟩
        replace howc33 : OwnI wc32.heap.size wc33.heap.size wc33 (.slice x34s0 x34n0 x34c0) g2 := howc33
        replace cf3 := cell_b cf3 hbwc33
        replace cf4 := cell_b cf4 hbwc33
        replace cf5 := cell_b cf5 hbwc33
        replace cf19 := cell_b cf19 hbwc33
        replace cf20 := cell_b cf20 hbwc33
        replace cf21 := cell_b cf21 hbwc33
        replace howc7 := howc7.below hbwc33
        replace howc9 := howc9.below hbwc33
        replace howc11 := howc11.below hbwc33
        replace howc14 := howc14.below hbwc33
        replace howc22 := howc22.below hbwc33
        replace howc24 := howc24.below hbwc33
        replace howc27 := howc27.below hbwc33
        replace howc30 := howc30.below hbwc33
        replace hbw : Below w.heap.size w wc33 := hbw.trans (hbwc33.mono hbw.size)
        have hzwc33 : wc32.heap.size ≤ wc33.heap.size := hbwc33.size
        go_wp2_with fail
        refine (eqI_any' howc24.is howc33.is).mono ?_
        rw [tf_true rfl]
        rintro e wc35 ⟨rfl, hbwc35⟩
        replace cf3 := cell_b cf3 hbwc35
        replace cf4 := cell_b cf4 hbwc35
        replace cf5 := cell_b cf5 hbwc35
        replace cf19 := cell_b cf19 hbwc35
        replace cf20 := cell_b cf20 hbwc35
        replace cf21 := cell_b cf21 hbwc35
        replace howc7 := howc7.below hbwc35
        replace howc9 := howc9.below hbwc35
        replace howc11 := howc11.below hbwc35
        replace howc14 := howc14.below hbwc35
        replace howc22 := howc22.below hbwc35
        replace howc24 := howc24.below hbwc35
        replace howc27 := howc27.below hbwc35
        replace howc30 := howc30.below hbwc35
        replace howc33 := howc33.below hbwc35
        replace hbw : Below w.heap.size w wc35 := hbw.trans (hbwc35.mono hbw.size)
        have hzwc35 : wc33.heap.size ≤ wc35.heap.size := hbwc35.size
        go_wp2_with fail
        go_ret
        exact ⟨rfl, hbw⟩
      · have hz_0 := lft_no (l := 1048576) (n := szP g0) (by omega)
        go_enter Try.func4, Try.ntmps4
        have hbw : Below w.heap.size w w := Below.refl _ _
        go_wp2_with fail
        generalize hqwm2 : w.alloc (.cells #[.slice a0s0 a0n0 a0c0, .slice a0s1 a0n1 a0c1, .slice a0s2 a0n2 a0c2] 27) = wm2
        have hywm2 : wm2.heap.size = w.heap.size + 1 := by rw [← hqwm2]; simp
        have hbwm2 : Below w.heap.size w wm2 := by rw [← hqwm2]; exact (by repeat' (first | (with_reducible exact Below.refl _ _) | (with_reducible apply Below.alloc) | (with_reducible apply Below.drew) | (with_reducible apply below_drawn) | omega | (simp only [World.size_alloc, World.size_setCell, World.size_drew]; omega)))
        have HQwm2_0 : Blk wm2 (w.heap.size) [.slice a0s0 a0n0 a0c0, .slice a0s1 a0n1 a0c1, .slice a0s2 a0n2 a0c2] 27 := by rw [← hqwm2]; have hnew := blk_new w [.slice a0s0 a0n0 a0c0, .slice a0s1 a0n1 a0c1, .slice a0s2 a0n2 a0c2] 27; (try simp only [World.size_alloc] at hnew); exact hnew
        have cf3 : wm2.cell? ⟨w.heap.size, 0, none⟩ = some (.slice a0s0 a0n0 a0c0) := HQwm2_0.cell 0 rfl
        have cf4 : wm2.cell? ⟨w.heap.size, 1, none⟩ = some (.slice a0s1 a0n1 a0c1) := HQwm2_0.cell 1 rfl
        have cf5 : wm2.cell? ⟨w.heap.size, 2, none⟩ = some (.slice a0s2 a0n2 a0c2) := HQwm2_0.cell 2 rfl
        clear HQwm2_0
        clear hqwm2
        replace hbw : Below w.heap.size w wm2 := hbw.trans (hbwm2.mono hbw.size)
        have hzwm2 : w.heap.size ≤ wm2.heap.size := hbwm2.size
        refine (szP_any _ _ _ _ (h0.below hbw) (by omega) (by omega)).mono ?_
        rw [hz_0]
        rintro e wc6 ⟨rfl, hbwc6⟩
        replace cf3 := cell_b cf3 hbwc6
        replace cf4 := cell_b cf4 hbwc6
        replace cf5 := cell_b cf5 hbwc6
        replace hbw : Below w.heap.size w wc6 := hbw.trans (hbwc6.mono hbw.size)
        have hzwc6 : wm2.heap.size ≤ wc6.heap.size := hbwc6.size
        go_wp2_with fail
        go_ret
        exact ⟨rfl, hbw⟩
    · go_enter Try.func4, Try.ntmps4
      have hbw : Below w.heap.size w w := Below.refl _ _
      go_wp2_with fail
      go_ret
      exact ⟨rfl, (by repeat' (first | (with_reducible exact Below.refl _ _) | (with_reducible assumption) | (with_reducible apply below_set) | (with_reducible apply Below.alloc) | (with_reducible apply Below.drew) | (with_reducible apply below_drawn) | (with_reducible refine Below.trans ?_ (Below.mono (by assumption) ?_)) | omega | (simp only [World.size_alloc, World.size_setCell, World.size_drew]; omega)))⟩
  · go_enter Try.func4, Try.ntmps4
    have hbw : Below w.heap.size w w := Below.refl _ _
    go_wp2_with fail
    go_ret
    exact ⟨rfl, (by repeat' (first | (with_reducible exact Below.refl _ _) | (with_reducible assumption) | (with_reducible apply below_set) | (with_reducible apply Below.alloc) | (with_reducible apply Below.drew) | (with_reducible apply below_drawn) | (with_reducible refine Below.trans ?_ (Below.mono (by assumption) ?_)) | omega | (simp only [World.size_alloc, World.size_setCell, World.size_drew]; omega)))⟩

open Go.ChangeShapes Go.WideShapes Go.ChangeAt
theorem rec : ∀ t ∈ Try.f4.params.toList, Try.prog.readableRec t = true ∧ t < Try.prog.types.size := by
  rw [Try.params4]
  intro t ht
  simp only [List.mem_cons, List.not_mem_nil, or_false] at ht
  rcases ht with rfl | rfl | rfl | rfl
  all_goals exact ⟨by kernel_rfl, of_decide_eq_true (by kernel_rfl)⟩
set_option maxRecDepth 100000 in
theorem lifted (os : Os) (started : os.Started) (H : Type) (enc : TypeId × Value → H) :
    ReturnsInHanded {} Try.checked os 4 .any (Rows.fnExactAtLeastInSpec.pre6 enc Try.prog Try.f4 Rows.fnExactAtLeastInRow.domain false) (Rows.fnExactAtLeastInSpec.post enc Try.prog Try.f4 false true false false) := by
  refine returnsInHanded_of_change (C := Try.checked) own started (by kernel_rfl) Try.func4
    (ChangeSpec.witness6 (enc := enc) (C := Try.checked) false ⟨#[], #[.agg #[.slice none 0 0, .slice none 0 0, .slice none 0 0], .slice none 0 0, .slice none 0 0, .int .i64 0], []⟩ 8 (by kernel_rfl) (by kernel_rfl) (by kernel_rfl) (by kernel_rfl)) ?_
  intro W base args ds gs before hval0 hW hcnd _
  have hval : ∀ (j : Nat) t v, Try.f4.params[j]? = some t → args[j]? = some v → Value.okWide Try.prog W .any base t v := hval0
  have hW' := hW
  obtain ⟨p, q, hA0, hV, rfl, hfz, hnd⟩ := hW
  have hA : DataW.TrodAll enc Try.prog W 0 (fun _ => true) true Try.f4.params.toList args.toList ds p := hA0
  rw [Try.params4] at hA hval
  obtain ⟨v0, vs0, d0, ds0, p0, q0, hargs, rfl, rfl, t0, r0⟩ := trodAll_cons hA
  obtain ⟨v1, vs1, d1, ds1, p1, q1, rfl, rfl, rfl, t1, r1⟩ := trodAll_cons r0
  obtain ⟨v2, vs2, d2, ds2, p2, q2, rfl, rfl, rfl, t2, r2⟩ := trodAll_cons r1
  obtain ⟨v3, vs3, d3, ds3, p3, q3, rfl, rfl, rfl, t3, r3⟩ := trodAll_cons r2
  obtain ⟨rfl, rfl, rfl⟩ := trodAll_nil r3
  obtain rfl : args = #[v0, v1, v2, v3] := by cases args; simp_all
  obtain ⟨rfl, rfl⟩ := trodVars_none hV
  obtain ⟨g0, h0, wf0⟩ := openP (hval 0 _ v0 rfl rfl) t0
  obtain ⟨g1, h1, wf1⟩ := openI1 (hval 1 _ v1 rfl rfl) t1
  obtain ⟨g2, h2, wf2⟩ := openI1 (hval 2 _ v2 rfl rfl) t2
  obtain ⟨g3, rfl, -, -, wf3⟩ := open_int Try.underlying2 (hval 3 _ v3 rfl rfl) t3
  clear hA0 hval0
  refine (walk v0 g0 v1 g1 v2 g2 g3 W h0 h1 h2 wf0 wf1 wf2 wf3).mono fun e W' ⟨he, hb⟩ => ?_
  subst he
  exact ⟨_, rfl, law_post laid rec (by kernel_rfl) rfl rfl hW' hb⟩
theorem over : Rows.fnExactAtLeastInRow.holds Try.pinned (OpenSpec.ofChange Rows.fnExactAtLeastInSpec) :=
  OpenClaim.holds_of_wide 4 Try.f4 rfl rfl rfl rfl rfl rfl rfl ⟨rfl, rfl, rfl, rfl, rfl⟩ rfl rfl rfl rfl rfl (by kernel_rfl) Try.func4 (by kernel_rfl)
    (of_decide_eq_true (by kernel_rfl)) (by unfold Func.isWrapper; first | (rw [if_pos (by decide +kernel)]; kernel_rfl) | (rw [if_neg (by decide +kernel)]; exact ⟨rfl, rfl⟩))
    (fun os started H enc _ => lifted os started H enc)
theorem proved : Rows.FnExactAtLeastInSaid := over
#print axioms proved
end Go.Proofs.Ytfkiloibifigfaa.fnExactAtLeastIn
