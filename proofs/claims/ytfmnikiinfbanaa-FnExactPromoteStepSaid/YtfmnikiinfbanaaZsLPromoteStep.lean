/-
  For every input the law FnExactPromoteStep returns true and leaves its arguments as they were: the program's PromoteStep returns what the reference's returns. No condition.
-/
import Derived.Test.YtfmnikiinfbanaaZsLaw
import Derived.Test.YtfmnikiinfbanaaZsL7
import Derived.Test.YtfmnikiinfbanaaZsCb
import Derived.Test.YtfmnikiinfbanaaZsStgA
namespace Go.Proofs.Ytfmnikiinfbanaa.fnExactPromoteStep
set_option linter.unusedVariables false
set_option linter.unusedSimpArgs false
open Go.RowKit
attribute [local go_sem ↓] Go.wp_at_zero Go.wp_at_succ
set_option maxRecDepth 100000 in
set_option maxHeartbeats 4000000 in
theorem walk (u0 : Value) (g0 : Pa) (u1 : Value) (g1 : St) (w : World) (h0 : IsP w u0 g0) (h1 : IsS w u1 g1) (wf0 : WfP g0) (wf1 : WfS g1) : Calls Try.prog 9 #[u0, u1] w (Bb w true) := by
  obtain ⟨a0s0, a0n0, a0c0, a0s1, a0n1, a0c1, a0s2, a0n2, a0c2, rfl⟩ := h0.form
  obtain ⟨a1s0, a1n0, a1c0, a1s1, a1n1, a1c1, a1v2, rfl⟩ := h1.form
  by_cases hn_0 : ((szP g0 : Nat) : Int) ≤ 1048576
  · have hz_0 := lft_ok hn_0
    replace hn_0 : szP g0 ≤ 1048576 - (0) := by omega
    have hp_0 : (0 : Int) ≤ 1048576 - ((szP g0 : Nat) : Int) := by omega
    by_cases hn_1 : ((szS g1 : Nat) : Int) ≤ 1048576 - ((szP g0 : Nat) : Int)
    · have hz_1 := lft_ok hn_1
      replace hn_1 : szS g1 ≤ 1048576 - (0 + szP g0) := by omega
      have hp_1 : (0 : Int) ≤ 1048576 - ((szP g0 : Nat) : Int) - ((szS g1 : Nat) : Int) := by omega
      go_enter Try.func9, Try.ntmps9
      have hbw : Below w.heap.size w w := Below.refl _ _
      go_wp2_with fail
      generalize hqwm3 : (w.alloc (.cells #[.slice a0s0 a0n0 a0c0, .slice a0s1 a0n1 a0c1, .slice a0s2 a0n2 a0c2] 27)).alloc (.cells #[.slice a1s0 a1n0 a1c0, .slice a1s1 a1n1 a1c1, .int .i64 a1v2] 40) = wm3
      have hywm3 : wm3.heap.size = w.heap.size + 2 := by rw [← hqwm3];simp
      have hbwm3 : Below w.heap.size w wm3 := by rw [← hqwm3];exact (by repeat' (first | (with_reducible exact Below.refl _ _)|(with_reducible apply Below.alloc)|(with_reducible apply Below.drew)|(with_reducible apply below_drawn) | omega | (simp only [World.size_alloc, World.size_setCell, World.size_drew];omega)))
      have HQwm3_0 : Blk wm3 (w.heap.size) [.slice a0s0 a0n0 a0c0, .slice a0s1 a0n1 a0c1, .slice a0s2 a0n2 a0c2] 27 := by rw [← hqwm3];have hnew := blk_new w [.slice a0s0 a0n0 a0c0, .slice a0s1 a0n1 a0c1, .slice a0s2 a0n2 a0c2] 27;(try simp only [World.size_alloc] at hnew);exact (Blk.alloc hnew _)
      have cf4 : wm3.cell? ⟨w.heap.size, 0, none⟩ = some (.slice a0s0 a0n0 a0c0) := HQwm3_0.cell 0 rfl
      have cf5 : wm3.cell? ⟨w.heap.size, 1, none⟩ = some (.slice a0s1 a0n1 a0c1) := HQwm3_0.cell 1 rfl
      have cf6 : wm3.cell? ⟨w.heap.size, 2, none⟩ = some (.slice a0s2 a0n2 a0c2) := HQwm3_0.cell 2 rfl
      clear HQwm3_0
      have HQwm3_1 : Blk wm3 (w.heap.size + 1) [.slice a1s0 a1n0 a1c0, .slice a1s1 a1n1 a1c1, .int .i64 a1v2] 40 := by rw [← hqwm3];have hnew := blk_new (w.alloc (.cells #[.slice a0s0 a0n0 a0c0, .slice a0s1 a0n1 a0c1, .slice a0s2 a0n2 a0c2] 27)) [.slice a1s0 a1n0 a1c0, .slice a1s1 a1n1 a1c1, .int .i64 a1v2] 40;(try simp only [World.size_alloc] at hnew);exact hnew
      have cf7 : wm3.cell? ⟨w.heap.size + 1, 0, none⟩ = some (.slice a1s0 a1n0 a1c0) := HQwm3_1.cell 0 rfl
      have cf8 : wm3.cell? ⟨w.heap.size + 1, 1, none⟩ = some (.slice a1s1 a1n1 a1c1) := HQwm3_1.cell 1 rfl
      have cf9 : wm3.cell? ⟨w.heap.size + 1, 2, none⟩ = some (.int .i64 a1v2) := HQwm3_1.cell 2 rfl
      clear HQwm3_1
      clear hqwm3
      replace hbw : Below w.heap.size w wm3 := hbw.trans (hbwm3.mono hbw.size)
      have hzwm3 : w.heap.size ≤ wm3.heap.size := hbwm3.size
      refine (szP_any _ _ _ _ (h0.below hbw) (by omega) (by omega)).mono ?_
      rw [hz_0]
      rintro e wc10 ⟨rfl, hbwc10⟩
      replace cf4 := cell_b cf4 hbwc10
      replace cf5 := cell_b cf5 hbwc10
      replace cf6 := cell_b cf6 hbwc10
      replace cf7 := cell_b cf7 hbwc10
      replace cf8 := cell_b cf8 hbwc10
      replace cf9 := cell_b cf9 hbwc10
      replace hbw : Below w.heap.size w wc10 := hbw.trans (hbwc10.mono hbw.size)
      have hzwc10 : wm3.heap.size ≤ wc10.heap.size := hbwc10.size
      go_wp2_with fail
      refine (szS_any _ _ _ _ (h1.below hbw) (by omega) (by omega)).mono ?_
      rw [hz_1]
      rintro e wc11 ⟨rfl, hbwc11⟩
      replace cf4 := cell_b cf4 hbwc11
      replace cf5 := cell_b cf5 hbwc11
      replace cf6 := cell_b cf6 hbwc11
      replace cf7 := cell_b cf7 hbwc11
      replace cf8 := cell_b cf8 hbwc11
      replace cf9 := cell_b cf9 hbwc11
      replace hbw : Below w.heap.size w wc11 := hbw.trans (hbwc11.mono hbw.size)
      have hzwc11 : wc10.heap.size ≤ wc11.heap.size := hbwc11.size
      go_wp2_with fail
      apply cutP
      · intro hp
        go_region_held3 (fun w' => w'.cell? ⟨w.heap.size, 0, none⟩ = some (.slice a0s0 a0n0 a0c0) ∧ w'.cell? ⟨w.heap.size, 1, none⟩ = some (.slice a0s1 a0n1 a0c1) ∧ w'.cell? ⟨w.heap.size, 2, none⟩ = some (.slice a0s2 a0n2 a0c2) ∧ w'.cell? ⟨w.heap.size + 1, 0, none⟩ = some (.slice a1s0 a1n0 a1c0) ∧ w'.cell? ⟨w.heap.size + 1, 1, none⟩ = some (.slice a1s1 a1n1 a1c1) ∧ w'.cell? ⟨w.heap.size + 1, 2, none⟩ = some (.int .i64 a1v2)) (first | exact ⟨cf4, cf5, cf6, cf7, cf8, cf9⟩ | exact ⟨cell_l cf4 (below_s3 (N := wc11.heap.size) (by omega)) (by omega), cell_l cf5 (below_s3 (N := wc11.heap.size) (by omega)) (by omega), cell_l cf6 (below_s3 (N := wc11.heap.size) (by omega)) (by omega), cell_l cf7 (below_s3 (N := wc11.heap.size) (by omega)) (by omega), cell_l cf8 (below_s3 (N := wc11.heap.size) (by omega)) (by omega), cell_l cf9 (below_s3 (N := wc11.heap.size) (by omega)) (by omega)⟩ | go_keep)
          (first
            | (go_at_call 14;(refine (toP_any _ _ _ (h0.below (by repeat' (first | (with_reducible exact Below.refl _ _)|(with_reducible assumption)|(with_reducible apply below_set)|(with_reducible apply Below.alloc)|(with_reducible apply Below.drew)|(with_reducible apply below_drawn)|(with_reducible refine Below.trans ?_ (Below.mono (by assumption) ?_)) | omega | (simp only [World.size_alloc, World.size_setCell, World.size_drew];omega)))) (by omega)).mono ?_);rintro e wc12 ⟨x13s0, x13n0, x13c0, x13s1, x13n1, x13c1, x13s2, x13n2, x13c2, rfl, howc12, hbwc12⟩;(first | (have HB6 : Blk wc12 wc11.heap.size [.slice none 0 0, .slice none 0 0, .int .i64 0] 43 := (blk_new wc11.drew [.slice none 0 0, .slice none 0 0, .int .i64 0] 43).below hbwc12;have hlHB6 := HB6.lt) | skip);have hBwc12 : Below wc11.heap.size wc11 wc12 := (by first | exact hbwc12 | exact below_d hbwc12 | exact below_z hbwc12 | exact below_d (below_z hbwc12) | exact below_z (below_d hbwc12));replace howc12 : OwnP _ wc12.heap.size wc12 (.agg #[.slice x13s0 x13n0 x13c0, .slice x13s1 x13n1 x13c1, .slice x13s2 x13n2 x13c2]) g0 := howc12;replace cf4 := cell_b cf4 hBwc12;replace cf5 := cell_b cf5 hBwc12;replace cf6 := cell_b cf6 hBwc12;replace cf7 := cell_b cf7 hBwc12;replace cf8 := cell_b cf8 hBwc12;replace cf9 := cell_b cf9 hBwc12;replace hbw : Below w.heap.size w wc12 := hbw.trans (hBwc12.mono hbw.size);have hzwc12 : wc11.heap.size ≤ wc12.heap.size := hBwc12.size)
            | (go_at_call 25;(refine (toS_any _ _ _ (h1.below (by repeat' (first | (with_reducible exact Below.refl _ _)|(with_reducible assumption)|(with_reducible apply below_set)|(with_reducible apply Below.alloc)|(with_reducible apply Below.drew)|(with_reducible apply below_drawn)|(with_reducible refine Below.trans ?_ (Below.mono (by assumption) ?_)) | omega | (simp only [World.size_alloc, World.size_setCell, World.size_drew];omega)))) (by omega)).mono ?_);rintro e wc14 ⟨x15s0, x15n0, x15c0, x15s1, x15n1, x15c1, x15v2, rfl, howc14, hbwc14⟩;(first | (replace HB6 := HB6.below hbwc14)|(have HB6 : Blk wc14 wc12.heap.size [.slice none 0 0, .slice none 0 0, .int .i64 0] 43 := (blk_new wc12 [.slice none 0 0, .slice none 0 0, .int .i64 0] 43).below hbwc14;have hlHB6 := HB6.lt) | skip);have hBwc14 : Below wc12.heap.size wc12 wc14 := (by first | exact hbwc14 | exact below_d hbwc14 | exact below_z hbwc14 | exact below_d (below_z hbwc14) | exact below_z (below_d hbwc14));replace howc14 : OwnS _ wc14.heap.size wc14 (.agg #[.slice x15s0 x15n0 x15c0, .slice x15s1 x15n1 x15c1, .int .i64 x15v2]) g1 := howc14;replace cf4 := cell_b cf4 hBwc14;replace cf5 := cell_b cf5 hBwc14;replace cf6 := cell_b cf6 hBwc14;replace cf7 := cell_b cf7 hBwc14;replace cf8 := cell_b cf8 hBwc14;replace cf9 := cell_b cf9 hBwc14;replace howc12 := howc12.below hBwc14;replace hbw : Below w.heap.size w wc14 := hbw.trans (hBwc14.mono hbw.size);have hzwc14 : wc12.heap.size ≤ wc14.heap.size := hBwc14.size)
            | (go_at_call 38;(refine (promoteStep_s _ _ _ _ _ (howc12.is.below (by repeat' (first | (with_reducible exact Below.refl _ _)|(with_reducible assumption)|(with_reducible apply below_set)|(with_reducible apply Below.alloc)|(with_reducible apply Below.drew)|(with_reducible apply below_drawn)|(with_reducible refine Below.trans ?_ (Below.mono (by assumption) ?_)) | omega | (simp only [World.size_alloc, World.size_setCell, World.size_drew];omega)))) (howc14.is.below (by repeat' (first | (with_reducible exact Below.refl _ _)|(with_reducible assumption)|(with_reducible apply below_set)|(with_reducible apply Below.alloc)|(with_reducible apply Below.drew)|(with_reducible apply below_drawn)|(with_reducible refine Below.trans ?_ (Below.mono (by assumption) ?_)) | omega | (simp only [World.size_alloc, World.size_setCell, World.size_drew];omega))))).mono ?_);rintro e wc16 ⟨y17s0, y17n0, y17c0, y17s1, y17n1, y17c1, y17v2, rfl, howc16, hbwc16⟩;(first | (replace HB6 := HB6.below hbwc16)|(have HB6 : Blk wc16 wc14.heap.size [.slice none 0 0, .slice none 0 0, .int .i64 0] 43 := (blk_new wc14 [.slice none 0 0, .slice none 0 0, .int .i64 0] 43).below hbwc16) | skip);(first | (have rz0 := HB6.cell 0 rfl;have rz1 := HB6.cell 1 rfl;have rz2 := HB6.cell 2 rfl;have yz0 := HB6.free 0;have yz1 := HB6.free 1;have yz2 := HB6.free 2) | skip);have hBwc16 : Below wc14.heap.size wc14 wc16 := (by first | exact hbwc16 | exact below_d hbwc16 | exact below_z hbwc16 | exact below_d (below_z hbwc16) | exact below_z (below_d hbwc16));replace howc16 : OwnS _ wc16.heap.size wc16 (.agg #[.slice y17s0 y17n0 y17c0, .slice y17s1 y17n1 y17c1, .int .i64 y17v2]) (stpS g0 g1) := howc16;replace cf4 := cell_b cf4 hBwc16;replace cf5 := cell_b cf5 hBwc16;replace cf6 := cell_b cf6 hBwc16;replace cf7 := cell_b cf7 hBwc16;replace cf8 := cell_b cf8 hBwc16;replace cf9 := cell_b cf9 hBwc16;replace howc12 := howc12.below hBwc16;replace howc14 := howc14.below hBwc16;replace hbw : Below w.heap.size w wc16 := hbw.trans (hBwc16.mono hbw.size);have hzwc16 : wc14.heap.size ≤ wc16.heap.size := hBwc16.size))
        all_goals (rename_i hSx;clear hSx)
        all_goals first
          | (obtain ⟨N6, hN6⟩ : ∃ N, N = wc11.heap.size := ⟨_, rfl⟩;have HA : After N6 wc16 (((wc16.setCell ⟨wc14.heap.size, 0, none⟩ (.slice y17s0 y17n0 y17c0)).setCell ⟨wc14.heap.size, 1, none⟩ (.slice y17s1 y17n1 y17c1)).setCell ⟨wc14.heap.size, 2, none⟩ (.int .i64 y17v2)) (wc14.heap.size) [.slice y17s0 y17n0 y17c0, .slice y17s1 y17n1 y17c1, .int .i64 y17v2] 43 := after_set HB6 (by omega) _ _ _;generalize ((wc16.setCell ⟨wc14.heap.size, 0, none⟩ (.slice y17s0 y17n0 y17c0)).setCell ⟨wc14.heap.size, 1, none⟩ (.slice y17s1 y17n1 y17c1)).setCell ⟨wc14.heap.size, 2, none⟩ (.int .i64 y17v2) = wm21 at HA ⊢;have h16 := howc16.kept (HA.kept _ _ (by first | omega | (simp only [World.size_alloc];omega)));generalize wc14.heap.size = B6 at HA ⊢;subst hN6)
          | (obtain ⟨N6, hN6⟩ : ∃ N, N = wc11.heap.size := ⟨_, rfl⟩;have HA : After N6 wc16 (((wc16.setCell ⟨wc12.heap.size, 0, none⟩ (.slice y17s0 y17n0 y17c0)).setCell ⟨wc12.heap.size, 1, none⟩ (.slice y17s1 y17n1 y17c1)).setCell ⟨wc12.heap.size, 2, none⟩ (.int .i64 y17v2)) (wc12.heap.size) [.slice y17s0 y17n0 y17c0, .slice y17s1 y17n1 y17c1, .int .i64 y17v2] 43 := after_set HB6 (by omega) _ _ _;generalize ((wc16.setCell ⟨wc12.heap.size, 0, none⟩ (.slice y17s0 y17n0 y17c0)).setCell ⟨wc12.heap.size, 1, none⟩ (.slice y17s1 y17n1 y17c1)).setCell ⟨wc12.heap.size, 2, none⟩ (.int .i64 y17v2) = wm21 at HA ⊢;have h16 := howc16.kept (HA.kept _ _ (by first | omega | (simp only [World.size_alloc];omega)));generalize wc12.heap.size = B6 at HA ⊢;subst hN6)
          | (obtain ⟨N6, hN6⟩ : ∃ N, N = wc11.heap.size := ⟨_, rfl⟩;have HA : After N6 wc16 (((wc16.setCell ⟨wc11.heap.size, 0, none⟩ (.slice y17s0 y17n0 y17c0)).setCell ⟨wc11.heap.size, 1, none⟩ (.slice y17s1 y17n1 y17c1)).setCell ⟨wc11.heap.size, 2, none⟩ (.int .i64 y17v2)) (wc11.heap.size) [.slice y17s0 y17n0 y17c0, .slice y17s1 y17n1 y17c1, .int .i64 y17v2] 43 := after_set HB6 (by omega) _ _ _;generalize ((wc16.setCell ⟨wc11.heap.size, 0, none⟩ (.slice y17s0 y17n0 y17c0)).setCell ⟨wc11.heap.size, 1, none⟩ (.slice y17s1 y17n1 y17c1)).setCell ⟨wc11.heap.size, 2, none⟩ (.int .i64 y17v2) = wm21 at HA ⊢;have h16 := howc16.kept (HA.kept _ _ (by first | omega | (simp only [World.size_alloc];omega)));generalize wc11.heap.size = B6 at HA ⊢;subst hN6)
          | (obtain ⟨N6, hN6⟩ : ∃ N, N = wc11.heap.size := ⟨_, rfl⟩;have HA : After N6 wc16 (wc16.alloc (.cells #[.slice y17s0 y17n0 y17c0, .slice y17s1 y17n1 y17c1, .int .i64 y17v2] 43)) (wc16.heap.size) [.slice y17s0 y17n0 y17c0, .slice y17s1 y17n1 y17c1, .int .i64 y17v2] 43 := after_new (by omega);generalize wc16.alloc (.cells #[.slice y17s0 y17n0 y17c0, .slice y17s1 y17n1 y17c1, .int .i64 y17v2] 43) = wm21 at HA ⊢;have h16 := howc16.kept (HA.kept _ _ (by first | omega | (simp only [World.size_alloc];omega)));generalize wc16.heap.size = B6 at HA ⊢;subst hN6)
        all_goals have F : Blk wm21 B6 [.slice y17s0 y17n0 y17c0, .slice y17s1 y17n1 y17c1, .int .i64 y17v2] 43 ∧ Below wc11.heap.size wc11 wm21 ∧ (∃ lo hi, hi ≤ wm21.heap.size ∧ OwnS lo hi wm21 (.agg #[.slice y17s0 y17n0 y17c0, .slice y17s1 y17n1 y17c1, .int .i64 y17v2]) (stpS g0 g1)) ∧ wc11.heap.size ≤ B6 ∧ B6 < wm21.heap.size := ⟨HA.blk, hBwc12.trans ((hBwc14.mono hBwc12.size).trans ((hBwc16.mono (Nat.le_trans hBwc12.size hBwc14.size)).trans HA.bel)), ⟨_, _, HA.size, h16⟩, HA.le, HA.blk.lt⟩
        all_goals clear HA h16 howc12 howc14 howc16
        all_goals revert x13s0 x13n0 x13c0 x13s1 x13n1 x13c1 x13s2 x13n2 x13c2 x15s0 x15n0 x15c0 x15s1 x15n1 x15c1 x15v2 y17s0 y17n0 y17c0 y17s1 y17n1 y17c1 y17v2 wm21 B6 F
        all_goals exact hp.out
      intro x13s0 x13n0 x13c0 x13s1 x13n1 x13c1 x13s2 x13n2 x13c2 x15s0 x15n0 x15c0 x15s1 x15n1 x15c1 x15v2 y17s0 y17n0 y17c0 y17s1 y17n1 y17c1 y17v2 wm21 B6 F
      obtain ⟨HW, hbwm21, ⟨lo6, hi6, hhi6, howc16⟩, hBB6, hlB6⟩ := F
      have howc12 := howc16
      have howc14 := howc16
      have cf22 : wm21.cell? ⟨B6, 0, none⟩ = some (.slice y17s0 y17n0 y17c0) := HW.cell 0 rfl
      have cf23 : wm21.cell? ⟨B6, 1, none⟩ = some (.slice y17s1 y17n1 y17c1) := HW.cell 1 rfl
      have cf24 : wm21.cell? ⟨B6, 2, none⟩ = some (.int .i64 y17v2) := HW.cell 2 rfl
      replace cf4 := cell_b cf4 hbwm21
      replace cf5 := cell_b cf5 hbwm21
      replace cf6 := cell_b cf6 hbwm21
      replace cf7 := cell_b cf7 hbwm21
      replace cf8 := cell_b cf8 hbwm21
      replace cf9 := cell_b cf9 hbwm21
      replace hbw := hbw.trans (hbwm21.mono hbw.size)
      have hzwm21 : wc11.heap.size ≤ wm21.heap.size := hbwm21.size
      clear HW
      go_wp2_with fail
      refine (toP_any _ _ _ (h0.below hbw) (by omega)).mono ?_
      rintro e wc25 ⟨x26s0, x26n0, x26c0, x26s1, x26n1, x26c1, x26s2, x26n2, x26c2, rfl, howc25, hbwc25⟩
      replace howc25 : OwnP wm21.heap.size wc25.heap.size wc25 (.agg #[.slice x26s0 x26n0 x26c0, .slice x26s1 x26n1 x26c1, .slice x26s2 x26n2 x26c2]) g0 := howc25
      replace cf4 := cell_b cf4 hbwc25
      replace cf5 := cell_b cf5 hbwc25
      replace cf6 := cell_b cf6 hbwc25
      replace cf7 := cell_b cf7 hbwc25
      replace cf8 := cell_b cf8 hbwc25
      replace cf9 := cell_b cf9 hbwc25
      replace cf22 := cell_b cf22 hbwc25
      replace cf23 := cell_b cf23 hbwc25
      replace cf24 := cell_b cf24 hbwc25
      replace howc12 := howc12.below hbwc25
      replace howc14 := howc14.below hbwc25
      replace howc16 := howc16.below hbwc25
      replace hbw : Below w.heap.size w wc25 := hbw.trans (hbwc25.mono hbw.size)
      have hzwc25 : wm21.heap.size ≤ wc25.heap.size := hbwc25.size
      have hl28 : w.heap.size < wc25.heap.size := by omega
      have hl29 : w.heap.size + 1 < wc25.heap.size := by omega
      have hl30 : B6 < wc25.heap.size := by omega
      go_wp2_with fail
      generalize hqwm31 : wc25.alloc (.cells #[.slice x26s0 x26n0 x26c0, .slice x26s1 x26n1 x26c1, .slice x26s2 x26n2 x26c2] 32) = wm31
      have hywm31 : wm31.heap.size = wc25.heap.size + 1 := by rw [← hqwm31];simp
      have hbwm31 : Below wc25.heap.size wc25 wm31 := by rw [← hqwm31];exact (by repeat' (first | (with_reducible exact Below.refl _ _)|(with_reducible apply Below.alloc)|(with_reducible apply Below.drew)|(with_reducible apply below_drawn) | omega | (simp only [World.size_alloc, World.size_setCell, World.size_drew];omega)))
      have HQwm31_0 : Blk wm31 (wc25.heap.size) [.slice x26s0 x26n0 x26c0, .slice x26s1 x26n1 x26c1, .slice x26s2 x26n2 x26c2] 32 := by rw [← hqwm31];have hnew := blk_new wc25 [.slice x26s0 x26n0 x26c0, .slice x26s1 x26n1 x26c1, .slice x26s2 x26n2 x26c2] 32;(try simp only [World.size_alloc] at hnew);exact hnew
      have cf32 : wm31.cell? ⟨wc25.heap.size, 0, none⟩ = some (.slice x26s0 x26n0 x26c0) := HQwm31_0.cell 0 rfl
      have cf33 : wm31.cell? ⟨wc25.heap.size, 1, none⟩ = some (.slice x26s1 x26n1 x26c1) := HQwm31_0.cell 1 rfl
      have cf34 : wm31.cell? ⟨wc25.heap.size, 2, none⟩ = some (.slice x26s2 x26n2 x26c2) := HQwm31_0.cell 2 rfl
      clear HQwm31_0
      clear hqwm31
      replace cf4 := cell_b cf4 hbwm31
      replace cf5 := cell_b cf5 hbwm31
      replace cf6 := cell_b cf6 hbwm31
      replace cf7 := cell_b cf7 hbwm31
      replace cf8 := cell_b cf8 hbwm31
      replace cf9 := cell_b cf9 hbwm31
      replace cf22 := cell_b cf22 hbwm31
      replace cf23 := cell_b cf23 hbwm31
      replace cf24 := cell_b cf24 hbwm31
      replace howc12 := howc12.below hbwm31
      replace howc14 := howc14.below hbwm31
      replace howc16 := howc16.below hbwm31
      replace howc25 := howc25.below hbwm31
      replace hbw : Below w.heap.size w wm31 := hbw.trans (hbwm31.mono hbw.size)
      have hzwm31 : wc25.heap.size ≤ wm31.heap.size := hbwm31.size
      refine (toS_any _ _ _ (h1.below hbw) (by omega)).mono ?_
      rintro e wc35 ⟨x36s0, x36n0, x36c0, x36s1, x36n1, x36c1, x36v2, rfl, howc35, hbwc35⟩
      replace howc35 : OwnS wm31.heap.size wc35.heap.size wc35 (.agg #[.slice x36s0 x36n0 x36c0, .slice x36s1 x36n1 x36c1, .int .i64 x36v2]) g1 := howc35
      replace cf4 := cell_b cf4 hbwc35
      replace cf5 := cell_b cf5 hbwc35
      replace cf6 := cell_b cf6 hbwc35
      replace cf7 := cell_b cf7 hbwc35
      replace cf8 := cell_b cf8 hbwc35
      replace cf9 := cell_b cf9 hbwc35
      replace cf22 := cell_b cf22 hbwc35
      replace cf23 := cell_b cf23 hbwc35
      replace cf24 := cell_b cf24 hbwc35
      replace cf32 := cell_b cf32 hbwc35
      replace cf33 := cell_b cf33 hbwc35
      replace cf34 := cell_b cf34 hbwc35
      replace howc12 := howc12.below hbwc35
      replace howc14 := howc14.below hbwc35
      replace howc16 := howc16.below hbwc35
      replace howc25 := howc25.below hbwc35
      replace hbw : Below w.heap.size w wc35 := hbw.trans (hbwc35.mono hbw.size)
      have hzwc35 : wm31.heap.size ≤ wc35.heap.size := hbwc35.size
      have hl38 : w.heap.size < wc35.heap.size := by omega
      have hl39 : w.heap.size + 1 < wc35.heap.size := by omega
      have hl40 : B6 < wc35.heap.size := by omega
      have hl41 : wc25.heap.size < wc35.heap.size := by omega
      go_wp2_with fail
      generalize hqwm42 : wc35.alloc (.cells #[.slice x36s0 x36n0 x36c0, .slice x36s1 x36n1 x36c1, .int .i64 x36v2] 43) = wm42
      have hywm42 : wm42.heap.size = wc35.heap.size + 1 := by rw [← hqwm42];simp
      have hbwm42 : Below wc35.heap.size wc35 wm42 := by rw [← hqwm42];exact (by repeat' (first | (with_reducible exact Below.refl _ _)|(with_reducible apply Below.alloc)|(with_reducible apply Below.drew)|(with_reducible apply below_drawn) | omega | (simp only [World.size_alloc, World.size_setCell, World.size_drew];omega)))
      have HQwm42_0 : Blk wm42 (wc35.heap.size) [.slice x36s0 x36n0 x36c0, .slice x36s1 x36n1 x36c1, .int .i64 x36v2] 43 := by rw [← hqwm42];have hnew := blk_new wc35 [.slice x36s0 x36n0 x36c0, .slice x36s1 x36n1 x36c1, .int .i64 x36v2] 43;(try simp only [World.size_alloc] at hnew);exact hnew
      have cf43 : wm42.cell? ⟨wc35.heap.size, 0, none⟩ = some (.slice x36s0 x36n0 x36c0) := HQwm42_0.cell 0 rfl
      have cf44 : wm42.cell? ⟨wc35.heap.size, 1, none⟩ = some (.slice x36s1 x36n1 x36c1) := HQwm42_0.cell 1 rfl
      have cf45 : wm42.cell? ⟨wc35.heap.size, 2, none⟩ = some (.int .i64 x36v2) := HQwm42_0.cell 2 rfl
      clear HQwm42_0
      clear hqwm42
      replace cf4 := cell_b cf4 hbwm42
      replace cf5 := cell_b cf5 hbwm42
      replace cf6 := cell_b cf6 hbwm42
      replace cf7 := cell_b cf7 hbwm42
      replace cf8 := cell_b cf8 hbwm42
      replace cf9 := cell_b cf9 hbwm42
      replace cf22 := cell_b cf22 hbwm42
      replace cf23 := cell_b cf23 hbwm42
      replace cf24 := cell_b cf24 hbwm42
      replace cf32 := cell_b cf32 hbwm42
      replace cf33 := cell_b cf33 hbwm42
      replace cf34 := cell_b cf34 hbwm42
      replace howc12 := howc12.below hbwm42
      replace howc14 := howc14.below hbwm42
      replace howc16 := howc16.below hbwm42
      replace howc25 := howc25.below hbwm42
      replace howc35 := howc35.below hbwm42
      replace hbw : Below w.heap.size w wm42 := hbw.trans (hbwm42.mono hbw.size)
      have hzwm42 : wc35.heap.size ≤ wm42.heap.size := hbwm42.size
      refine (promoteStep_i _ _ _ _ _ howc25.is howc35.is).mono ?_
      rintro e wc46 ⟨y47s0, y47n0, y47c0, y47s1, y47n1, y47c1, y47v2, rfl, howc46, hbwc46⟩
      replace howc46 : OwnS wm42.heap.size wc46.heap.size wc46 (.agg #[.slice y47s0 y47n0 y47c0, .slice y47s1 y47n1 y47c1, .int .i64 y47v2]) (stpS g0 g1) := howc46
      replace cf4 := cell_b cf4 hbwc46
      replace cf5 := cell_b cf5 hbwc46
      replace cf6 := cell_b cf6 hbwc46
      replace cf7 := cell_b cf7 hbwc46
      replace cf8 := cell_b cf8 hbwc46
      replace cf9 := cell_b cf9 hbwc46
      replace cf22 := cell_b cf22 hbwc46
      replace cf23 := cell_b cf23 hbwc46
      replace cf24 := cell_b cf24 hbwc46
      replace cf32 := cell_b cf32 hbwc46
      replace cf33 := cell_b cf33 hbwc46
      replace cf34 := cell_b cf34 hbwc46
      replace cf43 := cell_b cf43 hbwc46
      replace cf44 := cell_b cf44 hbwc46
      replace cf45 := cell_b cf45 hbwc46
      replace howc12 := howc12.below hbwc46
      replace howc14 := howc14.below hbwc46
      replace howc16 := howc16.below hbwc46
      replace howc25 := howc25.below hbwc46
      replace howc35 := howc35.below hbwc46
      replace hbw : Below w.heap.size w wc46 := hbw.trans (hbwc46.mono hbw.size)
      have hzwc46 : wm42.heap.size ≤ wc46.heap.size := hbwc46.size
      have hlimwc46 : szS (stpS g0 g1) ≤ 1048576 := stpS_sz g0 g1
      have hl49 : w.heap.size < wc46.heap.size := by omega
      have hl50 : w.heap.size + 1 < wc46.heap.size := by omega
      have hl51 : B6 < wc46.heap.size := by omega
      have hl52 : wc25.heap.size < wc46.heap.size := by omega
      have hl53 : wc35.heap.size < wc46.heap.size := by omega
      go_wp2_with fail
      generalize hqwm54 : wc46.alloc (.cells #[.slice y47s0 y47n0 y47c0, .slice y47s1 y47n1 y47c1, .int .i64 y47v2] 43) = wm54
      have hywm54 : wm54.heap.size = wc46.heap.size + 1 := by rw [← hqwm54];simp
      have hbwm54 : Below wc46.heap.size wc46 wm54 := by rw [← hqwm54];exact (by repeat' (first | (with_reducible exact Below.refl _ _)|(with_reducible apply Below.alloc)|(with_reducible apply Below.drew)|(with_reducible apply below_drawn) | omega | (simp only [World.size_alloc, World.size_setCell, World.size_drew];omega)))
      have HQwm54_0 : Blk wm54 (wc46.heap.size) [.slice y47s0 y47n0 y47c0, .slice y47s1 y47n1 y47c1, .int .i64 y47v2] 43 := by rw [← hqwm54];have hnew := blk_new wc46 [.slice y47s0 y47n0 y47c0, .slice y47s1 y47n1 y47c1, .int .i64 y47v2] 43;(try simp only [World.size_alloc] at hnew);exact hnew
      have cf55 : wm54.cell? ⟨wc46.heap.size, 0, none⟩ = some (.slice y47s0 y47n0 y47c0) := HQwm54_0.cell 0 rfl
      have cf56 : wm54.cell? ⟨wc46.heap.size, 1, none⟩ = some (.slice y47s1 y47n1 y47c1) := HQwm54_0.cell 1 rfl
      have cf57 : wm54.cell? ⟨wc46.heap.size, 2, none⟩ = some (.int .i64 y47v2) := HQwm54_0.cell 2 rfl
      clear HQwm54_0
      clear hqwm54
      replace cf4 := cell_b cf4 hbwm54
      replace cf5 := cell_b cf5 hbwm54
      replace cf6 := cell_b cf6 hbwm54
      replace cf7 := cell_b cf7 hbwm54
      replace cf8 := cell_b cf8 hbwm54
      replace cf9 := cell_b cf9 hbwm54
      replace cf22 := cell_b cf22 hbwm54
      replace cf23 := cell_b cf23 hbwm54
      replace cf24 := cell_b cf24 hbwm54
      replace cf32 := cell_b cf32 hbwm54
      replace cf33 := cell_b cf33 hbwm54
      replace cf34 := cell_b cf34 hbwm54
      replace cf43 := cell_b cf43 hbwm54
      replace cf44 := cell_b cf44 hbwm54
      replace cf45 := cell_b cf45 hbwm54
      replace howc12 := howc12.below hbwm54
      replace howc14 := howc14.below hbwm54
      replace howc16 := howc16.below hbwm54
      replace howc25 := howc25.below hbwm54
      replace howc35 := howc35.below hbwm54
      replace howc46 := howc46.below hbwm54
      replace hbw : Below w.heap.size w wm54 := hbw.trans (hbwm54.mono hbw.size)
      have hzwm54 : wc46.heap.size ≤ wm54.heap.size := hbwm54.size
      refine (eqS_any _ _ _ _ _ howc46.is howc16.is).mono ?_
      rw [tf_true rfl]
      rintro e wc58 ⟨rfl, hbwc58⟩
      replace cf4 := cell_b cf4 hbwc58
      replace cf5 := cell_b cf5 hbwc58
      replace cf6 := cell_b cf6 hbwc58
      replace cf7 := cell_b cf7 hbwc58
      replace cf8 := cell_b cf8 hbwc58
      replace cf9 := cell_b cf9 hbwc58
      replace cf22 := cell_b cf22 hbwc58
      replace cf23 := cell_b cf23 hbwc58
      replace cf24 := cell_b cf24 hbwc58
      replace cf32 := cell_b cf32 hbwc58
      replace cf33 := cell_b cf33 hbwc58
      replace cf34 := cell_b cf34 hbwc58
      replace cf43 := cell_b cf43 hbwc58
      replace cf44 := cell_b cf44 hbwc58
      replace cf45 := cell_b cf45 hbwc58
      replace cf55 := cell_b cf55 hbwc58
      replace cf56 := cell_b cf56 hbwc58
      replace cf57 := cell_b cf57 hbwc58
      replace howc12 := howc12.below hbwc58
      replace howc14 := howc14.below hbwc58
      replace howc16 := howc16.below hbwc58
      replace howc25 := howc25.below hbwc58
      replace howc35 := howc35.below hbwc58
      replace howc46 := howc46.below hbwc58
      replace hbw : Below w.heap.size w wc58 := hbw.trans (hbwc58.mono hbw.size)
      have hzwc58 : wm54.heap.size ≤ wc58.heap.size := hbwc58.size
      go_wp2_with fail
      go_region_held3 (fun w' => w'.cell? ⟨wc25.heap.size, 0, none⟩ = some (.slice x26s0 x26n0 x26c0) ∧ w'.cell? ⟨wc25.heap.size, 1, none⟩ = some (.slice x26s1 x26n1 x26c1) ∧ w'.cell? ⟨wc25.heap.size, 2, none⟩ = some (.slice x26s2 x26n2 x26c2) ∧ w'.cell? ⟨w.heap.size, 0, none⟩ = some (.slice a0s0 a0n0 a0c0) ∧ w'.cell? ⟨w.heap.size, 1, none⟩ = some (.slice a0s1 a0n1 a0c1) ∧ w'.cell? ⟨w.heap.size, 2, none⟩ = some (.slice a0s2 a0n2 a0c2)) (first | exact ⟨cf32, cf33, cf34, cf4, cf5, cf6⟩ | go_keep)
        (first
          | (go_at_call 14;(with_reducible refine (toP_any _ _ _ ((h0.below hbw)).drew (by omega)).mono ?_);rintro e wc59 ⟨x60s0, x60n0, x60c0, x60s1, x60n1, x60c1, x60s2, x60n2, x60c2, rfl, howc59, hbwc59⟩;replace howc59 : OwnP wc58.heap.size wc59.heap.size wc59 (.agg #[.slice x60s0 x60n0 x60c0, .slice x60s1 x60n1 x60c1, .slice x60s2 x60n2 x60c2]) g0 := howc59;replace hbwc59 : Below wc58.heap.size wc58 wc59 := (below_drew _).trans hbwc59;replace cf4 := cell_b cf4 hbwc59;replace cf5 := cell_b cf5 hbwc59;replace cf6 := cell_b cf6 hbwc59;replace cf7 := cell_b cf7 hbwc59;replace cf8 := cell_b cf8 hbwc59;replace cf9 := cell_b cf9 hbwc59;replace cf22 := cell_b cf22 hbwc59;replace cf23 := cell_b cf23 hbwc59;replace cf24 := cell_b cf24 hbwc59;replace cf32 := cell_b cf32 hbwc59;replace cf33 := cell_b cf33 hbwc59;replace cf34 := cell_b cf34 hbwc59;replace cf43 := cell_b cf43 hbwc59;replace cf44 := cell_b cf44 hbwc59;replace cf45 := cell_b cf45 hbwc59;replace cf55 := cell_b cf55 hbwc59;replace cf56 := cell_b cf56 hbwc59;replace cf57 := cell_b cf57 hbwc59;replace howc12 := howc12.below hbwc59;replace howc14 := howc14.below hbwc59;replace howc16 := howc16.below hbwc59;replace howc25 := howc25.below hbwc59;replace howc35 := howc35.below hbwc59;replace howc46 := howc46.below hbwc59;replace hbw : Below w.heap.size w wc59 := hbw.trans (hbwc59.mono hbw.size);have hzwc59 : wc58.heap.size ≤ wc59.heap.size := hbwc59.size)
          | (go_at_call 17;(with_reducible refine (eqP_any _ _ _ _ _ howc25.is howc59.is).mono ?_);rw [tf_true rfl];rintro e wc61 ⟨rfl, hbwc61⟩;replace cf4 := cell_b cf4 hbwc61;replace cf5 := cell_b cf5 hbwc61;replace cf6 := cell_b cf6 hbwc61;replace cf7 := cell_b cf7 hbwc61;replace cf8 := cell_b cf8 hbwc61;replace cf9 := cell_b cf9 hbwc61;replace cf22 := cell_b cf22 hbwc61;replace cf23 := cell_b cf23 hbwc61;replace cf24 := cell_b cf24 hbwc61;replace cf32 := cell_b cf32 hbwc61;replace cf33 := cell_b cf33 hbwc61;replace cf34 := cell_b cf34 hbwc61;replace cf43 := cell_b cf43 hbwc61;replace cf44 := cell_b cf44 hbwc61;replace cf45 := cell_b cf45 hbwc61;replace cf55 := cell_b cf55 hbwc61;replace cf56 := cell_b cf56 hbwc61;replace cf57 := cell_b cf57 hbwc61;replace howc12 := howc12.below hbwc61;replace howc14 := howc14.below hbwc61;replace howc16 := howc16.below hbwc61;replace howc25 := howc25.below hbwc61;replace howc35 := howc35.below hbwc61;replace howc46 := howc46.below hbwc61;replace howc59 := howc59.below hbwc61;replace hbw : Below w.heap.size w wc61 := hbw.trans (hbwc61.mono hbw.size);have hzwc61 : wc59.heap.size ≤ wc61.heap.size := hbwc61.size))
      go_wp2_with fail
      go_region_held3 (fun w' => w'.cell? ⟨wc35.heap.size, 0, none⟩ = some (.slice x36s0 x36n0 x36c0) ∧ w'.cell? ⟨wc35.heap.size, 1, none⟩ = some (.slice x36s1 x36n1 x36c1) ∧ w'.cell? ⟨wc35.heap.size, 2, none⟩ = some (.int .i64 x36v2) ∧ w'.cell? ⟨w.heap.size + 1, 0, none⟩ = some (.slice a1s0 a1n0 a1c0) ∧ w'.cell? ⟨w.heap.size + 1, 1, none⟩ = some (.slice a1s1 a1n1 a1c1) ∧ w'.cell? ⟨w.heap.size + 1, 2, none⟩ = some (.int .i64 a1v2)) (first | exact ⟨cf43, cf44, cf45, cf7, cf8, cf9⟩ | go_keep)
        (first
          | (go_at_call 25;(with_reducible refine (toS_any _ _ _ ((h1.below hbw)).drew (by omega)).mono ?_);rintro e wc62 ⟨x63s0, x63n0, x63c0, x63s1, x63n1, x63c1, x63v2, rfl, howc62, hbwc62⟩;replace howc62 : OwnS wc61.heap.size wc62.heap.size wc62 (.agg #[.slice x63s0 x63n0 x63c0, .slice x63s1 x63n1 x63c1, .int .i64 x63v2]) g1 := howc62;replace hbwc62 : Below wc61.heap.size wc61 wc62 := (below_drew _).trans hbwc62;replace cf4 := cell_b cf4 hbwc62;replace cf5 := cell_b cf5 hbwc62;replace cf6 := cell_b cf6 hbwc62;replace cf7 := cell_b cf7 hbwc62;replace cf8 := cell_b cf8 hbwc62;replace cf9 := cell_b cf9 hbwc62;replace cf22 := cell_b cf22 hbwc62;replace cf23 := cell_b cf23 hbwc62;replace cf24 := cell_b cf24 hbwc62;replace cf32 := cell_b cf32 hbwc62;replace cf33 := cell_b cf33 hbwc62;replace cf34 := cell_b cf34 hbwc62;replace cf43 := cell_b cf43 hbwc62;replace cf44 := cell_b cf44 hbwc62;replace cf45 := cell_b cf45 hbwc62;replace cf55 := cell_b cf55 hbwc62;replace cf56 := cell_b cf56 hbwc62;replace cf57 := cell_b cf57 hbwc62;replace howc12 := howc12.below hbwc62;replace howc14 := howc14.below hbwc62;replace howc16 := howc16.below hbwc62;replace howc25 := howc25.below hbwc62;replace howc35 := howc35.below hbwc62;replace howc46 := howc46.below hbwc62;replace howc59 := howc59.below hbwc62;replace hbw : Below w.heap.size w wc62 := hbw.trans (hbwc62.mono hbw.size);have hzwc62 : wc61.heap.size ≤ wc62.heap.size := hbwc62.size)
          | (go_at_call 27;(with_reducible refine (eqS_any _ _ _ _ _ howc35.is howc62.is).mono ?_);rw [tf_true rfl];rintro e wc64 ⟨rfl, hbwc64⟩;replace cf4 := cell_b cf4 hbwc64;replace cf5 := cell_b cf5 hbwc64;replace cf6 := cell_b cf6 hbwc64;replace cf7 := cell_b cf7 hbwc64;replace cf8 := cell_b cf8 hbwc64;replace cf9 := cell_b cf9 hbwc64;replace cf22 := cell_b cf22 hbwc64;replace cf23 := cell_b cf23 hbwc64;replace cf24 := cell_b cf24 hbwc64;replace cf32 := cell_b cf32 hbwc64;replace cf33 := cell_b cf33 hbwc64;replace cf34 := cell_b cf34 hbwc64;replace cf43 := cell_b cf43 hbwc64;replace cf44 := cell_b cf44 hbwc64;replace cf45 := cell_b cf45 hbwc64;replace cf55 := cell_b cf55 hbwc64;replace cf56 := cell_b cf56 hbwc64;replace cf57 := cell_b cf57 hbwc64;replace howc12 := howc12.below hbwc64;replace howc14 := howc14.below hbwc64;replace howc16 := howc16.below hbwc64;replace howc25 := howc25.below hbwc64;replace howc35 := howc35.below hbwc64;replace howc46 := howc46.below hbwc64;replace howc59 := howc59.below hbwc64;replace howc62 := howc62.below hbwc64;replace hbw : Below w.heap.size w wc64 := hbw.trans (hbwc64.mono hbw.size);have hzwc64 : wc62.heap.size ≤ wc64.heap.size := hbwc64.size))
      go_wp2_with fail
      refine (markP_any howc25 _ (by omega) (by omega) (by omega) (by omega)).mono ?_
      rintro e wc65 ⟨rfl, hmwc65, hOwc65⟩
      replace cf4 := cell_o cf4 hOwc65 (by omega)
      replace cf5 := cell_o cf5 hOwc65 (by omega)
      replace cf6 := cell_o cf6 hOwc65 (by omega)
      replace cf7 := cell_o cf7 hOwc65 (by omega)
      replace cf8 := cell_o cf8 hOwc65 (by omega)
      replace cf9 := cell_o cf9 hOwc65 (by omega)
      replace cf22 := cell_o cf22 hOwc65 (by omega)
      replace cf23 := cell_o cf23 hOwc65 (by omega)
      replace cf24 := cell_o cf24 hOwc65 (by omega)
      replace cf32 := cell_o cf32 hOwc65 (by omega)
      replace cf33 := cell_o cf33 hOwc65 (by omega)
      replace cf34 := cell_o cf34 hOwc65 (by omega)
      replace cf43 := cell_o cf43 hOwc65 (by omega)
      replace cf44 := cell_o cf44 hOwc65 (by omega)
      replace cf45 := cell_o cf45 hOwc65 (by omega)
      replace cf55 := cell_o cf55 hOwc65 (by omega)
      replace cf56 := cell_o cf56 hOwc65 (by omega)
      replace cf57 := cell_o cf57 hOwc65 (by omega)
      replace howc12 := howc12.out hOwc65 (by omega)
      replace howc14 := howc14.out hOwc65 (by omega)
      replace howc16 := howc16.out hOwc65 (by omega)
      replace howc35 := howc35.out hOwc65 (by omega)
      replace howc46 := howc46.out hOwc65 (by omega)
      replace howc59 := howc59.out hOwc65 (by omega)
      replace howc62 := howc62.out hOwc65 (by omega)
      replace hbw : Below w.heap.size w wc65 := hbw.trans (hOwc65.below (by omega))
      have hzwc65 : wc64.heap.size ≤ wc65.heap.size := hOwc65.size
      have hlfwc65 : leafP g0 ≤ szP g0 := by unfold leafP leafA leafII szP szA szII;omega
      go_wp2_with fail
      refine (markS_any howc35 _ (by omega) (by omega) (by omega) (by omega)).mono ?_
      rintro e wc66 ⟨rfl, hmwc66, hOwc66⟩
      replace cf4 := cell_o cf4 hOwc66 (by omega)
      replace cf5 := cell_o cf5 hOwc66 (by omega)
      replace cf6 := cell_o cf6 hOwc66 (by omega)
      replace cf7 := cell_o cf7 hOwc66 (by omega)
      replace cf8 := cell_o cf8 hOwc66 (by omega)
      replace cf9 := cell_o cf9 hOwc66 (by omega)
      replace cf22 := cell_o cf22 hOwc66 (by omega)
      replace cf23 := cell_o cf23 hOwc66 (by omega)
      replace cf24 := cell_o cf24 hOwc66 (by omega)
      replace cf32 := cell_o cf32 hOwc66 (by omega)
      replace cf33 := cell_o cf33 hOwc66 (by omega)
      replace cf34 := cell_o cf34 hOwc66 (by omega)
      replace cf43 := cell_o cf43 hOwc66 (by omega)
      replace cf44 := cell_o cf44 hOwc66 (by omega)
      replace cf45 := cell_o cf45 hOwc66 (by omega)
      replace cf55 := cell_o cf55 hOwc66 (by omega)
      replace cf56 := cell_o cf56 hOwc66 (by omega)
      replace cf57 := cell_o cf57 hOwc66 (by omega)
      replace howc12 := howc12.out hOwc66 (by omega)
      replace howc14 := howc14.out hOwc66 (by omega)
      replace howc16 := howc16.out hOwc66 (by omega)
      replace howc46 := howc46.out hOwc66 (by omega)
      replace howc59 := howc59.out hOwc66 (by omega)
      replace howc62 := howc62.out hOwc66 (by omega)
      replace hmwc65 := hmwc65.out hOwc66 (by omega)
      replace hbw : Below w.heap.size w wc66 := hbw.trans (hOwc66.below (by omega))
      have hzwc66 : wc65.heap.size ≤ wc66.heap.size := hOwc66.size
      have hlfwc66 : leafS g1 ≤ szS g1 := by unfold leafS szS;omega
      go_wp2_with fail
      refine (eqS_any _ _ _ _ _ howc46.is howc16.is).mono ?_
      rw [tf_true rfl]
      rintro e wc67 ⟨rfl, hbwc67⟩
      replace cf4 := cell_b cf4 hbwc67
      replace cf5 := cell_b cf5 hbwc67
      replace cf6 := cell_b cf6 hbwc67
      replace cf7 := cell_b cf7 hbwc67
      replace cf8 := cell_b cf8 hbwc67
      replace cf9 := cell_b cf9 hbwc67
      replace cf22 := cell_b cf22 hbwc67
      replace cf23 := cell_b cf23 hbwc67
      replace cf24 := cell_b cf24 hbwc67
      replace cf32 := cell_b cf32 hbwc67
      replace cf33 := cell_b cf33 hbwc67
      replace cf34 := cell_b cf34 hbwc67
      replace cf43 := cell_b cf43 hbwc67
      replace cf44 := cell_b cf44 hbwc67
      replace cf45 := cell_b cf45 hbwc67
      replace cf55 := cell_b cf55 hbwc67
      replace cf56 := cell_b cf56 hbwc67
      replace cf57 := cell_b cf57 hbwc67
      replace howc12 := howc12.below hbwc67
      replace howc14 := howc14.below hbwc67
      replace howc16 := howc16.below hbwc67
      replace howc46 := howc46.below hbwc67
      replace howc59 := howc59.below hbwc67
      replace howc62 := howc62.below hbwc67
      replace hmwc65 := hmwc65.below hbwc67
      replace hmwc66 := hmwc66.below hbwc67
      replace hbw : Below w.heap.size w wc67 := hbw.trans (hbwc67.mono hbw.size)
      have hzwc67 : wc66.heap.size ≤ wc67.heap.size := hbwc67.size
      go_wp2_with fail
      refine (markS_any howc46 _ (by omega) (by omega) (by omega) (by omega)).mono ?_
      rintro e wc68 ⟨rfl, hmwc68, hOwc68⟩
      replace cf4 := cell_o cf4 hOwc68 (by omega)
      replace cf5 := cell_o cf5 hOwc68 (by omega)
      replace cf6 := cell_o cf6 hOwc68 (by omega)
      replace cf7 := cell_o cf7 hOwc68 (by omega)
      replace cf8 := cell_o cf8 hOwc68 (by omega)
      replace cf9 := cell_o cf9 hOwc68 (by omega)
      replace cf22 := cell_o cf22 hOwc68 (by omega)
      replace cf23 := cell_o cf23 hOwc68 (by omega)
      replace cf24 := cell_o cf24 hOwc68 (by omega)
      replace cf32 := cell_o cf32 hOwc68 (by omega)
      replace cf33 := cell_o cf33 hOwc68 (by omega)
      replace cf34 := cell_o cf34 hOwc68 (by omega)
      replace cf43 := cell_o cf43 hOwc68 (by omega)
      replace cf44 := cell_o cf44 hOwc68 (by omega)
      replace cf45 := cell_o cf45 hOwc68 (by omega)
      replace cf55 := cell_o cf55 hOwc68 (by omega)
      replace cf56 := cell_o cf56 hOwc68 (by omega)
      replace cf57 := cell_o cf57 hOwc68 (by omega)
      replace howc12 := howc12.out hOwc68 (by omega)
      replace howc14 := howc14.out hOwc68 (by omega)
      replace howc16 := howc16.out hOwc68 (by omega)
      replace howc59 := howc59.out hOwc68 (by omega)
      replace howc62 := howc62.out hOwc68 (by omega)
      replace hmwc65 := hmwc65.out hOwc68 (by omega)
      replace hmwc66 := hmwc66.out hOwc68 (by omega)
      replace hbw : Below w.heap.size w wc68 := hbw.trans (hOwc68.below (by omega))
      have hzwc68 : wc67.heap.size ≤ wc68.heap.size := hOwc68.size
      go_wp2_with fail
      refine (heldS_any _ _ hmwc68.is (by omega) (by omega) (by omega)).mono ?_
      rintro e wc69 ⟨rfl, hbwc69⟩
      replace cf4 := cell_b cf4 hbwc69
      replace cf5 := cell_b cf5 hbwc69
      replace cf6 := cell_b cf6 hbwc69
      replace cf7 := cell_b cf7 hbwc69
      replace cf8 := cell_b cf8 hbwc69
      replace cf9 := cell_b cf9 hbwc69
      replace cf22 := cell_b cf22 hbwc69
      replace cf23 := cell_b cf23 hbwc69
      replace cf24 := cell_b cf24 hbwc69
      replace cf32 := cell_b cf32 hbwc69
      replace cf33 := cell_b cf33 hbwc69
      replace cf34 := cell_b cf34 hbwc69
      replace cf43 := cell_b cf43 hbwc69
      replace cf44 := cell_b cf44 hbwc69
      replace cf45 := cell_b cf45 hbwc69
      replace cf55 := cell_b cf55 hbwc69
      replace cf56 := cell_b cf56 hbwc69
      replace cf57 := cell_b cf57 hbwc69
      replace howc12 := howc12.below hbwc69
      replace howc14 := howc14.below hbwc69
      replace howc16 := howc16.below hbwc69
      replace howc59 := howc59.below hbwc69
      replace howc62 := howc62.below hbwc69
      replace hmwc65 := hmwc65.below hbwc69
      replace hmwc66 := hmwc66.below hbwc69
      replace hmwc68 := hmwc68.below hbwc69
      replace hbw : Below w.heap.size w wc69 := hbw.trans (hbwc69.mono hbw.size)
      have hzwc69 : wc68.heap.size ≤ wc69.heap.size := hbwc69.size
      go_wp2_with fail
      apply cutP
      · intro hp
        go_region_held3 (fun w' => w'.cell? ⟨w.heap.size, 0, none⟩ = some (.slice a0s0 a0n0 a0c0) ∧ w'.cell? ⟨w.heap.size, 1, none⟩ = some (.slice a0s1 a0n1 a0c1) ∧ w'.cell? ⟨w.heap.size, 2, none⟩ = some (.slice a0s2 a0n2 a0c2) ∧ w'.cell? ⟨w.heap.size + 1, 0, none⟩ = some (.slice a1s0 a1n0 a1c0) ∧ w'.cell? ⟨w.heap.size + 1, 1, none⟩ = some (.slice a1s1 a1n1 a1c1) ∧ w'.cell? ⟨w.heap.size + 1, 2, none⟩ = some (.int .i64 a1v2)) (first | exact ⟨cf4, cf5, cf6, cf7, cf8, cf9⟩ | exact ⟨cell_l cf4 (below_s3 (N := wc69.heap.size) (by omega)) (by omega), cell_l cf5 (below_s3 (N := wc69.heap.size) (by omega)) (by omega), cell_l cf6 (below_s3 (N := wc69.heap.size) (by omega)) (by omega), cell_l cf7 (below_s3 (N := wc69.heap.size) (by omega)) (by omega), cell_l cf8 (below_s3 (N := wc69.heap.size) (by omega)) (by omega), cell_l cf9 (below_s3 (N := wc69.heap.size) (by omega)) (by omega)⟩ | go_keep)
          (first
            | (go_at_call 14;(refine (toP_any _ _ _ (h0.below (by repeat' (first | (with_reducible exact Below.refl _ _)|(with_reducible assumption)|(with_reducible apply below_set)|(with_reducible apply Below.alloc)|(with_reducible apply Below.drew)|(with_reducible apply below_drawn)|(with_reducible refine Below.trans ?_ (Below.mono (by assumption) ?_)) | omega | (simp only [World.size_alloc, World.size_setCell, World.size_drew];omega)))) (by omega)).mono ?_);rintro e wc70 ⟨x71s0, x71n0, x71c0, x71s1, x71n1, x71c1, x71s2, x71n2, x71c2, rfl, howc70, hbwc70⟩;(first | (have HB7 : Blk wc70 wc69.heap.size [.slice none 0 0, .slice none 0 0, .int .i64 0] 43 := (blk_new wc69.drew [.slice none 0 0, .slice none 0 0, .int .i64 0] 43).below hbwc70;have hlHB7 := HB7.lt) | skip);have hBwc70 : Below wc69.heap.size wc69 wc70 := (by first | exact hbwc70 | exact below_d hbwc70 | exact below_z hbwc70 | exact below_d (below_z hbwc70) | exact below_z (below_d hbwc70));replace howc70 : OwnP _ wc70.heap.size wc70 (.agg #[.slice x71s0 x71n0 x71c0, .slice x71s1 x71n1 x71c1, .slice x71s2 x71n2 x71c2]) g0 := howc70;replace cf4 := cell_b cf4 hBwc70;replace cf5 := cell_b cf5 hBwc70;replace cf6 := cell_b cf6 hBwc70;replace cf7 := cell_b cf7 hBwc70;replace cf8 := cell_b cf8 hBwc70;replace cf9 := cell_b cf9 hBwc70;replace cf22 := cell_b cf22 hBwc70;replace cf23 := cell_b cf23 hBwc70;replace cf24 := cell_b cf24 hBwc70;replace cf32 := cell_b cf32 hBwc70;replace cf33 := cell_b cf33 hBwc70;replace cf34 := cell_b cf34 hBwc70;replace cf43 := cell_b cf43 hBwc70;replace cf44 := cell_b cf44 hBwc70;replace cf45 := cell_b cf45 hBwc70;replace cf55 := cell_b cf55 hBwc70;replace cf56 := cell_b cf56 hBwc70;replace cf57 := cell_b cf57 hBwc70;replace howc12 := howc12.below hBwc70;replace howc14 := howc14.below hBwc70;replace howc16 := howc16.below hBwc70;replace howc59 := howc59.below hBwc70;replace howc62 := howc62.below hBwc70;replace hmwc65 := hmwc65.below hBwc70;replace hmwc66 := hmwc66.below hBwc70;replace hmwc68 := hmwc68.below hBwc70;replace hbw : Below w.heap.size w wc70 := hbw.trans (hBwc70.mono hbw.size);have hzwc70 : wc69.heap.size ≤ wc70.heap.size := hBwc70.size)
            | (go_at_call 25;(refine (toS_any _ _ _ (h1.below (by repeat' (first | (with_reducible exact Below.refl _ _)|(with_reducible assumption)|(with_reducible apply below_set)|(with_reducible apply Below.alloc)|(with_reducible apply Below.drew)|(with_reducible apply below_drawn)|(with_reducible refine Below.trans ?_ (Below.mono (by assumption) ?_)) | omega | (simp only [World.size_alloc, World.size_setCell, World.size_drew];omega)))) (by omega)).mono ?_);rintro e wc72 ⟨x73s0, x73n0, x73c0, x73s1, x73n1, x73c1, x73v2, rfl, howc72, hbwc72⟩;(first | (replace HB7 := HB7.below hbwc72)|(have HB7 : Blk wc72 wc70.heap.size [.slice none 0 0, .slice none 0 0, .int .i64 0] 43 := (blk_new wc70 [.slice none 0 0, .slice none 0 0, .int .i64 0] 43).below hbwc72;have hlHB7 := HB7.lt) | skip);have hBwc72 : Below wc70.heap.size wc70 wc72 := (by first | exact hbwc72 | exact below_d hbwc72 | exact below_z hbwc72 | exact below_d (below_z hbwc72) | exact below_z (below_d hbwc72));replace howc72 : OwnS _ wc72.heap.size wc72 (.agg #[.slice x73s0 x73n0 x73c0, .slice x73s1 x73n1 x73c1, .int .i64 x73v2]) g1 := howc72;replace cf4 := cell_b cf4 hBwc72;replace cf5 := cell_b cf5 hBwc72;replace cf6 := cell_b cf6 hBwc72;replace cf7 := cell_b cf7 hBwc72;replace cf8 := cell_b cf8 hBwc72;replace cf9 := cell_b cf9 hBwc72;replace cf22 := cell_b cf22 hBwc72;replace cf23 := cell_b cf23 hBwc72;replace cf24 := cell_b cf24 hBwc72;replace cf32 := cell_b cf32 hBwc72;replace cf33 := cell_b cf33 hBwc72;replace cf34 := cell_b cf34 hBwc72;replace cf43 := cell_b cf43 hBwc72;replace cf44 := cell_b cf44 hBwc72;replace cf45 := cell_b cf45 hBwc72;replace cf55 := cell_b cf55 hBwc72;replace cf56 := cell_b cf56 hBwc72;replace cf57 := cell_b cf57 hBwc72;replace howc12 := howc12.below hBwc72;replace howc14 := howc14.below hBwc72;replace howc16 := howc16.below hBwc72;replace howc59 := howc59.below hBwc72;replace howc62 := howc62.below hBwc72;replace hmwc65 := hmwc65.below hBwc72;replace hmwc66 := hmwc66.below hBwc72;replace hmwc68 := hmwc68.below hBwc72;replace howc70 := howc70.below hBwc72;replace hbw : Below w.heap.size w wc72 := hbw.trans (hBwc72.mono hbw.size);have hzwc72 : wc70.heap.size ≤ wc72.heap.size := hBwc72.size)
            | (go_at_call 39;(refine (promoteStep_i _ _ _ _ _ (howc70.is.below (by repeat' (first | (with_reducible exact Below.refl _ _)|(with_reducible assumption)|(with_reducible apply below_set)|(with_reducible apply Below.alloc)|(with_reducible apply Below.drew)|(with_reducible apply below_drawn)|(with_reducible refine Below.trans ?_ (Below.mono (by assumption) ?_)) | omega | (simp only [World.size_alloc, World.size_setCell, World.size_drew];omega)))) (howc72.is.below (by repeat' (first | (with_reducible exact Below.refl _ _)|(with_reducible assumption)|(with_reducible apply below_set)|(with_reducible apply Below.alloc)|(with_reducible apply Below.drew)|(with_reducible apply below_drawn)|(with_reducible refine Below.trans ?_ (Below.mono (by assumption) ?_)) | omega | (simp only [World.size_alloc, World.size_setCell, World.size_drew];omega))))).mono ?_);rintro e wc74 ⟨y75s0, y75n0, y75c0, y75s1, y75n1, y75c1, y75v2, rfl, howc74, hbwc74⟩;(first | (replace HB7 := HB7.below hbwc74)|(have HB7 : Blk wc74 wc72.heap.size [.slice none 0 0, .slice none 0 0, .int .i64 0] 43 := (blk_new wc72 [.slice none 0 0, .slice none 0 0, .int .i64 0] 43).below hbwc74) | skip);(first | (have rz0 := HB7.cell 0 rfl;have rz1 := HB7.cell 1 rfl;have rz2 := HB7.cell 2 rfl;have yz0 := HB7.free 0;have yz1 := HB7.free 1;have yz2 := HB7.free 2) | skip);have hBwc74 : Below wc72.heap.size wc72 wc74 := (by first | exact hbwc74 | exact below_d hbwc74 | exact below_z hbwc74 | exact below_d (below_z hbwc74) | exact below_z (below_d hbwc74));replace howc74 : OwnS _ wc74.heap.size wc74 (.agg #[.slice y75s0 y75n0 y75c0, .slice y75s1 y75n1 y75c1, .int .i64 y75v2]) (stpS g0 g1) := howc74;replace cf4 := cell_b cf4 hBwc74;replace cf5 := cell_b cf5 hBwc74;replace cf6 := cell_b cf6 hBwc74;replace cf7 := cell_b cf7 hBwc74;replace cf8 := cell_b cf8 hBwc74;replace cf9 := cell_b cf9 hBwc74;replace cf22 := cell_b cf22 hBwc74;replace cf23 := cell_b cf23 hBwc74;replace cf24 := cell_b cf24 hBwc74;replace cf32 := cell_b cf32 hBwc74;replace cf33 := cell_b cf33 hBwc74;replace cf34 := cell_b cf34 hBwc74;replace cf43 := cell_b cf43 hBwc74;replace cf44 := cell_b cf44 hBwc74;replace cf45 := cell_b cf45 hBwc74;replace cf55 := cell_b cf55 hBwc74;replace cf56 := cell_b cf56 hBwc74;replace cf57 := cell_b cf57 hBwc74;replace howc12 := howc12.below hBwc74;replace howc14 := howc14.below hBwc74;replace howc16 := howc16.below hBwc74;replace howc59 := howc59.below hBwc74;replace howc62 := howc62.below hBwc74;replace hmwc65 := hmwc65.below hBwc74;replace hmwc66 := hmwc66.below hBwc74;replace hmwc68 := hmwc68.below hBwc74;replace howc70 := howc70.below hBwc74;replace howc72 := howc72.below hBwc74;replace hbw : Below w.heap.size w wc74 := hbw.trans (hBwc74.mono hbw.size);have hzwc74 : wc72.heap.size ≤ wc74.heap.size := hBwc74.size;have hlimwc74 : szS (stpS g0 g1) ≤ 1048576 := stpS_sz g0 g1))
        all_goals (rename_i hSx;clear hSx)
        all_goals first
          | (obtain ⟨N7, hN7⟩ : ∃ N, N = wc69.heap.size := ⟨_, rfl⟩;have HA : After N7 wc74 (((wc74.setCell ⟨wc72.heap.size, 0, none⟩ (.slice y75s0 y75n0 y75c0)).setCell ⟨wc72.heap.size, 1, none⟩ (.slice y75s1 y75n1 y75c1)).setCell ⟨wc72.heap.size, 2, none⟩ (.int .i64 y75v2)) (wc72.heap.size) [.slice y75s0 y75n0 y75c0, .slice y75s1 y75n1 y75c1, .int .i64 y75v2] 43 := after_set HB7 (by omega) _ _ _;generalize ((wc74.setCell ⟨wc72.heap.size, 0, none⟩ (.slice y75s0 y75n0 y75c0)).setCell ⟨wc72.heap.size, 1, none⟩ (.slice y75s1 y75n1 y75c1)).setCell ⟨wc72.heap.size, 2, none⟩ (.int .i64 y75v2) = wm83 at HA ⊢;have h16 := howc74.kept (HA.kept _ _ (by first | omega | (simp only [World.size_alloc];omega)));generalize wc72.heap.size = B7 at HA ⊢;subst hN7)
          | (obtain ⟨N7, hN7⟩ : ∃ N, N = wc69.heap.size := ⟨_, rfl⟩;have HA : After N7 wc74 (((wc74.setCell ⟨wc70.heap.size, 0, none⟩ (.slice y75s0 y75n0 y75c0)).setCell ⟨wc70.heap.size, 1, none⟩ (.slice y75s1 y75n1 y75c1)).setCell ⟨wc70.heap.size, 2, none⟩ (.int .i64 y75v2)) (wc70.heap.size) [.slice y75s0 y75n0 y75c0, .slice y75s1 y75n1 y75c1, .int .i64 y75v2] 43 := after_set HB7 (by omega) _ _ _;generalize ((wc74.setCell ⟨wc70.heap.size, 0, none⟩ (.slice y75s0 y75n0 y75c0)).setCell ⟨wc70.heap.size, 1, none⟩ (.slice y75s1 y75n1 y75c1)).setCell ⟨wc70.heap.size, 2, none⟩ (.int .i64 y75v2) = wm83 at HA ⊢;have h16 := howc74.kept (HA.kept _ _ (by first | omega | (simp only [World.size_alloc];omega)));generalize wc70.heap.size = B7 at HA ⊢;subst hN7)
          | (obtain ⟨N7, hN7⟩ : ∃ N, N = wc69.heap.size := ⟨_, rfl⟩;have HA : After N7 wc74 (((wc74.setCell ⟨wc69.heap.size, 0, none⟩ (.slice y75s0 y75n0 y75c0)).setCell ⟨wc69.heap.size, 1, none⟩ (.slice y75s1 y75n1 y75c1)).setCell ⟨wc69.heap.size, 2, none⟩ (.int .i64 y75v2)) (wc69.heap.size) [.slice y75s0 y75n0 y75c0, .slice y75s1 y75n1 y75c1, .int .i64 y75v2] 43 := after_set HB7 (by omega) _ _ _;generalize ((wc74.setCell ⟨wc69.heap.size, 0, none⟩ (.slice y75s0 y75n0 y75c0)).setCell ⟨wc69.heap.size, 1, none⟩ (.slice y75s1 y75n1 y75c1)).setCell ⟨wc69.heap.size, 2, none⟩ (.int .i64 y75v2) = wm83 at HA ⊢;have h16 := howc74.kept (HA.kept _ _ (by first | omega | (simp only [World.size_alloc];omega)));generalize wc69.heap.size = B7 at HA ⊢;subst hN7)
          | (obtain ⟨N7, hN7⟩ : ∃ N, N = wc69.heap.size := ⟨_, rfl⟩;have HA : After N7 wc74 (wc74.alloc (.cells #[.slice y75s0 y75n0 y75c0, .slice y75s1 y75n1 y75c1, .int .i64 y75v2] 43)) (wc74.heap.size) [.slice y75s0 y75n0 y75c0, .slice y75s1 y75n1 y75c1, .int .i64 y75v2] 43 := after_new (by omega);generalize wc74.alloc (.cells #[.slice y75s0 y75n0 y75c0, .slice y75s1 y75n1 y75c1, .int .i64 y75v2] 43) = wm83 at HA ⊢;have h16 := howc74.kept (HA.kept _ _ (by first | omega | (simp only [World.size_alloc];omega)));generalize wc74.heap.size = B7 at HA ⊢;subst hN7)
        all_goals have F : Blk wm83 B7 [.slice y75s0 y75n0 y75c0, .slice y75s1 y75n1 y75c1, .int .i64 y75v2] 43 ∧ Below wc69.heap.size wc69 wm83 ∧ (∃ lo hi, hi ≤ wm83.heap.size ∧ OwnS lo hi wm83 (.agg #[.slice y75s0 y75n0 y75c0, .slice y75s1 y75n1 y75c1, .int .i64 y75v2]) (stpS g0 g1)) ∧ wc69.heap.size ≤ B7 ∧ B7 < wm83.heap.size := ⟨HA.blk, hBwc70.trans ((hBwc72.mono hBwc70.size).trans ((hBwc74.mono (Nat.le_trans hBwc70.size hBwc72.size)).trans HA.bel)), ⟨_, _, HA.size, h16⟩, HA.le, HA.blk.lt⟩
        all_goals clear HA h16 howc70 howc72 howc74
        all_goals revert x71s0 x71n0 x71c0 x71s1 x71n1 x71c1 x71s2 x71n2 x71c2 x73s0 x73n0 x73c0 x73s1 x73n1 x73c1 x73v2 y75s0 y75n0 y75c0 y75s1 y75n1 y75c1 y75v2 wm83 B7 F
        all_goals exact hp.out
      intro x71s0 x71n0 x71c0 x71s1 x71n1 x71c1 x71s2 x71n2 x71c2 x73s0 x73n0 x73c0 x73s1 x73n1 x73c1 x73v2 y75s0 y75n0 y75c0 y75s1 y75n1 y75c1 y75v2 wm83 B7 F
      obtain ⟨HW, hbwm83, ⟨lo7, hi7, hhi7, howc74⟩, hBB7, hlB7⟩ := F
      have howc70 := howc74
      have howc72 := howc74
      have cf84 : wm83.cell? ⟨B7, 0, none⟩ = some (.slice y75s0 y75n0 y75c0) := HW.cell 0 rfl
      have cf85 : wm83.cell? ⟨B7, 1, none⟩ = some (.slice y75s1 y75n1 y75c1) := HW.cell 1 rfl
      have cf86 : wm83.cell? ⟨B7, 2, none⟩ = some (.int .i64 y75v2) := HW.cell 2 rfl
      replace cf4 := cell_b cf4 hbwm83
      replace cf5 := cell_b cf5 hbwm83
      replace cf6 := cell_b cf6 hbwm83
      replace cf7 := cell_b cf7 hbwm83
      replace cf8 := cell_b cf8 hbwm83
      replace cf9 := cell_b cf9 hbwm83
      replace cf22 := cell_b cf22 hbwm83
      replace cf23 := cell_b cf23 hbwm83
      replace cf24 := cell_b cf24 hbwm83
      replace cf32 := cell_b cf32 hbwm83
      replace cf33 := cell_b cf33 hbwm83
      replace cf34 := cell_b cf34 hbwm83
      replace cf43 := cell_b cf43 hbwm83
      replace cf44 := cell_b cf44 hbwm83
      replace cf45 := cell_b cf45 hbwm83
      replace cf55 := cell_b cf55 hbwm83
      replace cf56 := cell_b cf56 hbwm83
      replace cf57 := cell_b cf57 hbwm83
      replace howc12 := howc12.below hbwm83
      replace howc14 := howc14.below hbwm83
      replace howc16 := howc16.below hbwm83
      replace howc59 := howc59.below hbwm83
      replace howc62 := howc62.below hbwm83
      replace hmwc65 := hmwc65.below hbwm83
      replace hmwc66 := hmwc66.below hbwm83
      replace hmwc68 := hmwc68.below hbwm83
      replace hbw := hbw.trans (hbwm83.mono hbw.size)
      have hzwm83 : wc69.heap.size ≤ wm83.heap.size := hbwm83.size
      clear HW
      go_wp2_with fail
      refine (eqS_any _ _ _ _ _ howc74.is howc16.is).mono ?_
      rw [tf_true rfl]
      rintro e wc87 ⟨rfl, hbwc87⟩
      replace cf4 := cell_b cf4 hbwc87
      replace cf5 := cell_b cf5 hbwc87
      replace cf6 := cell_b cf6 hbwc87
      replace cf7 := cell_b cf7 hbwc87
      replace cf8 := cell_b cf8 hbwc87
      replace cf9 := cell_b cf9 hbwc87
      replace cf22 := cell_b cf22 hbwc87
      replace cf23 := cell_b cf23 hbwc87
      replace cf24 := cell_b cf24 hbwc87
      replace cf32 := cell_b cf32 hbwc87
      replace cf33 := cell_b cf33 hbwc87
      replace cf34 := cell_b cf34 hbwc87
      replace cf43 := cell_b cf43 hbwc87
      replace cf44 := cell_b cf44 hbwc87
      replace cf45 := cell_b cf45 hbwc87
      replace cf55 := cell_b cf55 hbwc87
      replace cf56 := cell_b cf56 hbwc87
      replace cf57 := cell_b cf57 hbwc87
      replace cf84 := cell_b cf84 hbwc87
      replace cf85 := cell_b cf85 hbwc87
      replace cf86 := cell_b cf86 hbwc87
      replace howc12 := howc12.below hbwc87
      replace howc14 := howc14.below hbwc87
      replace howc16 := howc16.below hbwc87
      replace howc59 := howc59.below hbwc87
      replace howc62 := howc62.below hbwc87
      replace hmwc65 := hmwc65.below hbwc87
      replace hmwc66 := hmwc66.below hbwc87
      replace hmwc68 := hmwc68.below hbwc87
      replace howc70 := howc70.below hbwc87
      replace howc72 := howc72.below hbwc87
      replace howc74 := howc74.below hbwc87
      replace hbw : Below w.heap.size w wc87 := hbw.trans (hbwc87.mono hbw.size)
      have hzwc87 : wm83.heap.size ≤ wc87.heap.size := hbwc87.size
      go_wp2_with fail
      refine (heldS_any _ _ hmwc68.is (by omega) (by omega) (by omega)).mono ?_
      rintro e wc88 ⟨rfl, hbwc88⟩
      replace cf4 := cell_b cf4 hbwc88
      replace cf5 := cell_b cf5 hbwc88
      replace cf6 := cell_b cf6 hbwc88
      replace cf7 := cell_b cf7 hbwc88
      replace cf8 := cell_b cf8 hbwc88
      replace cf9 := cell_b cf9 hbwc88
      replace cf22 := cell_b cf22 hbwc88
      replace cf23 := cell_b cf23 hbwc88
      replace cf24 := cell_b cf24 hbwc88
      replace cf32 := cell_b cf32 hbwc88
      replace cf33 := cell_b cf33 hbwc88
      replace cf34 := cell_b cf34 hbwc88
      replace cf43 := cell_b cf43 hbwc88
      replace cf44 := cell_b cf44 hbwc88
      replace cf45 := cell_b cf45 hbwc88
      replace cf55 := cell_b cf55 hbwc88
      replace cf56 := cell_b cf56 hbwc88
      replace cf57 := cell_b cf57 hbwc88
      replace cf84 := cell_b cf84 hbwc88
      replace cf85 := cell_b cf85 hbwc88
      replace cf86 := cell_b cf86 hbwc88
      replace howc12 := howc12.below hbwc88
      replace howc14 := howc14.below hbwc88
      replace howc16 := howc16.below hbwc88
      replace howc59 := howc59.below hbwc88
      replace howc62 := howc62.below hbwc88
      replace hmwc65 := hmwc65.below hbwc88
      replace hmwc66 := hmwc66.below hbwc88
      replace hmwc68 := hmwc68.below hbwc88
      replace howc70 := howc70.below hbwc88
      replace howc72 := howc72.below hbwc88
      replace howc74 := howc74.below hbwc88
      replace hbw : Below w.heap.size w wc88 := hbw.trans (hbwc88.mono hbw.size)
      have hzwc88 : wc87.heap.size ≤ wc88.heap.size := hbwc88.size
      go_wp2_with fail
      go_ret
      exact ⟨rfl, hbw⟩
    · have hz_1 := lft_no (l := 1048576 - ((szP g0 : Nat) : Int)) (n := szS g1) (by omega)
      go_enter Try.func9, Try.ntmps9
      have hbw : Below w.heap.size w w := Below.refl _ _
      go_wp2_with fail
      generalize hqwm3 : (w.alloc (.cells #[.slice a0s0 a0n0 a0c0, .slice a0s1 a0n1 a0c1, .slice a0s2 a0n2 a0c2] 27)).alloc (.cells #[.slice a1s0 a1n0 a1c0, .slice a1s1 a1n1 a1c1, .int .i64 a1v2] 40) = wm3
      have hywm3 : wm3.heap.size = w.heap.size + 2 := by rw [← hqwm3];simp
      have hbwm3 : Below w.heap.size w wm3 := by rw [← hqwm3];exact (by repeat' (first | (with_reducible exact Below.refl _ _)|(with_reducible apply Below.alloc)|(with_reducible apply Below.drew)|(with_reducible apply below_drawn) | omega | (simp only [World.size_alloc, World.size_setCell, World.size_drew];omega)))
      have HQwm3_0 : Blk wm3 (w.heap.size) [.slice a0s0 a0n0 a0c0, .slice a0s1 a0n1 a0c1, .slice a0s2 a0n2 a0c2] 27 := by rw [← hqwm3];have hnew := blk_new w [.slice a0s0 a0n0 a0c0, .slice a0s1 a0n1 a0c1, .slice a0s2 a0n2 a0c2] 27;(try simp only [World.size_alloc] at hnew);exact (Blk.alloc hnew _)
      have cf4 : wm3.cell? ⟨w.heap.size, 0, none⟩ = some (.slice a0s0 a0n0 a0c0) := HQwm3_0.cell 0 rfl
      have cf5 : wm3.cell? ⟨w.heap.size, 1, none⟩ = some (.slice a0s1 a0n1 a0c1) := HQwm3_0.cell 1 rfl
      have cf6 : wm3.cell? ⟨w.heap.size, 2, none⟩ = some (.slice a0s2 a0n2 a0c2) := HQwm3_0.cell 2 rfl
      clear HQwm3_0
      have HQwm3_1 : Blk wm3 (w.heap.size + 1) [.slice a1s0 a1n0 a1c0, .slice a1s1 a1n1 a1c1, .int .i64 a1v2] 40 := by rw [← hqwm3];have hnew := blk_new (w.alloc (.cells #[.slice a0s0 a0n0 a0c0, .slice a0s1 a0n1 a0c1, .slice a0s2 a0n2 a0c2] 27)) [.slice a1s0 a1n0 a1c0, .slice a1s1 a1n1 a1c1, .int .i64 a1v2] 40;(try simp only [World.size_alloc] at hnew);exact hnew
      have cf7 : wm3.cell? ⟨w.heap.size + 1, 0, none⟩ = some (.slice a1s0 a1n0 a1c0) := HQwm3_1.cell 0 rfl
      have cf8 : wm3.cell? ⟨w.heap.size + 1, 1, none⟩ = some (.slice a1s1 a1n1 a1c1) := HQwm3_1.cell 1 rfl
      have cf9 : wm3.cell? ⟨w.heap.size + 1, 2, none⟩ = some (.int .i64 a1v2) := HQwm3_1.cell 2 rfl
      clear HQwm3_1
      clear hqwm3
      replace hbw : Below w.heap.size w wm3 := hbw.trans (hbwm3.mono hbw.size)
      have hzwm3 : w.heap.size ≤ wm3.heap.size := hbwm3.size
      refine (szP_any _ _ _ _ (h0.below hbw) (by omega) (by omega)).mono ?_
      rw [hz_0]
      rintro e wc10 ⟨rfl, hbwc10⟩
      replace cf4 := cell_b cf4 hbwc10
      replace cf5 := cell_b cf5 hbwc10
      replace cf6 := cell_b cf6 hbwc10
      replace cf7 := cell_b cf7 hbwc10
      replace cf8 := cell_b cf8 hbwc10
      replace cf9 := cell_b cf9 hbwc10
      replace hbw : Below w.heap.size w wc10 := hbw.trans (hbwc10.mono hbw.size)
      have hzwc10 : wm3.heap.size ≤ wc10.heap.size := hbwc10.size
      go_wp2_with fail
      refine (szS_any _ _ _ _ (h1.below hbw) (by omega) (by omega)).mono ?_
      rw [hz_1]
      rintro e wc11 ⟨rfl, hbwc11⟩
      replace cf4 := cell_b cf4 hbwc11
      replace cf5 := cell_b cf5 hbwc11
      replace cf6 := cell_b cf6 hbwc11
      replace cf7 := cell_b cf7 hbwc11
      replace cf8 := cell_b cf8 hbwc11
      replace cf9 := cell_b cf9 hbwc11
      replace hbw : Below w.heap.size w wc11 := hbw.trans (hbwc11.mono hbw.size)
      have hzwc11 : wc10.heap.size ≤ wc11.heap.size := hbwc11.size
      go_wp2_with fail
      go_ret
      exact ⟨rfl, hbw⟩
  · have hz_0 := lft_no (l := 1048576) (n := szP g0) (by omega)
    go_enter Try.func9, Try.ntmps9
    have hbw : Below w.heap.size w w := Below.refl _ _
    go_wp2_with fail
    generalize hqwm3 : (w.alloc (.cells #[.slice a0s0 a0n0 a0c0, .slice a0s1 a0n1 a0c1, .slice a0s2 a0n2 a0c2] 27)).alloc (.cells #[.slice a1s0 a1n0 a1c0, .slice a1s1 a1n1 a1c1, .int .i64 a1v2] 40) = wm3
    have hywm3 : wm3.heap.size = w.heap.size + 2 := by rw [← hqwm3];simp
    have hbwm3 : Below w.heap.size w wm3 := by rw [← hqwm3];exact (by repeat' (first | (with_reducible exact Below.refl _ _)|(with_reducible apply Below.alloc)|(with_reducible apply Below.drew)|(with_reducible apply below_drawn) | omega | (simp only [World.size_alloc, World.size_setCell, World.size_drew];omega)))
    have HQwm3_0 : Blk wm3 (w.heap.size) [.slice a0s0 a0n0 a0c0, .slice a0s1 a0n1 a0c1, .slice a0s2 a0n2 a0c2] 27 := by rw [← hqwm3];have hnew := blk_new w [.slice a0s0 a0n0 a0c0, .slice a0s1 a0n1 a0c1, .slice a0s2 a0n2 a0c2] 27;(try simp only [World.size_alloc] at hnew);exact (Blk.alloc hnew _)
    have cf4 : wm3.cell? ⟨w.heap.size, 0, none⟩ = some (.slice a0s0 a0n0 a0c0) := HQwm3_0.cell 0 rfl
    have cf5 : wm3.cell? ⟨w.heap.size, 1, none⟩ = some (.slice a0s1 a0n1 a0c1) := HQwm3_0.cell 1 rfl
    have cf6 : wm3.cell? ⟨w.heap.size, 2, none⟩ = some (.slice a0s2 a0n2 a0c2) := HQwm3_0.cell 2 rfl
    clear HQwm3_0
    have HQwm3_1 : Blk wm3 (w.heap.size + 1) [.slice a1s0 a1n0 a1c0, .slice a1s1 a1n1 a1c1, .int .i64 a1v2] 40 := by rw [← hqwm3];have hnew := blk_new (w.alloc (.cells #[.slice a0s0 a0n0 a0c0, .slice a0s1 a0n1 a0c1, .slice a0s2 a0n2 a0c2] 27)) [.slice a1s0 a1n0 a1c0, .slice a1s1 a1n1 a1c1, .int .i64 a1v2] 40;(try simp only [World.size_alloc] at hnew);exact hnew
    have cf7 : wm3.cell? ⟨w.heap.size + 1, 0, none⟩ = some (.slice a1s0 a1n0 a1c0) := HQwm3_1.cell 0 rfl
    have cf8 : wm3.cell? ⟨w.heap.size + 1, 1, none⟩ = some (.slice a1s1 a1n1 a1c1) := HQwm3_1.cell 1 rfl
    have cf9 : wm3.cell? ⟨w.heap.size + 1, 2, none⟩ = some (.int .i64 a1v2) := HQwm3_1.cell 2 rfl
    clear HQwm3_1
    clear hqwm3
    replace hbw : Below w.heap.size w wm3 := hbw.trans (hbwm3.mono hbw.size)
    have hzwm3 : w.heap.size ≤ wm3.heap.size := hbwm3.size
    refine (szP_any _ _ _ _ (h0.below hbw) (by omega) (by omega)).mono ?_
    rw [hz_0]
    rintro e wc10 ⟨rfl, hbwc10⟩
    replace cf4 := cell_b cf4 hbwc10
    replace cf5 := cell_b cf5 hbwc10
    replace cf6 := cell_b cf6 hbwc10
    replace cf7 := cell_b cf7 hbwc10
    replace cf8 := cell_b cf8 hbwc10
    replace cf9 := cell_b cf9 hbwc10
    replace hbw : Below w.heap.size w wc10 := hbw.trans (hbwc10.mono hbw.size)
    have hzwc10 : wm3.heap.size ≤ wc10.heap.size := hbwc10.size
    go_wp2_with fail
    go_ret
    exact ⟨rfl, hbw⟩
open Go.ChangeShapes Go.WideShapes Go.ChangeAt
theorem rec : ∀ t ∈ Try.f9.params.toList, Try.prog.readableRec t = true ∧ t < Try.prog.types.size := by
  rw [Try.params9]
  intro t ht
  simp only [List.mem_cons, List.not_mem_nil, or_false] at ht
  rcases ht with rfl | rfl
  all_goals exact ⟨by kernel_rfl, of_decide_eq_true (by kernel_rfl)⟩
set_option maxRecDepth 100000 in
theorem lifted (os : Os) (started : os.Started) (H : Type) (enc : TypeId × Value → H) :
    ReturnsInHanded {} Try.checked os 9 .any (Rows.fnExactPromoteStepSpec.pre6 enc Try.prog Try.f9 Rows.fnExactPromoteStepRow.domain false) (Rows.fnExactPromoteStepSpec.post enc Try.prog Try.f9 false true false false) := by
  refine returnsInHanded_of_change (C := Try.checked) own started (by kernel_rfl) Try.func9
    (ChangeSpec.witness6 (enc := enc) (C := Try.checked) false ⟨#[], #[.agg #[.slice none 0 0, .slice none 0 0, .slice none 0 0], .agg #[.slice none 0 0, .slice none 0 0, .int .i64 0]], []⟩ 8 (by kernel_rfl) (by kernel_rfl) (by kernel_rfl) (by kernel_rfl)) ?_
  intro W base args ds gs before hval0 hW hcnd _
  have hval : ∀ (j : Nat) t v, Try.f9.params[j]? = some t → args[j]? = some v → Value.okWide Try.prog W .any base t v := hval0
  have hW' := hW
  obtain ⟨p, q, hA0, hV, rfl, hfz, hnd⟩ := hW
  have hA : DataW.TrodAll enc Try.prog W 0 (fun _ => true) true Try.f9.params.toList args.toList ds p := hA0
  rw [Try.params9] at hA hval
  obtain ⟨v0, vs0, d0, ds0, p0, q0, hargs, rfl, rfl, t0, r0⟩ := trodAll_cons hA
  obtain ⟨v1, vs1, d1, ds1, p1, q1, rfl, rfl, rfl, t1, r1⟩ := trodAll_cons r0
  obtain ⟨rfl, rfl, rfl⟩ := trodAll_nil r1
  obtain rfl : args = #[v0, v1] := by cases args;simp_all
  obtain ⟨rfl, rfl⟩ := trodVars_none hV
  obtain ⟨g0, h0, wf0⟩ := openP (hval 0 _ v0 rfl rfl) t0
  obtain ⟨g1, h1, wf1⟩ := openS (hval 1 _ v1 rfl rfl) t1
  clear hA0 hval0
  refine (walk v0 g0 v1 g1 W h0 h1 wf0 wf1).mono fun e W' ⟨he, hb⟩ => ?_
  subst he
  exact ⟨_, rfl, law_post laid rec (by kernel_rfl) rfl rfl hW' hb⟩
theorem over : Rows.fnExactPromoteStepRow.holds Try.pinned (OpenSpec.ofChange Rows.fnExactPromoteStepSpec) :=
  OpenClaim.holds_of_wide 9 Try.f9 rfl rfl rfl rfl rfl rfl rfl ⟨rfl, rfl, rfl, rfl, rfl⟩ rfl rfl rfl rfl rfl (by kernel_rfl) Try.func9 (by kernel_rfl)
    (of_decide_eq_true (by kernel_rfl)) (by unfold Func.isWrapper;first | (rw [if_pos (by decide +kernel)];kernel_rfl)|(rw [if_neg (by decide +kernel)];exact ⟨rfl, rfl⟩))
    (fun os started H enc _ => lifted os started H enc)
theorem proved : Rows.FnExactPromoteStepSaid := over
#print axioms proved
end Go.Proofs.Ytfmnikiinfbanaa.fnExactPromoteStep
