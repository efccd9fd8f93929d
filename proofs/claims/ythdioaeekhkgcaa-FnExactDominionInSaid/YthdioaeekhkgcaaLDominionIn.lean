/-
  For every input the law FnExactDominionIn returns true and leaves its arguments as they were: the program's DominionIn returns what the reference's returns. No condition.
-/
import Derived.Test.YthdioaeekhkgcaaLaw
import Derived.Test.YthdioaeekhkgcaaL2
import Derived.Test.YthdioaeekhkgcaaCb
namespace Go.Proofs.Ythdioaeekhkgcaa.fnExactDominionIn
set_option linter.unusedVariables false
set_option linter.unusedSimpArgs false
open Go.RowKit
attribute [local go_sem ↓] Go.wp_at_zero Go.wp_at_succ

set_option maxRecDepth 100000 in
set_option maxHeartbeats 4000000 in
theorem walk (u0 : Value) (g0 : Pa) (g1 : Int) (u2 : Value) (g2 : List Int) (w : World) (h0 : IsP w u0 g0) (h2 : IsI w u2 g2) (wf0 : WfP g0) (wf1 : (Lit.int .i64 g1).wf = true) (wf2 : Wf g2) : Calls Try.prog 4 #[u0, .int .i64 g1, u2] w (Bb w true) := by
  obtain ⟨a0s0, a0n0, a0c0, a0s1, a0n1, a0c1, a0s2, a0n2, a0c2, rfl⟩ := h0.form
  obtain ⟨a2s0, a2n0, a2c0, rfl⟩ := h2.form
  have hl2 : a2n0 ≤ 9223372036854775807 := h2.len_le
  have he2 := Lib.hid h2.len_eq
  by_cases hn_2 : a2n0 ≤ 1048576
  · by_cases hn_0 : ((szP g0 : Nat) : Int) ≤ 1048576
    · have hz_0 := lft_ok hn_0
      replace hn_0 : szP g0 ≤ 1048576 - (0) := by omega
      have hp_0 : (0 : Int) ≤ 1048576 - ((szP g0 : Nat) : Int) := by omega
      go_enter Try.func4, Try.ntmps4
      have hbw : Below w.heap.size w w := Below.refl _ _
      go_wp2_with fail
      generalize hqwm2 : w.alloc (.cells #[.slice a0s0 a0n0 a0c0, .slice a0s1 a0n1 a0c1, .slice a0s2 a0n2 a0c2] 27) = wm2
      have hywm2 : wm2.heap.size = w.heap.size + 1 := by rw [← hqwm2]; simp
      have hbwm2 : Below w.heap.size w wm2 := by rw [← hqwm2]; exact (by repeat' (first | (with_reducible exact Below.refl _ _) | (with_reducible apply Below.alloc) | (with_reducible apply Below.drew) | (with_reducible apply below_drawn) | omega | (simp only [World.size_alloc, World.size_setCell, World.size_drew]; omega)))
      have HQwm2_0 : Blk wm2 (w.heap.size) [.slice a0s0 a0n0 a0c0, .slice a0s1 a0n1 a0c1, .slice a0s2 a0n2 a0c2] 27 := by rw [← hqwm2]; have hnew := blk_new w [.slice a0s0 a0n0 a0c0, .slice a0s1 a0n1 a0c1, .slice a0s2 a0n2 a0c2] 27; (try simp only [World.size_alloc] at hnew); exact hnew
      have cf3 : wm2.cell? ⟨w.heap.size, 0, none⟩ = some (.slice a0s0 a0n0 a0c0) := HQwm2_0.cell 0 rfl
      have cf4 : wm2.cell? ⟨w.heap.size, 1, none⟩ = some (.slice a0s1 a0n1 a0c1) := HQwm2_0.cell 1 rfl
      have cf5 : wm2.cell? ⟨w.heap.size, 2, none⟩ = some (.slice a0s2 a0n2 a0c2) := HQwm2_0.cell 2 rfl
      clear HQwm2_0
      clear hqwm2
      replace hbw : Below w.heap.size w wm2 := hbw.trans (hbwm2.mono hbw.size)
      have hzwm2 : w.heap.size ≤ wm2.heap.size := hbwm2.size
      refine (szP_any _ _ _ _ (h0.below hbw) (by omega) (by omega)).mono ?_
      rw [hz_0]
      rintro e wc6 ⟨rfl, hbwc6⟩
      replace cf3 := cell_b cf3 hbwc6
      replace cf4 := cell_b cf4 hbwc6
      replace cf5 := cell_b cf5 hbwc6
      replace hbw : Below w.heap.size w wc6 := hbw.trans (hbwc6.mono hbw.size)
      have hzwc6 : wm2.heap.size ≤ wc6.heap.size := hbwc6.size
      go_wp2_with fail
      refine (toP_any _ _ _ (h0.below hbw) (by omega)).mono ?_
      rintro e wc7 ⟨x8s0, x8n0, x8c0, x8s1, x8n1, x8c1, x8s2, x8n2, x8c2, rfl, howc7, hbwc7⟩
      replace howc7 : OwnP wc6.heap.size wc7.heap.size wc7 (.agg #[.slice x8s0 x8n0 x8c0, .slice x8s1 x8n1 x8c1, .slice x8s2 x8n2 x8c2]) g0 := howc7
      replace cf3 := cell_b cf3 hbwc7
      replace cf4 := cell_b cf4 hbwc7
      replace cf5 := cell_b cf5 hbwc7
      replace hbw : Below w.heap.size w wc7 := hbw.trans (hbwc7.mono hbw.size)
      have hzwc7 : wc6.heap.size ≤ wc7.heap.size := hbwc7.size
      go_wp2_with fail
      refine (toI_any' (h2.below hbw) hn_2).mono ?_
      rintro e wc9 ⟨x10s0, x10n0, x10c0, rfl, howc9, hbwc9⟩
      replace howc9 : OwnI wc7.heap.size wc9.heap.size wc9 (.slice x10s0 x10n0 x10c0) g2 := howc9
      replace cf3 := cell_b cf3 hbwc9
      replace cf4 := cell_b cf4 hbwc9
      replace cf5 := cell_b cf5 hbwc9
      replace howc7 := howc7.below hbwc9
      replace hbw : Below w.heap.size w wc9 := hbw.trans (hbwc9.mono hbw.size)
      have hzwc9 : wc7.heap.size ≤ wc9.heap.size := hbwc9.size
      go_wp2_with fail
      refine (domIn_s _ _ _ _ _ _ howc7.is howc9.is (len_hid he2 hn_2)).mono ?_
      rintro e wc11 ⟨rfl, hbwc11⟩
      replace cf3 := cell_b cf3 hbwc11
      replace cf4 := cell_b cf4 hbwc11
      replace cf5 := cell_b cf5 hbwc11
      replace howc7 := howc7.below hbwc11
      replace howc9 := howc9.below hbwc11
      replace hbw : Below w.heap.size w wc11 := hbw.trans (hbwc11.mono hbw.size)
      have hzwc11 : wc9.heap.size ≤ wc11.heap.size := hbwc11.size
      go_wp2_with fail
      refine (toP_any _ _ _ (h0.below hbw) (by omega)).mono ?_
      rintro e wc12 ⟨x13s0, x13n0, x13c0, x13s1, x13n1, x13c1, x13s2, x13n2, x13c2, rfl, howc12, hbwc12⟩
      replace howc12 : OwnP wc11.heap.size wc12.heap.size wc12 (.agg #[.slice x13s0 x13n0 x13c0, .slice x13s1 x13n1 x13c1, .slice x13s2 x13n2 x13c2]) g0 := howc12
      replace cf3 := cell_b cf3 hbwc12
      replace cf4 := cell_b cf4 hbwc12
      replace cf5 := cell_b cf5 hbwc12
      replace howc7 := howc7.below hbwc12
      replace howc9 := howc9.below hbwc12
      replace hbw : Below w.heap.size w wc12 := hbw.trans (hbwc12.mono hbw.size)
      have hzwc12 : wc11.heap.size ≤ wc12.heap.size := hbwc12.size
      have hl15 : w.heap.size < wc12.heap.size := by omega
      go_wp2_with fail
      generalize hqwm16 : wc12.alloc (.cells #[.slice x13s0 x13n0 x13c0, .slice x13s1 x13n1 x13c1, .slice x13s2 x13n2 x13c2] 32) = wm16
      have hywm16 : wm16.heap.size = wc12.heap.size + 1 := by rw [← hqwm16]; simp
      have hbwm16 : Below wc12.heap.size wc12 wm16 := by rw [← hqwm16]; exact (by repeat' (first | (with_reducible exact Below.refl _ _) | (with_reducible apply Below.alloc) | (with_reducible apply Below.drew) | (with_reducible apply below_drawn) | omega | (simp only [World.size_alloc, World.size_setCell, World.size_drew]; omega)))
      have HQwm16_0 : Blk wm16 (wc12.heap.size) [.slice x13s0 x13n0 x13c0, .slice x13s1 x13n1 x13c1, .slice x13s2 x13n2 x13c2] 32 := by rw [← hqwm16]; have hnew := blk_new wc12 [.slice x13s0 x13n0 x13c0, .slice x13s1 x13n1 x13c1, .slice x13s2 x13n2 x13c2] 32; (try simp only [World.size_alloc] at hnew); exact hnew
      have cf17 : wm16.cell? ⟨wc12.heap.size, 0, none⟩ = some (.slice x13s0 x13n0 x13c0) := HQwm16_0.cell 0 rfl
      have cf18 : wm16.cell? ⟨wc12.heap.size, 1, none⟩ = some (.slice x13s1 x13n1 x13c1) := HQwm16_0.cell 1 rfl
      have cf19 : wm16.cell? ⟨wc12.heap.size, 2, none⟩ = some (.slice x13s2 x13n2 x13c2) := HQwm16_0.cell 2 rfl
      clear HQwm16_0
      clear hqwm16
      replace cf3 := cell_b cf3 hbwm16
      replace cf4 := cell_b cf4 hbwm16
      replace cf5 := cell_b cf5 hbwm16
      replace howc7 := howc7.below hbwm16
      replace howc9 := howc9.below hbwm16
      replace howc12 := howc12.below hbwm16
      replace hbw : Below w.heap.size w wm16 := hbw.trans (hbwm16.mono hbw.size)
      have hzwm16 : wc12.heap.size ≤ wm16.heap.size := hbwm16.size
      refine (toI_any' (h2.below hbw) hn_2).mono ?_
      rintro e wc20 ⟨x21s0, x21n0, x21c0, rfl, howc20, hbwc20⟩
      replace howc20 : OwnI wm16.heap.size wc20.heap.size wc20 (.slice x21s0 x21n0 x21c0) g2 := howc20
      replace cf3 := cell_b cf3 hbwc20
      replace cf4 := cell_b cf4 hbwc20
      replace cf5 := cell_b cf5 hbwc20
      replace cf17 := cell_b cf17 hbwc20
      replace cf18 := cell_b cf18 hbwc20
      replace cf19 := cell_b cf19 hbwc20
      replace howc7 := howc7.below hbwc20
      replace howc9 := howc9.below hbwc20
      replace howc12 := howc12.below hbwc20
      replace hbw : Below w.heap.size w wc20 := hbw.trans (hbwc20.mono hbw.size)
      have hzwc20 : wm16.heap.size ≤ wc20.heap.size := hbwc20.size
      go_wp2_with fail
      refine (domIn_i _ _ _ _ _ _ howc12.is howc20.is (len_hid he2 hn_2)).mono ?_
      rintro e wc22 ⟨rfl, hbwc22⟩
      replace cf3 := cell_b cf3 hbwc22
      replace cf4 := cell_b cf4 hbwc22
      replace cf5 := cell_b cf5 hbwc22
      replace cf17 := cell_b cf17 hbwc22
      replace cf18 := cell_b cf18 hbwc22
      replace cf19 := cell_b cf19 hbwc22
      replace howc7 := howc7.below hbwc22
      replace howc9 := howc9.below hbwc22
      replace howc12 := howc12.below hbwc22
      replace howc20 := howc20.below hbwc22
      replace hbw : Below w.heap.size w wc22 := hbw.trans (hbwc22.mono hbw.size)
      have hzwc22 : wc20.heap.size ≤ wc22.heap.size := hbwc22.size
      go_wp2_with fail
      go_region_held3 (fun w' => w'.cell? ⟨wc12.heap.size, 0, none⟩ = some (.slice x13s0 x13n0 x13c0) ∧ w'.cell? ⟨wc12.heap.size, 1, none⟩ = some (.slice x13s1 x13n1 x13c1) ∧ w'.cell? ⟨wc12.heap.size, 2, none⟩ = some (.slice x13s2 x13n2 x13c2) ∧ w'.cell? ⟨w.heap.size, 0, none⟩ = some (.slice a0s0 a0n0 a0c0) ∧ w'.cell? ⟨w.heap.size, 1, none⟩ = some (.slice a0s1 a0n1 a0c1) ∧ w'.cell? ⟨w.heap.size, 2, none⟩ = some (.slice a0s2 a0n2 a0c2)) (first | exact ⟨cf17, cf18, cf19, cf3, cf4, cf5⟩ | go_keep)
        (first
          | (go_at_call 17; (with_reducible refine (toP_any _ _ _ ((h0.below hbw)).drew (by omega)).mono ?_); rintro e wc23 ⟨x24s0, x24n0, x24c0, x24s1, x24n1, x24c1, x24s2, x24n2, x24c2, rfl, howc23, hbwc23⟩; replace howc23 : OwnP wc22.heap.size wc23.heap.size wc23 (.agg #[.slice x24s0 x24n0 x24c0, .slice x24s1 x24n1 x24c1, .slice x24s2 x24n2 x24c2]) g0 := howc23; replace hbwc23 : Below wc22.heap.size wc22 wc23 := (below_drew _).trans hbwc23; replace cf3 := cell_b cf3 hbwc23; replace cf4 := cell_b cf4 hbwc23; replace cf5 := cell_b cf5 hbwc23; replace cf17 := cell_b cf17 hbwc23; replace cf18 := cell_b cf18 hbwc23; replace cf19 := cell_b cf19 hbwc23; replace howc7 := howc7.below hbwc23; replace howc9 := howc9.below hbwc23; replace howc12 := howc12.below hbwc23; replace howc20 := howc20.below hbwc23; replace hbw : Below w.heap.size w wc23 := hbw.trans (hbwc23.mono hbw.size); have hzwc23 : wc22.heap.size ≤ wc23.heap.size := hbwc23.size)
          | (go_at_call 19; (with_reducible refine (eqP_any _ _ _ _ _ howc12.is howc23.is).mono ?_); rw [tf_true rfl]; rintro e wc25 ⟨rfl, hbwc25⟩; replace cf3 := cell_b cf3 hbwc25; replace cf4 := cell_b cf4 hbwc25; replace cf5 := cell_b cf5 hbwc25; replace cf17 := cell_b cf17 hbwc25; replace cf18 := cell_b cf18 hbwc25; replace cf19 := cell_b cf19 hbwc25; replace howc7 := howc7.below hbwc25; replace howc9 := howc9.below hbwc25; replace howc12 := howc12.below hbwc25; replace howc20 := howc20.below hbwc25; replace howc23 := howc23.below hbwc25; replace hbw : Below w.heap.size w wc25 := hbw.trans (hbwc25.mono hbw.size); have hzwc25 : wc23.heap.size ≤ wc25.heap.size := hbwc25.size))
      go_wp2_with fail
      refine (toI_any' (h2.below hbw) hn_2).mono ?_
      rintro e wc26 ⟨x27s0, x27n0, x27c0, rfl, howc26, hbwc26⟩
      replace howc26 : OwnI wc25.heap.size wc26.heap.size wc26 (.slice x27s0 x27n0 x27c0) g2 := howc26
      replace cf3 := cell_b cf3 hbwc26
      replace cf4 := cell_b cf4 hbwc26
      replace cf5 := cell_b cf5 hbwc26
      replace cf17 := cell_b cf17 hbwc26
      replace cf18 := cell_b cf18 hbwc26
      replace cf19 := cell_b cf19 hbwc26
      replace howc7 := howc7.below hbwc26
      replace howc9 := howc9.below hbwc26
      replace howc12 := howc12.below hbwc26
      replace howc20 := howc20.below hbwc26
      replace howc23 := howc23.below hbwc26
      replace hbw : Below w.heap.size w wc26 := hbw.trans (hbwc26.mono hbw.size)
      have hzwc26 : wc25.heap.size ≤ wc26.heap.size := hbwc26.size
      go_wp2_with fail
      refine (eqI_any' howc20.is howc26.is).mono ?_
      rw [tf_true rfl]
      rintro e wc28 ⟨rfl, hbwc28⟩
      replace cf3 := cell_b cf3 hbwc28
      replace cf4 := cell_b cf4 hbwc28
      replace cf5 := cell_b cf5 hbwc28
      replace cf17 := cell_b cf17 hbwc28
      replace cf18 := cell_b cf18 hbwc28
      replace cf19 := cell_b cf19 hbwc28
      replace howc7 := howc7.below hbwc28
      replace howc9 := howc9.below hbwc28
      replace howc12 := howc12.below hbwc28
      replace howc20 := howc20.below hbwc28
      replace howc23 := howc23.below hbwc28
      replace howc26 := howc26.below hbwc28
      replace hbw : Below w.heap.size w wc28 := hbw.trans (hbwc28.mono hbw.size)
      have hzwc28 : wc26.heap.size ≤ wc28.heap.size := hbwc28.size
      go_wp2_with fail
      go_ret
      exact ⟨rfl, hbw⟩
    · have hz_0 := lft_no (l := 1048576) (n := szP g0) (by omega)
      go_enter Try.func4, Try.ntmps4
      have hbw : Below w.heap.size w w := Below.refl _ _
      go_wp2_with fail
      generalize hqwm2 : w.alloc (.cells #[.slice a0s0 a0n0 a0c0, .slice a0s1 a0n1 a0c1, .slice a0s2 a0n2 a0c2] 27) = wm2
      have hywm2 : wm2.heap.size = w.heap.size + 1 := by rw [← hqwm2]; simp
      have hbwm2 : Below w.heap.size w wm2 := by rw [← hqwm2]; exact (by repeat' (first | (with_reducible exact Below.refl _ _) | (with_reducible apply Below.alloc) | (with_reducible apply Below.drew) | (with_reducible apply below_drawn) | omega | (simp only [World.size_alloc, World.size_setCell, World.size_drew]; omega)))
      have HQwm2_0 : Blk wm2 (w.heap.size) [.slice a0s0 a0n0 a0c0, .slice a0s1 a0n1 a0c1, .slice a0s2 a0n2 a0c2] 27 := by rw [← hqwm2]; have hnew := blk_new w [.slice a0s0 a0n0 a0c0, .slice a0s1 a0n1 a0c1, .slice a0s2 a0n2 a0c2] 27; (try simp only [World.size_alloc] at hnew); exact hnew
      have cf3 : wm2.cell? ⟨w.heap.size, 0, none⟩ = some (.slice a0s0 a0n0 a0c0) := HQwm2_0.cell 0 rfl
      have cf4 : wm2.cell? ⟨w.heap.size, 1, none⟩ = some (.slice a0s1 a0n1 a0c1) := HQwm2_0.cell 1 rfl
      have cf5 : wm2.cell? ⟨w.heap.size, 2, none⟩ = some (.slice a0s2 a0n2 a0c2) := HQwm2_0.cell 2 rfl
      clear HQwm2_0
      clear hqwm2
      replace hbw : Below w.heap.size w wm2 := hbw.trans (hbwm2.mono hbw.size)
      have hzwm2 : w.heap.size ≤ wm2.heap.size := hbwm2.size
      refine (szP_any _ _ _ _ (h0.below hbw) (by omega) (by omega)).mono ?_
      rw [hz_0]
      rintro e wc6 ⟨rfl, hbwc6⟩
      replace cf3 := cell_b cf3 hbwc6
      replace cf4 := cell_b cf4 hbwc6
      replace cf5 := cell_b cf5 hbwc6
      replace hbw : Below w.heap.size w wc6 := hbw.trans (hbwc6.mono hbw.size)
      have hzwc6 : wm2.heap.size ≤ wc6.heap.size := hbwc6.size
      go_wp2_with fail
      go_ret
      exact ⟨rfl, hbw⟩
  · go_enter Try.func4, Try.ntmps4
    have hbw : Below w.heap.size w w := Below.refl _ _
    go_wp2_with fail
    go_ret
    exact ⟨rfl, (by repeat' (first | (with_reducible exact Below.refl _ _) | (with_reducible assumption) | (with_reducible apply below_set) | (with_reducible apply Below.alloc) | (with_reducible apply Below.drew) | (with_reducible apply below_drawn) | (with_reducible refine Below.trans ?_ (Below.mono (by assumption) ?_)) | omega | (simp only [World.size_alloc, World.size_setCell, World.size_drew]; omega)))⟩

open Go.ChangeShapes Go.WideShapes Go.ChangeAt
theorem rec : ∀ t ∈ Try.f4.params.toList, Try.prog.readableRec t = true ∧ t < Try.prog.types.size := by
  rw [Try.params4]
  intro t ht
  simp only [List.mem_cons, List.not_mem_nil, or_false] at ht
  rcases ht with rfl | rfl | rfl
  all_goals exact ⟨by kernel_rfl, of_decide_eq_true (by kernel_rfl)⟩
set_option maxRecDepth 100000 in
theorem lifted (os : Os) (started : os.Started) (H : Type) (enc : TypeId × Value → H) :
    ReturnsInHanded {} Try.checked os 4 .any (Rows.fnExactDominionInSpec.pre6 enc Try.prog Try.f4 Rows.fnExactDominionInRow.domain false) (Rows.fnExactDominionInSpec.post enc Try.prog Try.f4 false true false false) := by
  refine returnsInHanded_of_change (C := Try.checked) own started (by kernel_rfl) Try.func4
    (ChangeSpec.witness6 (enc := enc) (C := Try.checked) false ⟨#[], #[.agg #[.slice none 0 0, .slice none 0 0, .slice none 0 0], .int .i64 0, .slice none 0 0], []⟩ 8 (by kernel_rfl) (by kernel_rfl) (by kernel_rfl) (by kernel_rfl)) ?_
  intro W base args ds gs before hval0 hW hcnd _
  have hval : ∀ (j : Nat) t v, Try.f4.params[j]? = some t → args[j]? = some v → Value.okWide Try.prog W .any base t v := hval0
  have hW' := hW
  obtain ⟨p, q, hA0, hV, rfl, hfz, hnd⟩ := hW
  have hA : DataW.TrodAll enc Try.prog W 0 (fun _ => true) true Try.f4.params.toList args.toList ds p := hA0
  rw [Try.params4] at hA hval
  obtain ⟨v0, vs0, d0, ds0, p0, q0, hargs, rfl, rfl, t0, r0⟩ := trodAll_cons hA
  obtain ⟨v1, vs1, d1, ds1, p1, q1, rfl, rfl, rfl, t1, r1⟩ := trodAll_cons r0
  obtain ⟨v2, vs2, d2, ds2, p2, q2, rfl, rfl, rfl, t2, r2⟩ := trodAll_cons r1
  obtain ⟨rfl, rfl, rfl⟩ := trodAll_nil r2
  obtain rfl : args = #[v0, v1, v2] := by cases args; simp_all
  obtain ⟨rfl, rfl⟩ := trodVars_none hV
  obtain ⟨g0, h0, wf0⟩ := openP (hval 0 _ v0 rfl rfl) t0
  obtain ⟨g1, rfl, -, -, wf1⟩ := open_int Try.underlying2 (hval 1 _ v1 rfl rfl) t1
  obtain ⟨g2, h2, wf2⟩ := openI1 (hval 2 _ v2 rfl rfl) t2
  clear hA0 hval0
  refine (walk v0 g0 g1 v2 g2 W h0 h2 wf0 wf1 wf2).mono fun e W' ⟨he, hb⟩ => ?_
  subst he
  exact ⟨_, rfl, law_post laid rec (by kernel_rfl) rfl rfl hW' hb⟩
theorem over : Rows.fnExactDominionInRow.holds Try.pinned (OpenSpec.ofChange Rows.fnExactDominionInSpec) :=
  OpenClaim.holds_of_wide 4 Try.f4 rfl rfl rfl rfl rfl rfl rfl ⟨rfl, rfl, rfl, rfl, rfl⟩ rfl rfl rfl rfl rfl (by kernel_rfl) Try.func4 (by kernel_rfl)
    (of_decide_eq_true (by kernel_rfl)) (by unfold Func.isWrapper; first | (rw [if_pos (by decide +kernel)]; kernel_rfl) | (rw [if_neg (by decide +kernel)]; exact ⟨rfl, rfl⟩))
    (fun os started H enc _ => lifted os started H enc)
theorem proved : Rows.FnExactDominionInSaid := over
#print axioms proved
end Go.Proofs.Ythdioaeekhkgcaa.fnExactDominionIn
