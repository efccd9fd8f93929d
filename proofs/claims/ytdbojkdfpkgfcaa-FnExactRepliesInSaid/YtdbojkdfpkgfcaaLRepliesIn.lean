/-
  For every input the law FnExactRepliesIn returns true and leaves its arguments as they were: the program's RepliesIn returns what the reference's returns. No condition.
-/
import Derived.Test.YtdbojkdfpkgfcaaLawX
import Derived.Test.YtdbojkdfpkgfcaaRepl
namespace Go.Proofs.Ytdbojkdfpkgfcaa.fnExactRepliesIn
set_option linter.unusedVariables false
set_option linter.unusedSimpArgs false
open Go.RowKit
attribute [local go_sem ↓] Go.wp_at_zero Go.wp_at_succ

set_option maxHeartbeats 4000000 in
theorem walk (u0 : Value) (g0 : Pa) (w : World) (h0 : IsP w u0 g0) (wf0 : WfP g0) : Calls Try.prog 5 #[u0] w (Bb w true) := by
  obtain ⟨a0s0, a0n0, a0c0, a0s1, a0n1, a0c1, a0s2, a0n2, a0c2, rfl⟩ := h0.form
  by_cases hn_0 : ((szP g0 : Nat) : Int) ≤ 1048576
  · have hz_0 := lft_ok hn_0
    replace hn_0 : szP g0 ≤ 1048576 - (0) := by omega
    have hp_0 : (0 : Int) ≤ 1048576 - ((szP g0 : Nat) : Int) := by omega
    go_enter Try.func5, Try.ntmps5
    have hbw : Below w.heap.size w w := Below.refl _ _
    go_wp2_with fail
    generalize hqwm2 : w.alloc (.cells #[.slice a0s0 a0n0 a0c0, .slice a0s1 a0n1 a0c1, .slice a0s2 a0n2 a0c2] 27) = wm2
    have hywm2 : wm2.heap.size = w.heap.size + 1 := by rw [← hqwm2]; simp
    have hbwm2 : Below w.heap.size w wm2 := by rw [← hqwm2]; exact (by repeat' (first | (with_reducible exact Below.refl _ _) | (with_reducible apply Below.alloc) | (with_reducible apply Below.drew) | (with_reducible apply below_drawn) | omega | (simp only [World.size_alloc, World.size_setCell, World.size_drew]; omega)))
    have cf3 : wm2.cell? ⟨w.heap.size, 0, none⟩ = some (.slice a0s0 a0n0 a0c0) := by rw [← hqwm2]; simp
    have cf4 : wm2.cell? ⟨w.heap.size, 1, none⟩ = some (.slice a0s1 a0n1 a0c1) := by rw [← hqwm2]; simp
    have cf5 : wm2.cell? ⟨w.heap.size, 2, none⟩ = some (.slice a0s2 a0n2 a0c2) := by rw [← hqwm2]; simp
    clear hqwm2
    replace hbw : Below w.heap.size w wm2 := hbw.trans (hbwm2.mono hbw.size)
    have hzwm2 : w.heap.size ≤ wm2.heap.size := hbwm2.size
    refine (szP_any _ _ _ _ (h0.below hbw) (by omega) (by omega)).mono ?_
    rw [hz_0]
    rintro e wc6 ⟨rfl, hbwc6⟩
    replace cf3 := cell_b cf3 hbwc6
    replace cf4 := cell_b cf4 hbwc6
    replace cf5 := cell_b cf5 hbwc6
    replace hbw : Below w.heap.size w wc6 := hbw.trans (hbwc6.mono hbw.size)
    have hzwc6 : wm2.heap.size ≤ wc6.heap.size := hbwc6.size
    go_wp2_with fail
    refine (toP_any _ _ _ (h0.below hbw) hn_0).mono ?_
    rintro e wc7 ⟨x8s0, x8n0, x8c0, x8s1, x8n1, x8c1, x8s2, x8n2, x8c2, rfl, howc7, hbwc7⟩
    replace howc7 : OwnP wc6.heap.size wc7.heap.size wc7 (.agg #[.slice x8s0 x8n0 x8c0, .slice x8s1 x8n1 x8c1, .slice x8s2 x8n2 x8c2]) g0 := howc7
    replace cf3 := cell_b cf3 hbwc7
    replace cf4 := cell_b cf4 hbwc7
    replace cf5 := cell_b cf5 hbwc7
    replace hbw : Below w.heap.size w wc7 := hbw.trans (hbwc7.mono hbw.size)
    have hzwc7 : wc6.heap.size ≤ wc7.heap.size := hbwc7.size
    go_wp2_with fail
    refine (replies_s _ _ _ howc7.is).mono ?_
    rintro e wc9 ⟨rfl, hbwc9⟩
    replace cf3 := cell_b cf3 hbwc9
    replace cf4 := cell_b cf4 hbwc9
    replace cf5 := cell_b cf5 hbwc9
    replace howc7 := howc7.below hbwc9
    replace hbw : Below w.heap.size w wc9 := hbw.trans (hbwc9.mono hbw.size)
    have hzwc9 : wc7.heap.size ≤ wc9.heap.size := hbwc9.size
    go_wp2_with fail
    refine (toP_any _ _ _ (h0.below hbw) hn_0).mono ?_
    rintro e wc10 ⟨x11s0, x11n0, x11c0, x11s1, x11n1, x11c1, x11s2, x11n2, x11c2, rfl, howc10, hbwc10⟩
    replace howc10 : OwnP wc9.heap.size wc10.heap.size wc10 (.agg #[.slice x11s0 x11n0 x11c0, .slice x11s1 x11n1 x11c1, .slice x11s2 x11n2 x11c2]) g0 := howc10
    replace cf3 := cell_b cf3 hbwc10
    replace cf4 := cell_b cf4 hbwc10
    replace cf5 := cell_b cf5 hbwc10
    replace howc7 := howc7.below hbwc10
    replace hbw : Below w.heap.size w wc10 := hbw.trans (hbwc10.mono hbw.size)
    have hzwc10 : wc9.heap.size ≤ wc10.heap.size := hbwc10.size
    go_wp2_with fail
    generalize hqwm13 : wc10.alloc (.cells #[.slice x11s0 x11n0 x11c0, .slice x11s1 x11n1 x11c1, .slice x11s2 x11n2 x11c2] 32) = wm13
    have hywm13 : wm13.heap.size = wc10.heap.size + 1 := by rw [← hqwm13]; simp
    have hbwm13 : Below wc10.heap.size wc10 wm13 := by rw [← hqwm13]; exact (by repeat' (first | (with_reducible exact Below.refl _ _) | (with_reducible apply Below.alloc) | (with_reducible apply Below.drew) | (with_reducible apply below_drawn) | omega | (simp only [World.size_alloc, World.size_setCell, World.size_drew]; omega)))
    have cf14 : wm13.cell? ⟨wc10.heap.size, 0, none⟩ = some (.slice x11s0 x11n0 x11c0) := by rw [← hqwm13]; simp
    have cf15 : wm13.cell? ⟨wc10.heap.size, 1, none⟩ = some (.slice x11s1 x11n1 x11c1) := by rw [← hqwm13]; simp
    have cf16 : wm13.cell? ⟨wc10.heap.size, 2, none⟩ = some (.slice x11s2 x11n2 x11c2) := by rw [← hqwm13]; simp
    clear hqwm13
    replace cf3 := cell_b cf3 hbwm13
    replace cf4 := cell_b cf4 hbwm13
    replace cf5 := cell_b cf5 hbwm13
    replace howc7 := howc7.below hbwm13
    replace howc10 := howc10.below hbwm13
    replace hbw : Below w.heap.size w wm13 := hbw.trans (hbwm13.mono hbw.size)
    have hzwm13 : wc10.heap.size ≤ wm13.heap.size := hbwm13.size
    refine (replies_i _ _ _ howc10.is).mono ?_
    rintro e wc17 ⟨rfl, hbwc17⟩
    replace cf3 := cell_b cf3 hbwc17
    replace cf4 := cell_b cf4 hbwc17
    replace cf5 := cell_b cf5 hbwc17
    replace cf14 := cell_b cf14 hbwc17
    replace cf15 := cell_b cf15 hbwc17
    replace cf16 := cell_b cf16 hbwc17
    replace howc7 := howc7.below hbwc17
    replace howc10 := howc10.below hbwc17
    replace hbw : Below w.heap.size w wc17 := hbw.trans (hbwc17.mono hbw.size)
    have hzwc17 : wm13.heap.size ≤ wc17.heap.size := hbwc17.size
    go_wp2_with fail
    go_region_held3 (fun w' => w'.cell? ⟨wc10.heap.size, 0, none⟩ = some (.slice x11s0 x11n0 x11c0) ∧ w'.cell? ⟨wc10.heap.size, 1, none⟩ = some (.slice x11s1 x11n1 x11c1) ∧ w'.cell? ⟨wc10.heap.size, 2, none⟩ = some (.slice x11s2 x11n2 x11c2) ∧ w'.cell? ⟨w.heap.size, 0, none⟩ = some (.slice a0s0 a0n0 a0c0) ∧ w'.cell? ⟨w.heap.size, 1, none⟩ = some (.slice a0s1 a0n1 a0c1) ∧ w'.cell? ⟨w.heap.size, 2, none⟩ = some (.slice a0s2 a0n2 a0c2)) (first | exact ⟨cf14, cf15, cf16, cf3, cf4, cf5⟩ | go_keep)
      (first
        | (go_at_call 17; refine (toP_any _ _ _ ((h0.below hbw)).drew hn_0).mono ?_; rintro e wc18 ⟨x19s0, x19n0, x19c0, x19s1, x19n1, x19c1, x19s2, x19n2, x19c2, rfl, howc18, hbwc18⟩; replace howc18 : OwnP wc17.heap.size wc18.heap.size wc18 (.agg #[.slice x19s0 x19n0 x19c0, .slice x19s1 x19n1 x19c1, .slice x19s2 x19n2 x19c2]) g0 := howc18; replace hbwc18 : Below wc17.heap.size wc17 wc18 := (below_drew _).trans hbwc18; replace cf3 := cell_b cf3 hbwc18; replace cf4 := cell_b cf4 hbwc18; replace cf5 := cell_b cf5 hbwc18; replace cf14 := cell_b cf14 hbwc18; replace cf15 := cell_b cf15 hbwc18; replace cf16 := cell_b cf16 hbwc18; replace howc7 := howc7.below hbwc18; replace howc10 := howc10.below hbwc18; replace hbw : Below w.heap.size w wc18 := hbw.trans (hbwc18.mono hbw.size); have hzwc18 : wc17.heap.size ≤ wc18.heap.size := hbwc18.size)
        | (go_at_call 19; refine (eqP_any _ _ _ _ _ howc10.is howc18.is).mono ?_; rw [tf_true rfl]; rintro e wc20 ⟨rfl, hbwc20⟩; replace cf3 := cell_b cf3 hbwc20; replace cf4 := cell_b cf4 hbwc20; replace cf5 := cell_b cf5 hbwc20; replace cf14 := cell_b cf14 hbwc20; replace cf15 := cell_b cf15 hbwc20; replace cf16 := cell_b cf16 hbwc20; replace howc7 := howc7.below hbwc20; replace howc10 := howc10.below hbwc20; replace howc18 := howc18.below hbwc20; replace hbw : Below w.heap.size w wc20 := hbw.trans (hbwc20.mono hbw.size); have hzwc20 : wc18.heap.size ≤ wc20.heap.size := hbwc20.size))
    go_wp2_with fail
    go_ret
    exact ⟨rfl, hbw⟩
  · have hz_0 := lft_no (l := 1048576) (n := szP g0) (by omega)
    go_enter Try.func5, Try.ntmps5
    have hbw : Below w.heap.size w w := Below.refl _ _
    go_wp2_with fail
    generalize hqwm2 : w.alloc (.cells #[.slice a0s0 a0n0 a0c0, .slice a0s1 a0n1 a0c1, .slice a0s2 a0n2 a0c2] 27) = wm2
    have hywm2 : wm2.heap.size = w.heap.size + 1 := by rw [← hqwm2]; simp
    have hbwm2 : Below w.heap.size w wm2 := by rw [← hqwm2]; exact (by repeat' (first | (with_reducible exact Below.refl _ _) | (with_reducible apply Below.alloc) | (with_reducible apply Below.drew) | (with_reducible apply below_drawn) | omega | (simp only [World.size_alloc, World.size_setCell, World.size_drew]; omega)))
    have cf3 : wm2.cell? ⟨w.heap.size, 0, none⟩ = some (.slice a0s0 a0n0 a0c0) := by rw [← hqwm2]; simp
    have cf4 : wm2.cell? ⟨w.heap.size, 1, none⟩ = some (.slice a0s1 a0n1 a0c1) := by rw [← hqwm2]; simp
    have cf5 : wm2.cell? ⟨w.heap.size, 2, none⟩ = some (.slice a0s2 a0n2 a0c2) := by rw [← hqwm2]; simp
    clear hqwm2
    replace hbw : Below w.heap.size w wm2 := hbw.trans (hbwm2.mono hbw.size)
    have hzwm2 : w.heap.size ≤ wm2.heap.size := hbwm2.size
    refine (szP_any _ _ _ _ (h0.below hbw) (by omega) (by omega)).mono ?_
    rw [hz_0]
    rintro e wc6 ⟨rfl, hbwc6⟩
    replace cf3 := cell_b cf3 hbwc6
    replace cf4 := cell_b cf4 hbwc6
    replace cf5 := cell_b cf5 hbwc6
    replace hbw : Below w.heap.size w wc6 := hbw.trans (hbwc6.mono hbw.size)
    have hzwc6 : wm2.heap.size ≤ wc6.heap.size := hbwc6.size
    go_wp2_with fail
    go_ret
    exact ⟨rfl, hbw⟩

open Go.ChangeShapes Go.WideShapes Go.ChangeAt
theorem rec : ∀ t ∈ Try.f5.params.toList, Try.prog.readableRec t = true ∧ t < Try.prog.types.size := by
  rw [Try.params5]
  intro t ht
  simp only [List.mem_cons, List.not_mem_nil, or_false] at ht
  rcases ht with rfl
  all_goals exact ⟨by kernel_rfl, of_decide_eq_true (by kernel_rfl)⟩
set_option maxRecDepth 100000 in
theorem lifted (os : Os) (started : os.Started) (H : Type) (enc : TypeId × Value → H) :
    ReturnsInHanded {} Try.checked os 5 .any (Rows.fnExactRepliesInSpec.pre6 enc Try.prog Try.f5 Rows.fnExactRepliesInRow.domain false) (Rows.fnExactRepliesInSpec.post enc Try.prog Try.f5 false true false false) := by
  refine returnsInHanded_of_change (C := Try.checked) own started (by kernel_rfl) Try.func5
    (ChangeSpec.witness6 (enc := enc) (C := Try.checked) false ⟨#[], #[.agg #[.slice none 0 0, .slice none 0 0, .slice none 0 0]], []⟩ 8 (by kernel_rfl) (by kernel_rfl) (by kernel_rfl) (by kernel_rfl)) ?_
  intro W base args ds gs before hval0 hW hcnd _
  have hval : ∀ (j : Nat) t v, Try.f5.params[j]? = some t → args[j]? = some v → Value.okWide Try.prog W .any base t v := hval0
  have hW' := hW
  obtain ⟨p, q, hA0, hV, rfl, hfz, hnd⟩ := hW
  have hA : DataW.TrodAll enc Try.prog W 0 (fun _ => true) true Try.f5.params.toList args.toList ds p := hA0
  rw [Try.params5] at hA hval
  obtain ⟨v0, vs0, d0, ds0, p0, q0, hargs, rfl, rfl, t0, r0⟩ := trodAll_cons hA
  obtain ⟨rfl, rfl, rfl⟩ := trodAll_nil r0
  obtain rfl : args = #[v0] := by cases args; simp_all
  obtain ⟨rfl, rfl⟩ := trodVars_none hV
  obtain ⟨g0, h0, wf0⟩ := openP (hval 0 _ v0 rfl rfl) t0
  clear hA0 hval0
  refine (walk v0 g0 W h0 wf0).mono fun e W' ⟨he, hb⟩ => ?_
  subst he
  exact ⟨_, rfl, law_post laid rec (by kernel_rfl) rfl rfl hW' hb⟩
theorem over : Rows.fnExactRepliesInRow.holds Try.pinned (OpenSpec.ofChange Rows.fnExactRepliesInSpec) :=
  OpenClaim.holds_of_wide 5 Try.f5 rfl rfl rfl rfl rfl rfl rfl ⟨rfl, rfl, rfl, rfl, rfl⟩ rfl rfl rfl rfl rfl (by kernel_rfl) Try.func5 (by kernel_rfl)
    (of_decide_eq_true (by kernel_rfl)) (by unfold Func.isWrapper; first | (rw [if_pos (by decide +kernel)]; kernel_rfl) | (rw [if_neg (by decide +kernel)]; exact ⟨rfl, rfl⟩))
    (fun os started H enc _ => lifted os started H enc)
theorem proved : Rows.FnExactRepliesInSaid := over
#print axioms proved
end Go.Proofs.Ytdbojkdfpkgfcaa.fnExactRepliesIn
