/-
  FnExactEdgesIn.
-/
import Derived.Test.YtdbojkdfpkgfcaaEdges
namespace Go.Proofs.Ytdbojkdfpkgfcaa.fnExactEdgesIn
set_option linter.unusedVariables false
set_option linter.unusedSimpArgs false
open Go.RowKit
attribute [local go_sem ↓] Go.wp_at_zero Go.wp_at_succ

set_option maxHeartbeats 2000000 in
theorem walk (v : Value) (g : Pa) (w : World) (hP : IsP w v g) : Calls Try.prog 3 #[v] w (Bb w true) := by
  have hP0 := hP
  obtain ⟨_, _, _, rfl, ⟨s1, n1, c1, rfl, h1⟩, ⟨s2, n2, c2, rfl, h2⟩, ⟨s3, n3, c3, rfl, h3⟩⟩ := hP
  by_cases hsz : szP g ≤ 1048576
  · have hz := lft_ok (l := 1048576) (n := szP g) (by omega)
    have hp : (0 : Int) ≤ 1048576 - (szP g : Int) := by omega
    go_enter Try.func3, Try.ntmps3
    go_wp2_with fail
    refine (szP_any _ _ _ _ (hP0.below (by repeat' (first | (with_reducible exact Below.refl _ _) | (with_reducible assumption) | (with_reducible apply below_set) | (with_reducible apply Below.alloc) | (with_reducible apply Below.drew) | (with_reducible apply below_drawn) | (with_reducible refine Below.trans ?_ (Below.mono (by assumption) ?_)) | omega | (simp only [World.size_alloc, World.size_setCell, World.size_drew]; omega)))) (by omega) (by omega)).mono ?_
    rw [hz]
    rintro e w2 ⟨rfl, hb2⟩
    obtain ⟨hc2, hf2⟩ := bcell hb2
    have hs2 := hb2.size
    simp only [World.size_alloc, World.size_setCell, World.size_drew] at hs2
    have hs2a : w.heap.size < w2.heap.size := by omega
    go_wp2_with fail
    refine (toP_any _ _ _ (hP0.below (by repeat' (first | (with_reducible exact Below.refl _ _) | (with_reducible assumption) | (with_reducible apply below_set) | (with_reducible apply Below.alloc) | (with_reducible apply Below.drew) | (with_reducible apply below_drawn) | (with_reducible refine Below.trans ?_ (Below.mono (by assumption) ?_)) | omega | (simp only [World.size_alloc, World.size_setCell, World.size_drew]; omega)))) hsz).mono ?_
    rintro e w3 ⟨x1, x2, x3, x4, x5, x6, x7, x8, x9, rfl, ho3, hb3⟩
    obtain ⟨hc3, hf3⟩ := bcell hb3
    have hs3 := hb3.size
    have hs3a : w.heap.size < w3.heap.size := by omega
    go_wp2_with fail
    refine (edges_s _ _ _ ho3.is).mono ?_
    rintro e w4 ⟨rfl, hb4⟩
    obtain ⟨hc4, hf4⟩ := bcell hb4
    have hs4 := hb4.size
    have hs4a : w.heap.size < w4.heap.size := by omega
    go_wp2_with fail
    refine (toP_any _ _ _ (hP0.below (by repeat' (first | (with_reducible exact Below.refl _ _) | (with_reducible assumption) | (with_reducible apply below_set) | (with_reducible apply Below.alloc) | (with_reducible apply Below.drew) | (with_reducible apply below_drawn) | (with_reducible refine Below.trans ?_ (Below.mono (by assumption) ?_)) | omega | (simp only [World.size_alloc, World.size_setCell, World.size_drew]; omega)))) hsz).mono ?_
    rintro e w5 ⟨y1, y2, y3, y4, y5, y6, y7, y8, y9, rfl, ho5, hb5⟩
    obtain ⟨hc5, hf5⟩ := bcell hb5
    have hs5 := hb5.size
    have hs5a : w.heap.size < w5.heap.size := by omega
    go_wp2_with fail
    refine (edges_i _ _ _ (ho5.is.alloc _)).mono ?_
    rintro e w6 ⟨rfl, hb6⟩
    obtain ⟨hc6, hf6⟩ := bcell hb6
    have hs6 := hb6.size
    simp only [World.size_alloc, World.size_setCell, World.size_drew] at hs6
    have hs6a : w.heap.size < w6.heap.size := by omega
    have hs6b : w5.heap.size < w6.heap.size := by omega
    have hbw6 : Below w.heap.size w w6 := (by repeat' (first | (with_reducible exact Below.refl _ _) | (with_reducible assumption) | (with_reducible apply below_set) | (with_reducible apply Below.alloc) | (with_reducible apply Below.drew) | (with_reducible apply below_drawn) | (with_reducible refine Below.trans ?_ (Below.mono (by assumption) ?_)) | omega | (simp only [World.size_alloc, World.size_setCell, World.size_drew]; omega)))
    have hy : IsP w6 (.agg #[.slice y1 y2 y3, .slice y4 y5 y6, .slice y7 y8 y9]) g := ho5.is.below ((below_alloc _ _).trans (hb6.mono (by simp)))
    have q0 : w6.cell? ⟨w5.heap.size, 0, none⟩ = some (.slice y1 y2 y3) := by rw [hc6 _ _ (by simp)]; simp
    have q1 : w6.cell? ⟨w5.heap.size, 1, none⟩ = some (.slice y4 y5 y6) := by rw [hc6 _ _ (by simp)]; simp
    have q2 : w6.cell? ⟨w5.heap.size, 2, none⟩ = some (.slice y7 y8 y9) := by rw [hc6 _ _ (by simp)]; simp
    have r0 : w6.cell? ⟨w.heap.size, 0, none⟩ = some (.slice s1 n1 c1) := by rw [hc6 _ _ (by simp; omega), World.cell?_alloc_lt _ _ _ hs5a, hc5 _ _ hs4a, hc4 _ _ hs3a, hc3 _ _ hs2a, hc2 _ _ (by simp)]; simp
    have r1 : w6.cell? ⟨w.heap.size, 1, none⟩ = some (.slice s2 n2 c2) := by rw [hc6 _ _ (by simp; omega), World.cell?_alloc_lt _ _ _ hs5a, hc5 _ _ hs4a, hc4 _ _ hs3a, hc3 _ _ hs2a, hc2 _ _ (by simp)]; simp
    have r2 : w6.cell? ⟨w.heap.size, 2, none⟩ = some (.slice s3 n3 c3) := by rw [hc6 _ _ (by simp; omega), World.cell?_alloc_lt _ _ _ hs5a, hc5 _ _ hs4a, hc4 _ _ hs3a, hc3 _ _ hs2a, hc2 _ _ (by simp)]; simp
    clear hc2 hc3 hc4 hc5 hc6 hf2 hf3 hf4 hf5 hf6
    go_wp2_with fail
    go_region_held3 (fun w' => w'.cell? ⟨w5.heap.size, 0, none⟩ = some (.slice y1 y2 y3) ∧ w'.cell? ⟨w5.heap.size, 1, none⟩ = some (.slice y4 y5 y6) ∧ w'.cell? ⟨w5.heap.size, 2, none⟩ = some (.slice y7 y8 y9) ∧ w'.cell? ⟨w.heap.size, 0, none⟩ = some (.slice s1 n1 c1) ∧ w'.cell? ⟨w.heap.size, 1, none⟩ = some (.slice s2 n2 c2) ∧ w'.cell? ⟨w.heap.size, 2, none⟩ = some (.slice s3 n3 c3)) (first | go_keep | exact ⟨(hc7 _ _ hs6b).trans q0, (hc7 _ _ hs6b).trans q1, (hc7 _ _ hs6b).trans q2, (hc7 _ _ hs6a).trans r0, (hc7 _ _ hs6a).trans r1, (hc7 _ _ hs6a).trans r2⟩ | exact ⟨(hc8 _ _ (Nat.lt_of_lt_of_le hs6b hs7)).trans ((hc7 _ _ hs6b).trans q0), (hc8 _ _ (Nat.lt_of_lt_of_le hs6b hs7)).trans ((hc7 _ _ hs6b).trans q1), (hc8 _ _ (Nat.lt_of_lt_of_le hs6b hs7)).trans ((hc7 _ _ hs6b).trans q2), (hc8 _ _ (Nat.lt_of_lt_of_le hs6a hs7)).trans ((hc7 _ _ hs6a).trans r0), (hc8 _ _ (Nat.lt_of_lt_of_le hs6a hs7)).trans ((hc7 _ _ hs6a).trans r1), (hc8 _ _ (Nat.lt_of_lt_of_le hs6a hs7)).trans ((hc7 _ _ hs6a).trans r2)⟩)
      (first
        | (go_at_call 17; refine (toP_any _ _ _ (hP0.below hbw6.drew) hsz).mono ?_; rintro e w7 ⟨z1, z2, z3, z4, z5, z6, z7, z8, z9, rfl, ho7, hb7⟩; obtain ⟨hc7, hf7⟩ := bcell hb7; have hs7 := hb7.size; simp only [World.size_drew] at hs7)
        | (go_at_call 19; refine (eqP_any _ _ _ _ _ (hy.below ((below_drew _).trans hb7)) ho7.is).mono ?_; rw [tf_true rfl]; rintro e w8 ⟨rfl, hb8⟩; obtain ⟨hc8, hf8⟩ := bcell hb8; have hs8 := hb8.size))
    all_goals go_wp2_with fail
    go_ret
    exact ⟨rfl, (by repeat' (first | (with_reducible exact Below.refl _ _) | (with_reducible assumption) | (with_reducible apply below_set) | (with_reducible apply Below.alloc) | (with_reducible apply Below.drew) | (with_reducible apply below_drawn) | (with_reducible refine Below.trans ?_ (Below.mono (by assumption) ?_)) | omega | (simp only [World.size_alloc, World.size_setCell, World.size_drew]; omega)))⟩
  · have hz := lft_no (l := 1048576) (n := szP g) (by omega)
    go_enter Try.func3, Try.ntmps3
    go_wp2_with fail
    refine (szP_any _ _ _ _ (hP0.below (by repeat' (first | (with_reducible exact Below.refl _ _) | (with_reducible assumption) | (with_reducible apply below_set) | (with_reducible apply Below.alloc) | (with_reducible apply Below.drew) | (with_reducible apply below_drawn) | (with_reducible refine Below.trans ?_ (Below.mono (by assumption) ?_)) | omega | (simp only [World.size_alloc, World.size_setCell, World.size_drew]; omega)))) (by omega) (by omega)).mono ?_
    rw [hz]
    rintro e w2 ⟨rfl, hb2⟩
    go_wp2_with fail
    go_ret
    exact ⟨rfl, (by repeat' (first | (with_reducible exact Below.refl _ _) | (with_reducible assumption) | (with_reducible apply below_set) | (with_reducible apply Below.alloc) | (with_reducible apply Below.drew) | (with_reducible apply below_drawn) | (with_reducible refine Below.trans ?_ (Below.mono (by assumption) ?_)) | omega | (simp only [World.size_alloc, World.size_setCell, World.size_drew]; omega)))⟩

open Go.ChangeShapes Go.WideShapes Go.ChangeAt
theorem own : ownKnob Try.prog.godebug = none := by kernel_rfl
theorem laid : laidOutB Try.prog = true := by kernel_rfl
theorem rec : ∀ t ∈ Try.f3.params.toList, Try.prog.readableRec t = true ∧ t < Try.prog.types.size := by
  rw [Try.params3]
  intro t ht
  simp only [List.mem_cons, List.not_mem_nil, or_false] at ht
  rcases ht with rfl
  exact ⟨by kernel_rfl, of_decide_eq_true (by kernel_rfl)⟩
set_option maxRecDepth 100000 in
theorem lifted (os : Os) (started : os.Started) (H : Type) (enc : TypeId × Value → H) :
    ReturnsInHanded {} Try.checked os 3 .any (Rows.fnExactEdgesInSpec.pre6 enc Try.prog Try.f3 Rows.fnExactEdgesInRow.domain false) (Rows.fnExactEdgesInSpec.post enc Try.prog Try.f3 false true false false) := by
  refine returnsInHanded_of_change (C := Try.checked) own started (by kernel_rfl) Try.func3
    (ChangeSpec.witness6 (enc := enc) (C := Try.checked) false ⟨#[], #[.agg #[.slice none 0 0, .slice none 0 0, .slice none 0 0]], []⟩ 8 (by kernel_rfl) (by kernel_rfl) (by kernel_rfl) (by kernel_rfl)) ?_
  intro W base args ds gs before hval0 hW hcnd _
  have hval : ∀ (j : Nat) t v, Try.f3.params[j]? = some t → args[j]? = some v → Value.okWide Try.prog W .any base t v := hval0
  have hW' := hW
  obtain ⟨p, q, hA0, hV, rfl, hfz, hnd⟩ := hW
  have hA : DataW.TrodAll enc Try.prog W 0 (fun _ => true) true Try.f3.params.toList args.toList ds p := hA0
  rw [Try.params3] at hA hval
  obtain ⟨v0, vs0, d0, ds0, p0, q0, hargs, rfl, rfl, h0, r0⟩ := trodAll_cons hA
  obtain ⟨rfl, rfl, rfl⟩ := trodAll_nil r0
  obtain rfl : args = #[v0] := by cases args; simp_all
  obtain ⟨rfl, rfl⟩ := trodVars_none hV
  obtain ⟨g0, hg0, _⟩ := openP (hval 0 _ v0 rfl rfl) h0
  clear hA0 hval0
  refine (walk v0 g0 W hg0).mono fun e W' ⟨he, hb⟩ => ?_
  subst he
  exact ⟨_, rfl, law_post laid rec (by kernel_rfl) rfl rfl hW' hb⟩
theorem over : Rows.fnExactEdgesInRow.holds Try.pinned (OpenSpec.ofChange Rows.fnExactEdgesInSpec) :=
  OpenClaim.holds_of_wide 3 Try.f3 rfl rfl rfl rfl rfl rfl rfl ⟨rfl, rfl, rfl, rfl, rfl⟩ rfl rfl rfl rfl rfl (by kernel_rfl) Try.func3 (by kernel_rfl)
    (of_decide_eq_true (by kernel_rfl)) (by unfold Func.isWrapper; first | (rw [if_pos (by decide +kernel)]; kernel_rfl) | (rw [if_neg (by decide +kernel)]; exact ⟨rfl, rfl⟩))
    (fun os started H enc _ => lifted os started H enc)
theorem proved : Rows.FnExactEdgesInSaid := over
#print axioms proved
end Go.Proofs.Ytdbojkdfpkgfcaa.fnExactEdgesIn
