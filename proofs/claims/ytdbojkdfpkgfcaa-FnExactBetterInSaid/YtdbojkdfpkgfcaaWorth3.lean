/-
  WorthOk of the reference.
-/
import Derived.Test.YtdbojkdfpkgfcaaWorth2
namespace Go.Proofs.Ytdbojkdfpkgfcaa
set_option linter.unusedVariables false
set_option linter.unusedSimpArgs false
open Go.RowKit
attribute [local go_sem ↓] Go.wp_at_zero Go.wp_at_succ
set_option maxHeartbeats 4000000 in
theorem worthOk_s (v u : Value) (g : Pa) (x : Wo) (w : World) (hP : IsP w v g) (hW : IsW w u x) : Calls Try.prog 25 #[v, u] w (Bb w (tf (WorthIs g x))) := by
  have hP0 := hP
  obtain ⟨_, _, _, rfl, ⟨s1, n1, c1, rfl, h1⟩, ⟨s2, n2, c2, rfl, h2⟩, ⟨s3, n3, c3, rfl, h3⟩⟩ := hP
  obtain ⟨a, s4, n4, c4, b, rfl⟩ := hW.form
  obtain ⟨ea, h4, eb⟩ := hW.parts
  have H3 := Lib.hid h3.1
  have H4 := Lib.hid h4.1
  have hm3 := h3.max
  have hm4 := h4.max
  have EA := Lib.hid ea
  have EB := Lib.hid eb
  clear ea eb
  go_enter Try.func25, Try.ntmps25
  go_wp2_with fail
  generalize hqw1 : (w.alloc (.cells #[.slice s1 n1 c1, .slice s2 n2 c2, .slice s3 n3 c3] 32)).alloc (.cells #[.int .i64 a, .slice s4 n4 c4, .int .i64 b] 42) = w1
  have hbw : Below w.heap.size w w1 := by rw [← hqw1]; exact (by repeat' (first | (with_reducible exact Below.refl _ _) | (with_reducible apply Below.alloc) | (with_reducible apply Below.drew) | (with_reducible apply below_drawn) | omega | (simp only [World.size_alloc, World.size_setCell, World.size_drew]; omega)))
  have hew1 := Lib.hid (show w1.heap.size = w.heap.size + 1 + 1 by rw [← hqw1]; simp)
  have hsw : w.heap.size + 2 ≤ w1.heap.size := by rw [← hqw1]; simp only [World.size_alloc]; omega
  have hswa : w.heap.size < w1.heap.size := by omega
  have hswb : w.heap.size + 1 < w1.heap.size := by omega
  have HQw1_0 : Blk w1 (w.heap.size) [.slice s1 n1 c1, .slice s2 n2 c2, .slice s3 n3 c3] 32 := by rw [← hqw1]; have hnew := blk_new w [.slice s1 n1 c1, .slice s2 n2 c2, .slice s3 n3 c3] 32; (try simp only [World.size_alloc] at hnew); exact (Blk.alloc hnew _)
  have b0_0 : w1.cell? ⟨w.heap.size, 0, none⟩ = some (.slice s1 n1 c1) := HQw1_0.cell 0 rfl
  have b0_1 : w1.cell? ⟨w.heap.size, 1, none⟩ = some (.slice s2 n2 c2) := HQw1_0.cell 1 rfl
  have b0_2 : w1.cell? ⟨w.heap.size, 2, none⟩ = some (.slice s3 n3 c3) := HQw1_0.cell 2 rfl
  clear HQw1_0
  have HQw1_1 : Blk w1 (w.heap.size + 1) [.int .i64 a, .slice s4 n4 c4, .int .i64 b] 42 := by rw [← hqw1]; have hnew := blk_new (w.alloc (.cells #[.slice s1 n1 c1, .slice s2 n2 c2, .slice s3 n3 c3] 32)) [.int .i64 a, .slice s4 n4 c4, .int .i64 b] 42; (try simp only [World.size_alloc] at hnew); exact hnew
  have b1_0 : w1.cell? ⟨w.heap.size + 1, 0, none⟩ = some (.int .i64 a) := HQw1_1.cell 0 rfl
  have b1_1 : w1.cell? ⟨w.heap.size + 1, 1, none⟩ = some (.slice s4 n4 c4) := HQw1_1.cell 1 rfl
  have b1_2 : w1.cell? ⟨w.heap.size + 1, 2, none⟩ = some (.int .i64 b) := HQw1_1.cell 2 rfl
  have HRw1 := Lib.hid HQw1_1
  clear HQw1_1
  clear hqw1
  go_wp2_with (first
    | (go_at_call 64; refine mono_split (small_s _ _ _ (hP0.below hbw)) (fun x2 => ?_) (fun x2 => ?_) <;> (rintro e w2 ⟨rfl, hb2⟩; have hcf2 := bcell hb2; obtain ⟨hcell2, hfr2⟩ := hcf2; have hz2 := hb2.size; (try simp only [World.size_alloc, World.size_setCell, World.size_drew] at hz2); have hz2a : w.heap.size < w2.heap.size := (by omega); have hz2b : w.heap.size + 1 < w2.heap.size := (by omega)))
    | (go_at_call 65; refine mono_split (vert_s _ _ _ _ (hP0.below (hbw.trans (hb2.mono hbw.size)))) (fun x3 => ?_) (fun x3 => ?_) <;> (rintro e w3 ⟨rfl, hb3⟩; have hcf3 := bcell hb3; obtain ⟨hcell3, hfr3⟩ := hcf3; have hz3 := hb3.size; (try simp only [World.size_alloc, World.size_setCell, World.size_drew] at hz3); have hz3a : w.heap.size < w3.heap.size := (by omega); have hz3b : w.heap.size + 1 < w3.heap.size := (by omega)))
    | (go_at_call 72; refine mono_split (setOk_any _ _ _ _ _ _ (h4.below (by repeat' (first | (with_reducible exact Below.refl _ _) | (with_reducible assumption) | (with_reducible apply below_set) | (with_reducible apply Below.alloc) | (with_reducible apply Below.drew) | (with_reducible apply below_drawn) | (with_reducible refine Below.trans ?_ (Below.mono (by assumption) ?_)) | omega | (simp only [World.size_alloc, World.size_setCell, World.size_drew]; omega))))) (fun x4 => ?_) (fun x4 => ?_) <;> (rintro e w4 ⟨rfl, q4, rfl⟩))
    | (go_at_call 73; refine mono_split_s (l1In_any _ _ _ _) (fun x5 => ?_) (fun x5 => ?_) <;> (rintro e w5 ⟨rfl, rfl⟩)))
  all_goals first
    | (go_ret
       exact ⟨ret_bool (tf_false (fun h => by have q1 := h.1; have q2 := h.2.head; have q3 := h.2.set; have q4 := h.2.way; have q5 := EA.out; have q6 := EB.out; have q7 := H3.out; have q8 := h.1.2; simp only [RowKit.Hid] at *; grind)).symm, (by repeat' (first | (with_reducible exact Below.refl _ _) | (with_reducible assumption) | (with_reducible apply below_set) | (with_reducible apply Below.alloc) | (with_reducible apply Below.drew) | (with_reducible apply below_drawn) | (with_reducible refine Below.trans ?_ (Below.mono (by assumption) ?_)) | omega | (simp only [World.size_alloc, World.size_setCell, World.size_drew]; omega)))⟩)
    | skip
  replace x4 := Lib.hid (show IsSet x.over g.prio.length by rw [H3.out]; exact x4.out.2)
  replace x3 := Lib.hid (show Vert g.prio.length a from x3.out)
  have hBw4 : Below w1.heap.size w1 (w3.drewN q4) := (by repeat' (first | (with_reducible exact Below.refl _ _) | (with_reducible assumption) | (with_reducible apply below_set) | (with_reducible apply Below.alloc) | (with_reducible apply Below.drew) | (with_reducible apply below_drawn) | (with_reducible refine Below.trans ?_ (Below.mono (by assumption) ?_)) | omega | (simp only [World.size_alloc, World.size_setCell, World.size_drew]; omega)))
  replace b0_0 := cell_b b0_0 hBw4
  replace b0_1 := cell_b b0_1 hBw4
  replace b0_2 := cell_b b0_2 hBw4
  replace b1_0 := cell_b b1_0 hBw4
  replace b1_1 := cell_b b1_1 hBw4
  replace b1_2 := cell_b b1_2 hBw4
  replace hbw : Below w.heap.size w (w3.drewN q4) := hbw.trans (hBw4.mono hbw.size)
  clear hBw4
  generalize w3.drewN q4 = w4 at *
  go_loopw [5] (fun i wr => ∃ k : Nat, k ≤ n4 ∧ i = .int .i64 k ∧ (∀ j, j < k → Heavy g (gi x.over j).toNat x.head.toNat) ∧ Below w4.heap.size w4 wr) (fun i _ => n4 - (intOf i).toNat)
  case atStart => exact ⟨0, by omega, rfl, fun j hj => by omega, Below.refl _ _⟩
  case round =>
    obtain ⟨k, hk, rfl, hS, hr⟩ := hrel
    have HS := Lib.hid hS
    clear hS
    have hBwr : Below w4.heap.size w4 (wr) := (by repeat' (first | (with_reducible exact Below.refl _ _) | (with_reducible assumption) | (with_reducible apply below_set) | (with_reducible apply Below.alloc) | (with_reducible apply Below.drew) | (with_reducible apply below_drawn) | (with_reducible refine Below.trans ?_ (Below.mono (by assumption) ?_)) | omega | (simp only [World.size_alloc, World.size_setCell, World.size_drew]; omega)))
    replace b0_0 := cell_b b0_0 hBwr
    replace b0_1 := cell_b b0_1 hBwr
    replace b0_2 := cell_b b0_2 hBwr
    replace b1_0 := cell_b b1_0 hBwr
    replace b1_1 := cell_b b1_1 hBwr
    replace b1_2 := cell_b b1_2 hBwr
    replace hbw : Below w.heap.size w (wr) := hbw.trans (hBwr.mono hbw.size)
    clear hBwr
    by_cases hlt : k < n4
    · obtain ⟨bb, o, rfl, hbl, hc⟩ := (h4.below hbw).get hlt
      have hck := hc k hlt
      have e1 : 0 ≤ gi x.over k := (x4.out k (by rw [H4.out]; exact hlt)).1
      have e2 : Hid (gi x.over k < g.prio.length) := (x4.out k (by rw [H4.out]; exact hlt)).2.1
      have e3 : 0 ≤ a := x3.out.1
      have e4 : Hid (a < g.prio.length) := x3.out.2
      have i0 : (0 : Int) ≤ (k : Int) := by omega
      have i1 : (k : Int) < (n4 : Int) := by omega
      clear hc
      rcases tf_cases (Heavy g (gi x.over k).toNat a.toNat) with ⟨k7, x7⟩ | ⟨k7, x7⟩
      all_goals
        go_wp2_with fail
        have gb0_0 := grow_cell b0_0
        have gb0_1 := grow_cell b0_1
        have gb0_2 := grow_cell b0_2
        have gb1_0 := grow_cell b1_0
        have gb1_1 := grow_cell b1_1
        have gb1_2 := grow_cell b1_2
        have ghck := grow_cell hck
        refine wp_region_grow (by kernel_rfl) (by kernel_rfl) ?_
        repeat ((with_reducible refine wpQuiet_step (fun K hK => ?_)); go_simp; first | (refine hK _ ?_; clear hK K) | (apply Exists.intro; refine ⟨fun w' hw' => ?_, hK _ ?_⟩; ((have hx := hbw.trans (Below.mono hw' hbw.size)); (try go_simp); first | (go_at_call 66; exact grow_call_b hw' (heavy_s _ _ _ _ _ (hP0.below hx) e1 e2.out e3 e4.out) k7) | rfl | exact ⟨rfl, rfl⟩); clear hK K))
        refine wpQuiet_nil ?_
        intro w5 hww5
        have hbw5 : Below wr.heap.size wr w5 := hww5
        clear gb0_0 gb0_1 gb0_2 gb1_0 gb1_1 gb1_2 ghck
        replace b0_0 := cell_b b0_0 hbw5
        replace b0_1 := cell_b b0_1 hbw5
        replace b0_2 := cell_b b0_2 hbw5
        replace b1_0 := cell_b b1_0 hbw5
        replace b1_1 := cell_b b1_1 hbw5
        replace b1_2 := cell_b b1_2 hbw5
        replace hck := cell_b hck hbw5
        replace hbw : Below w.heap.size w w5 := hbw.trans (hbw5.mono hbw.size)
        clear hww5
        go_wp2_with fail
        first
        | (go_ret
           exact ⟨ret_bool (tf_false (fun h => by have := h.2.over k (by rw [H4.out]; exact hlt); rw [← EA.out] at this; exact x7.out this)).symm, hbw⟩)
        | (go_roundw
           case rel => exact ⟨k + 1, by omega, by go_num, fun j hj => by
              by_cases e : j = k
              · rw [e, ← EA.out]; exact x7.out
              · exact HS.out j (by omega), hr.trans (hbw5.mono hr.size)⟩
           case measure => simp [intOf]; omega)
    · go_wp2_with fail
      go_ret
      exact ⟨ret_bool (tf_true ⟨x2.out, by rw [← EA.out]; exact x3.out, x4.out, by rw [← EB.out]; exact x5.out, fun j hj => HS.out j (by rw [H4.out] at hj; omega)⟩).symm, hbw⟩
end Go.Proofs.Ytdbojkdfpkgfcaa
