/-
  WorthOk.
-/
import Derived.Test.YtdbojkdfpkgfcaaWorth1
import Derived.Test.YtdbojkdfpkgfcaaHeavy
import Derived.Test.YtdbojkdfpkgfcaaLawX
import Derived.Test.YtdbojkdfpkgfcaaSet
namespace Go.Proofs.Ytdbojkdfpkgfcaa
set_option linter.unusedVariables false
set_option linter.unusedSimpArgs false
open Go.RowKit
attribute [local go_sem ↓] Go.wp_at_zero Go.wp_at_succ

/-- A worth that is accepted. -/
structure WoOk (g : Pa) (x : Wo) : Prop where
  head : Vert g.prio.length x.head
  set : IsSet x.over g.prio.length
  way : 0 ≤ x.way ∧ x.way ≤ 12
  over : ∀ k, k < x.over.length → Heavy g (gi x.over k).toNat x.head.toNat
def WorthIs (g : Pa) (x : Wo) : Prop := Small g ∧ WoOk g x

set_option maxHeartbeats 400000 in
theorem setOk_any (sa : Option Addr) (n c : Nat) (xs : List Int) (m : Int) (w : World) (hI : Ints w sa n c xs) :
    Calls Try.prog 72 #[.slice sa n c, .int .i64 m] w (Qb w (tf ((0 ≤ m ∧ m ≤ 256) ∧ IsSet xs m))) := by
  have hmax := hI.max
  by_cases hm : 0 ≤ m ∧ m ≤ 256
  · have k1 := Lib.hid (tf_true hm)
    have e : tf ((0 ≤ m ∧ m ≤ 256) ∧ IsSet xs m) = tf (IsSet xs m) := tf_congr ⟨fun h => h.2, fun h => ⟨hm, h⟩⟩
    rw [e]
    clear e
    obtain ⟨m0, m1⟩ := hm
    go_enter Try.func72, Try.ntmps72
    go_wp2_with (first
      | (go_at_call 73; refine (l1In_is _ _ _ _ k1.out _).mono ?_; rintro e w2 ⟨rfl, rfl⟩)
      | (go_at_call 102; refine (l1Set_any _ _ _ _ _ _ hI m0 (by omega)).mono ?_; rintro e w3 ⟨rfl, q3, rfl⟩))
    go_ret
    exact ⟨rfl, _, rfl⟩
  · have k1 := Lib.hid (tf_false hm)
    rw [tf_false (fun h => hm h.1)]
    clear hm
    go_enter Try.func72, Try.ntmps72
    go_wp2_with ((go_at_call 73; refine (l1In_is _ _ _ _ k1.out _).mono ?_; rintro e w2 ⟨rfl, rfl⟩))
    go_ret
    exact ⟨rfl, 0, rfl⟩

set_option maxHeartbeats 4000000 in
theorem isWorth_i (v u : Value) (g : Pa) (x : Wo) (w : World) (hP : IsP w v g) (hW : IsW w u x) (hg : PaOk g) : Calls Try.prog 74 #[v, u] w (Bb w (tf (WoOk g x))) := by
  have hP0 := hP
  obtain ⟨_, _, _, rfl, ⟨s1, n1, c1, rfl, h1⟩, ⟨s2, n2, c2, rfl, h2⟩, ⟨s3, n3, c3, rfl, h3⟩⟩ := hP
  have hA : IsA w (.agg #[.slice s1 n1 c1, .slice s2 n2 c2]) g.ar := ⟨_, _, rfl, h1.is, h2.is⟩
  obtain ⟨a, s4, n4, c4, b, rfl⟩ := hW.form
  obtain ⟨ea, h4, eb⟩ := hW.parts
  have HL := Lib.hid hg.len
  have H4 := Lib.hid h4.1
  have hm4 := h4.max
  have EA := Lib.hid ea
  have EB := Lib.hid eb
  clear ea eb hg
  rcases tf_cases (Vert g.ar.own.length a) with ⟨k1, x1⟩ | ⟨k1, x1⟩
  rcases tf_cases (IsSet x.over g.ar.own.length) with ⟨k2, x2⟩ | ⟨k2, x2⟩
  rcases (dec_cases (b < 0)).symm with ⟨d3, x3⟩ | ⟨d3, x3⟩
  rcases (dec_cases (b > 12)).symm with ⟨d4, x4⟩ | ⟨d4, x4⟩
  · go_enter Try.func74, Try.ntmps74
    go_wp2_with fail
    generalize hqw1 : (w.alloc (.cells #[.slice s1 n1 c1, .slice s2 n2 c2, .slice s3 n3 c3] 32)).alloc (.cells #[.int .i64 a, .slice s4 n4 c4, .int .i64 b] 42) = w1
    have hbw : Below w.heap.size w w1 := by rw [← hqw1]; exact (by repeat' (first | (with_reducible exact Below.refl _ _) | (with_reducible apply Below.alloc) | (with_reducible apply Below.drew) | (with_reducible apply below_drawn) | omega | (simp only [World.size_alloc, World.size_setCell, World.size_drew]; omega)))
    have hew1 := Lib.hid (show w1.heap.size = w.heap.size + 1 + 1 by rw [← hqw1]; simp)
    have hsw : w.heap.size + 2 ≤ w1.heap.size := by rw [← hqw1]; simp only [World.size_alloc]; omega
    have hswa : w.heap.size < w1.heap.size := by omega
    have hswb : w.heap.size + 1 < w1.heap.size := by omega
    have HQw1_0 : Blk w1 (w.heap.size) [.slice s1 n1 c1, .slice s2 n2 c2, .slice s3 n3 c3] 32 := by rw [← hqw1]; have hnew := blk_new w [.slice s1 n1 c1, .slice s2 n2 c2, .slice s3 n3 c3] 32; (try simp only [World.size_alloc] at hnew); exact (Blk.alloc hnew _)
    have b0_0 : w1.cell? ⟨w.heap.size, 0, none⟩ = some (.slice s1 n1 c1) := HQw1_0.cell 0 rfl
    have b0_1 : w1.cell? ⟨w.heap.size, 1, none⟩ = some (.slice s2 n2 c2) := HQw1_0.cell 1 rfl
    have b0_2 : w1.cell? ⟨w.heap.size, 2, none⟩ = some (.slice s3 n3 c3) := HQw1_0.cell 2 rfl
    clear HQw1_0
    have HQw1_1 : Blk w1 (w.heap.size + 1) [.int .i64 a, .slice s4 n4 c4, .int .i64 b] 42 := by rw [← hqw1]; have hnew := blk_new (w.alloc (.cells #[.slice s1 n1 c1, .slice s2 n2 c2, .slice s3 n3 c3] 32)) [.int .i64 a, .slice s4 n4 c4, .int .i64 b] 42; (try simp only [World.size_alloc] at hnew); exact hnew
    have b1_0 : w1.cell? ⟨w.heap.size + 1, 0, none⟩ = some (.int .i64 a) := HQw1_1.cell 0 rfl
    have b1_1 : w1.cell? ⟨w.heap.size + 1, 1, none⟩ = some (.slice s4 n4 c4) := HQw1_1.cell 1 rfl
    have b1_2 : w1.cell? ⟨w.heap.size + 1, 2, none⟩ = some (.int .i64 b) := HQw1_1.cell 2 rfl
    have HRw1 := Lib.hid HQw1_1
    clear HQw1_1
    clear hqw1
    have gb0_0 := grow_cell b0_0
    have gb0_1 := grow_cell b0_1
    have gb0_2 := grow_cell b0_2
    have gb1_0 := grow_cell b1_0
    have gb1_1 := grow_cell b1_1
    have gb1_2 := grow_cell b1_2
    refine wp_region_grow (by kernel_rfl) (by kernel_rfl) ?_
    repeat ((with_reducible refine wpQuiet_step (fun K hK => ?_)); go_simp; first | (refine hK _ ?_; clear hK K) | (apply Exists.intro; refine ⟨fun w' hw' => ?_, hK _ ?_⟩; ((have hx := hbw.trans (Below.mono hw' hbw.size)); (try go_simp); first | (go_at_call 68; exact grow_call_b hw' (hasV_i _ _ _ _ (hA.below hx)) k1) | (go_at_call 101; exact grow_call (v := .int .i64 g.ar.own.length) hw' (size_i _ _ _ (hA.below hx)) (fun e w'' h => ⟨h.1, h.2⟩)) | (go_at_call 103; exact grow_call_s hw' (isSet_any _ _ _ _ _ _ (h4.below hx)) k2) | rfl | exact ⟨rfl, rfl⟩); clear hK K))
    refine wpQuiet_nil ?_
    intro w2 hww2
    have hbw2 : Below w1.heap.size w1 w2 := hww2
    clear gb0_0 gb0_1 gb0_2 gb1_0 gb1_1 gb1_2
    replace b0_0 := cell_b b0_0 hbw2
    replace b0_1 := cell_b b0_1 hbw2
    replace b0_2 := cell_b b0_2 hbw2
    replace b1_0 := cell_b b1_0 hbw2
    replace b1_1 := cell_b b1_1 hbw2
    replace b1_2 := cell_b b1_2 hbw2
    replace hbw : Below w.heap.size w w2 := hbw.trans (hbw2.mono hbw.size)
    clear hww2
    go_wp2_with fail
    clear b1_1 b1_2
    go_loopw [35] (fun i wr => ∃ k : Nat, k ≤ n4 ∧ i = .int .i64 k ∧ (∀ j, j < k → Heavy g (gi x.over j).toNat x.head.toNat) ∧ Below w2.heap.size w2 wr) (fun i _ => n4 - (intOf i).toNat)
    case atStart => exact ⟨0, by omega, rfl, fun j hj => by omega, Below.refl _ _⟩
    case round =>
      obtain ⟨k, hk, rfl, hS, hr⟩ := hrel
      have HS := Lib.hid hS
      clear hS
      have hbx : Below w.heap.size w wr := hbw.trans (hr.mono hbw.size)
      replace b1_0 := cell_b b1_0 hr
      replace b0_0 := cell_b b0_0 hr
      replace b0_1 := cell_b b0_1 hr
      replace b0_2 := cell_b b0_2 hr
      by_cases hlt : k < n4
      · obtain ⟨bb, o, rfl, hbl, hc⟩ := (h4.below hbx).get hlt
        have hck := hc k hlt
        have e1 : 0 ≤ gi x.over k := (x2.out k (by rw [H4.out]; exact hlt)).1
        have e2 : Hid (gi x.over k < g.prio.length) := by rw [HL.out]; exact (x2.out k (by rw [H4.out]; exact hlt)).2.1
        have e3 : 0 ≤ a := x1.out.1
        have e4 : Hid (a < g.prio.length) := by rw [HL.out]; exact x1.out.2
        clear hc
        go_wp2_with (go_at_call 69; refine mono_split (heavy_i _ _ _ _ _ (hP0.below hbx) e1 e2.out e3 e4.out) (fun x7 => ?_) (fun x7 => ?_) <;> (rintro e w3 ⟨rfl, hb3⟩; have hcf3 := bcell hb3; obtain ⟨hcell3, hfr3⟩ := hcf3; have hz3 := hb3.size; (try simp only [World.size_alloc, World.size_setCell, World.size_drew] at hz3)))
        all_goals first
          | (go_ret
             exact ⟨ret_bool (tf_false (fun h => by have := h.over k (by rw [H4.out]; exact hlt); rw [← EA.out] at this; exact x7.out this)).symm, hbx.trans (hb3.mono hbx.size)⟩)
          | (go_roundw
             case rel => exact ⟨k + 1, by omega, by go_num, fun j hj => by
                by_cases e : j = k
                · rw [e, ← EA.out]; exact x7.out
                · exact HS.out j (by omega), hr.trans (hb3.mono hr.size)⟩
             case measure => simp [intOf]; omega)
      · go_wp2_with fail
        go_ret
        exact ⟨ret_bool (tf_true ⟨by rw [← EA.out, HL.out]; exact x1.out, by rw [HL.out]; exact x2.out, by rw [← EB.out]; omega, fun j hj => HS.out j (by rw [H4.out] at hj; omega)⟩).symm, hbx⟩
  all_goals
    rw [tf_false (show ¬ WoOk g x from fun h => by have := h.way; have := h.head; have := h.set; have := EB.out; have := EA.out; have := HL.out; simp only [RowKit.Hid] at *; grind)]
    go_enter Try.func74, Try.ntmps74
    go_wp2_with fail
    generalize hqw1 : (w.alloc (.cells #[.slice s1 n1 c1, .slice s2 n2 c2, .slice s3 n3 c3] 32)).alloc (.cells #[.int .i64 a, .slice s4 n4 c4, .int .i64 b] 42) = w1
    have hbw : Below w.heap.size w w1 := by rw [← hqw1]; exact (by repeat' (first | (with_reducible exact Below.refl _ _) | (with_reducible apply Below.alloc) | (with_reducible apply Below.drew) | (with_reducible apply below_drawn) | omega | (simp only [World.size_alloc, World.size_setCell, World.size_drew]; omega)))
    have hew1 := Lib.hid (show w1.heap.size = w.heap.size + 1 + 1 by rw [← hqw1]; simp)
    have hsw : w.heap.size + 2 ≤ w1.heap.size := by rw [← hqw1]; simp only [World.size_alloc]; omega
    have hswa : w.heap.size < w1.heap.size := by omega
    have hswb : w.heap.size + 1 < w1.heap.size := by omega
    have HQw1_0 : Blk w1 (w.heap.size) [.slice s1 n1 c1, .slice s2 n2 c2, .slice s3 n3 c3] 32 := by rw [← hqw1]; have hnew := blk_new w [.slice s1 n1 c1, .slice s2 n2 c2, .slice s3 n3 c3] 32; (try simp only [World.size_alloc] at hnew); exact (Blk.alloc hnew _)
    have b0_0 : w1.cell? ⟨w.heap.size, 0, none⟩ = some (.slice s1 n1 c1) := HQw1_0.cell 0 rfl
    have b0_1 : w1.cell? ⟨w.heap.size, 1, none⟩ = some (.slice s2 n2 c2) := HQw1_0.cell 1 rfl
    have b0_2 : w1.cell? ⟨w.heap.size, 2, none⟩ = some (.slice s3 n3 c3) := HQw1_0.cell 2 rfl
    clear HQw1_0
    have HQw1_1 : Blk w1 (w.heap.size + 1) [.int .i64 a, .slice s4 n4 c4, .int .i64 b] 42 := by rw [← hqw1]; have hnew := blk_new (w.alloc (.cells #[.slice s1 n1 c1, .slice s2 n2 c2, .slice s3 n3 c3] 32)) [.int .i64 a, .slice s4 n4 c4, .int .i64 b] 42; (try simp only [World.size_alloc] at hnew); exact hnew
    have b1_0 : w1.cell? ⟨w.heap.size + 1, 0, none⟩ = some (.int .i64 a) := HQw1_1.cell 0 rfl
    have b1_1 : w1.cell? ⟨w.heap.size + 1, 1, none⟩ = some (.slice s4 n4 c4) := HQw1_1.cell 1 rfl
    have b1_2 : w1.cell? ⟨w.heap.size + 1, 2, none⟩ = some (.int .i64 b) := HQw1_1.cell 2 rfl
    have HRw1 := Lib.hid HQw1_1
    clear HQw1_1
    clear hqw1
    have gb0_0 := grow_cell b0_0
    have gb0_1 := grow_cell b0_1
    have gb0_2 := grow_cell b0_2
    have gb1_0 := grow_cell b1_0
    have gb1_1 := grow_cell b1_1
    have gb1_2 := grow_cell b1_2
    refine wp_region_grow (by kernel_rfl) (by kernel_rfl) ?_
    repeat ((with_reducible refine wpQuiet_step (fun K hK => ?_)); go_simp; first | (refine hK _ ?_; clear hK K) | (apply Exists.intro; refine ⟨fun w' hw' => ?_, hK _ ?_⟩; ((have hx := hbw.trans (Below.mono hw' hbw.size)); (try go_simp); first | (go_at_call 68; exact grow_call_b hw' (hasV_i _ _ _ _ (hA.below hx)) k1) | (go_at_call 101; exact grow_call (v := .int .i64 g.ar.own.length) hw' (size_i _ _ _ (hA.below hx)) (fun e w'' h => ⟨h.1, h.2⟩)) | (go_at_call 103; exact grow_call_s hw' (isSet_any _ _ _ _ _ _ (h4.below hx)) k2) | rfl | exact ⟨rfl, rfl⟩); clear hK K))
    refine wpQuiet_nil ?_
    intro w2 hww2
    have hbw2 : Below w1.heap.size w1 w2 := hww2
    clear gb0_0 gb0_1 gb0_2 gb1_0 gb1_1 gb1_2
    replace b0_0 := cell_b b0_0 hbw2
    replace b0_1 := cell_b b0_1 hbw2
    replace b0_2 := cell_b b0_2 hbw2
    replace b1_0 := cell_b b1_0 hbw2
    replace b1_1 := cell_b b1_1 hbw2
    replace b1_2 := cell_b b1_2 hbw2
    replace hbw : Below w.heap.size w w2 := hbw.trans (hbw2.mono hbw.size)
    clear hww2
    go_wp2_with fail
    go_ret
    exact ⟨rfl, hbw⟩

set_option maxHeartbeats 4000000 in
theorem worthOk_i (v u : Value) (g : Pa) (x : Wo) (w : World) (hP : IsP w v g) (hW : IsW w u x) : Calls Try.prog 27 #[v, u] w (Bb w (tf (WorthIs g x))) := by
  have hP0 := hP
  obtain ⟨_, _, _, rfl, ⟨s1, n1, c1, rfl, h1⟩, ⟨s2, n2, c2, rfl, h2⟩, ⟨s3, n3, c3, rfl, h3⟩⟩ := hP
  have hW0 := hW
  obtain ⟨a, s4, n4, c4, b, rfl⟩ := hW.form
  clear hW
  rcases tf_cases (Small g) with ⟨k1, x1⟩ | ⟨k1, x1⟩
  · have e : tf (WorthIs g x) = tf (WoOk g x) := tf_congr ⟨fun h => h.2, fun h => ⟨x1.out, h⟩⟩
    rw [e]
    clear e
    go_enter Try.func27, Try.ntmps27
    go_wp2_with (first
      | (go_at_call 67; refine (small_i _ _ _ (hP0.below (by repeat' (first | (with_reducible exact Below.refl _ _) | (with_reducible assumption) | (with_reducible apply below_set) | (with_reducible apply Below.alloc) | (with_reducible apply Below.drew) | (with_reducible apply below_drawn) | (with_reducible refine Below.trans ?_ (Below.mono (by assumption) ?_)) | omega | (simp only [World.size_alloc, World.size_setCell, World.size_drew]; omega))))).mono ?_; rw [k1.out]; rintro e w2 ⟨rfl, hb2⟩; have hcf2 := bcell hb2; obtain ⟨hcell2, hfr2⟩ := hcf2; have hz2 := hb2.size; (try simp only [World.size_alloc, World.size_setCell, World.size_drew] at hz2); have hz2a : w.heap.size < w2.heap.size := (by omega))
      | (go_at_call 74; refine (isWorth_i _ _ _ _ _ (hP0.below (by repeat' (first | (with_reducible exact Below.refl _ _) | (with_reducible assumption) | (with_reducible apply below_set) | (with_reducible apply Below.alloc) | (with_reducible apply Below.drew) | (with_reducible apply below_drawn) | (with_reducible refine Below.trans ?_ (Below.mono (by assumption) ?_)) | omega | (simp only [World.size_alloc, World.size_setCell, World.size_drew]; omega)))) (hW0.below (by repeat' (first | (with_reducible exact Below.refl _ _) | (with_reducible assumption) | (with_reducible apply below_set) | (with_reducible apply Below.alloc) | (with_reducible apply Below.drew) | (with_reducible apply below_drawn) | (with_reducible refine Below.trans ?_ (Below.mono (by assumption) ?_)) | omega | (simp only [World.size_alloc, World.size_setCell, World.size_drew]; omega)))) x1.out.1).mono ?_; rintro e w3 ⟨rfl, hb3⟩; have hcf3 := bcell hb3; obtain ⟨hcell3, hfr3⟩ := hcf3; have hz3 := hb3.size; (try simp only [World.size_alloc, World.size_setCell, World.size_drew] at hz3); have hz3a : w.heap.size < w3.heap.size := (by omega)))
    go_ret
    exact ⟨rfl, (by repeat' (first | (with_reducible exact Below.refl _ _) | (with_reducible assumption) | (with_reducible apply below_set) | (with_reducible apply Below.alloc) | (with_reducible apply Below.drew) | (with_reducible apply below_drawn) | (with_reducible refine Below.trans ?_ (Below.mono (by assumption) ?_)) | omega | (simp only [World.size_alloc, World.size_setCell, World.size_drew]; omega)))⟩
  · rw [tf_false (show ¬ WorthIs g x from fun h => x1.out h.1)]
    go_enter Try.func27, Try.ntmps27
    go_wp2_with (go_at_call 67; refine (small_i _ _ _ (hP0.below (by repeat' (first | (with_reducible exact Below.refl _ _) | (with_reducible assumption) | (with_reducible apply below_set) | (with_reducible apply Below.alloc) | (with_reducible apply Below.drew) | (with_reducible apply below_drawn) | (with_reducible refine Below.trans ?_ (Below.mono (by assumption) ?_)) | omega | (simp only [World.size_alloc, World.size_setCell, World.size_drew]; omega))))).mono ?_; rw [k1.out]; rintro e w2 ⟨rfl, hb2⟩; have hcf2 := bcell hb2; obtain ⟨hcell2, hfr2⟩ := hcf2; have hz2 := hb2.size; (try simp only [World.size_alloc, World.size_setCell, World.size_drew] at hz2); have hz2a : w.heap.size < w2.heap.size := (by omega))
    go_ret
    exact ⟨rfl, (by repeat' (first | (with_reducible exact Below.refl _ _) | (with_reducible assumption) | (with_reducible apply below_set) | (with_reducible apply Below.alloc) | (with_reducible apply Below.drew) | (with_reducible apply below_drawn) | (with_reducible refine Below.trans ?_ (Below.mono (by assumption) ?_)) | omega | (simp only [World.size_alloc, World.size_setCell, World.size_drew]; omega)))⟩

end Go.Proofs.Ytdbojkdfpkgfcaa
