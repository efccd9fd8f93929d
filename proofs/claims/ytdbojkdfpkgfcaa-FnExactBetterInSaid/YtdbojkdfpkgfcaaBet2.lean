/-
  The order of worths: the reference's, 2.
-/
import Derived.Test.YtdbojkdfpkgfcaaBet
namespace Go.Proofs.Ytdbojkdfpkgfcaa
set_option linter.unusedVariables false
set_option linter.unusedSimpArgs false
open Go.RowKit
attribute [local go_sem ↓] Go.wp_at_zero Go.wp_at_succ

theorem heavy_tot {g : Pa} {x y : Int} (hx : 0 ≤ x) (hy : 0 ≤ y) (hne : x ≠ y) : Heavy g y.toNat x.toNat ↔ ¬ Heavy g x.toNat y.toNat := by
  unfold Heavy
  constructor
  · intro h1 h2; omega
  · intro h
    have : x.toNat ≠ y.toNat := by omega
    omega

theorem bet_set {g : Pa} {a b : Wo} (h : a.head = b.head) (hx : 0 ≤ unl g a.over b.over g.prio.length) : Bet g a b ↔ (unl g a.over b.over g.prio.length ∈ a.over ↔ Ev g (unl g a.over b.over g.prio.length)) := by
  unfold Bet
  constructor
  · rintro (h1 | h1 | h1)
    · exact absurd h h1.1
    · exact h1.2.2
    · omega
  · exact fun h1 => Or.inr (Or.inl ⟨h, hx, h1⟩)
theorem bet_way {g : Pa} {a b : Wo} (h : a.head = b.head) (hx : ¬ 0 ≤ unl g a.over b.over g.prio.length) : Bet g a b ↔ ((Ev g a.head ∧ a.way < b.way) ∨ (¬ Ev g a.head ∧ b.way < a.way)) := by
  unfold Bet
  constructor
  · rintro (h1 | h1 | h1)
    · exact absurd h h1.1
    · omega
    · exact h1.2.2
  · exact fun h1 => Or.inr (Or.inr ⟨h, by omega, h1⟩)
theorem bet_head {g : Pa} {a b : Wo} (h : a.head ≠ b.head) : Bet g a b ↔ ((Ev g a.head ∧ ¬ Ev g b.head) ∨ (Ev g a.head ∧ Ev g b.head ∧ Heavy g a.head.toNat b.head.toNat) ∨ (¬ Ev g a.head ∧ ¬ Ev g b.head ∧ ¬ Heavy g a.head.toNat b.head.toNat)) := by
  unfold Bet
  constructor
  · rintro (h1 | h1 | h1)
    · exact h1.2
    · exact absurd h1.1 h
    · exact absurd h1.1 h
  · exact fun h1 => Or.inl ⟨h, h1⟩

set_option maxRecDepth 100000 in
set_option maxHeartbeats 4000000 in
theorem better_s (v va vb : Value) (g : Pa) (a b : Wo) (w : World) (hP : IsP w v g) (hA : IsW w va a) (hB : IsW w vb b) (hg : PaOk g) (ha : Vert g.prio.length a.head) (hb : Vert g.prio.length b.head) : Calls Try.prog 84 #[v, va, vb] w (Bb w (tf (Bet g a b))) := by
  have hP0 := hP
  obtain ⟨_, _, _, rfl, ⟨s1, n1, c1, rfl, h1⟩, ⟨s2, n2, c2, rfl, h2⟩, ⟨s3, n3, c3, rfl, h3⟩⟩ := hP
  obtain ⟨p0, s4, n4, c4, p1, rfl⟩ := hA.form
  obtain ⟨r0, s5, n5, c5, r1, rfl⟩ := hB.form
  obtain ⟨rfl, h4, rfl⟩ := hA.parts
  obtain ⟨rfl, h5, rfl⟩ := hB.parts
  obtain ⟨a0, a1⟩ := ha
  obtain ⟨b0, b1⟩ := hb
  obtain ⟨u0, u1⟩ := unl_bd g a.over b.over g.prio.length
  have G := Lib.hid hg
  have A1 := Lib.hid a1
  have B1 := Lib.hid b1
  have U1 := Lib.hid u1
  clear hg a1 b1 u1 hA hB
  have hb4 : IsI w (.slice s4 n4 c4) a.over := h4.is
  have hb5 : IsI w (.slice s5 n5 c5) b.over := h5.is
  rcases ne_cases a.head b.head with ⟨d1, d2, x1⟩ | ⟨d1, d2, x1⟩
  · rcases dec_cases (0 ≤ unl g a.over b.over g.prio.length) with ⟨d3, x3⟩ | ⟨d3, x3⟩
    · rw [tf_congr (bet_set x1.out x3)]
      rcases tf_cases (unl g a.over b.over g.prio.length ∈ a.over) with ⟨k4, x4⟩ | ⟨k4, x4⟩
      all_goals rcases tf_cases (Ev g (unl g a.over b.over g.prio.length)) with ⟨k5, x5⟩ | ⟨k5, x5⟩
      all_goals
        go_enter Try.func84, Try.ntmps84
        go_wp2_with fail
        generalize hqw1 : ((w.alloc (.cells #[.slice s1 n1 c1, .slice s2 n2 c2, .slice s3 n3 c3] 32)).alloc (.cells #[.int .i64 a.head, .slice s4 n4 c4, .int .i64 a.way] 42)).alloc (.cells #[.int .i64 b.head, .slice s5 n5 c5, .int .i64 b.way] 42) = w1
        have hbw : Below w.heap.size w w1 := by rw [← hqw1]; exact (by repeat' (first | (with_reducible exact Below.refl _ _) | (with_reducible apply Below.alloc) | (with_reducible apply Below.drew) | (with_reducible apply below_drawn) | omega | (simp only [World.size_alloc, World.size_setCell, World.size_drew]; omega)))
        have hew1 := Lib.hid (show w1.heap.size = w.heap.size + 1 + 1 + 1 by rw [← hqw1]; simp)
        have hsw : w.heap.size + 3 ≤ w1.heap.size := by rw [← hqw1]; simp only [World.size_alloc]; omega
        have hswa : w.heap.size < w1.heap.size := by omega
        have hswb : w.heap.size + 1 < w1.heap.size := by omega
        have hswc : w.heap.size + 1 + 1 < w1.heap.size := by omega
        have HQw1_0 : Blk w1 (w.heap.size) [.slice s1 n1 c1, .slice s2 n2 c2, .slice s3 n3 c3] 32 := by rw [← hqw1]; have hnew := blk_new w [.slice s1 n1 c1, .slice s2 n2 c2, .slice s3 n3 c3] 32; (try simp only [World.size_alloc] at hnew); exact (Blk.alloc (Blk.alloc hnew _) _)
        have b0_0 : w1.cell? ⟨w.heap.size, 0, none⟩ = some (.slice s1 n1 c1) := HQw1_0.cell 0 rfl
        have b0_1 : w1.cell? ⟨w.heap.size, 1, none⟩ = some (.slice s2 n2 c2) := HQw1_0.cell 1 rfl
        have b0_2 : w1.cell? ⟨w.heap.size, 2, none⟩ = some (.slice s3 n3 c3) := HQw1_0.cell 2 rfl
        clear HQw1_0
        have HQw1_1 : Blk w1 (w.heap.size + 1) [.int .i64 a.head, .slice s4 n4 c4, .int .i64 a.way] 42 := by rw [← hqw1]; have hnew := blk_new (w.alloc (.cells #[.slice s1 n1 c1, .slice s2 n2 c2, .slice s3 n3 c3] 32)) [.int .i64 a.head, .slice s4 n4 c4, .int .i64 a.way] 42; (try simp only [World.size_alloc] at hnew); exact (Blk.alloc hnew _)
        have b1_0 : w1.cell? ⟨w.heap.size + 1, 0, none⟩ = some (.int .i64 a.head) := HQw1_1.cell 0 rfl
        have b1_1 : w1.cell? ⟨w.heap.size + 1, 1, none⟩ = some (.slice s4 n4 c4) := HQw1_1.cell 1 rfl
        have b1_2 : w1.cell? ⟨w.heap.size + 1, 2, none⟩ = some (.int .i64 a.way) := HQw1_1.cell 2 rfl
        clear HQw1_1
        have HQw1_2 : Blk w1 (w.heap.size + 1 + 1) [.int .i64 b.head, .slice s5 n5 c5, .int .i64 b.way] 42 := by rw [← hqw1]; have hnew := blk_new ((w.alloc (.cells #[.slice s1 n1 c1, .slice s2 n2 c2, .slice s3 n3 c3] 32)).alloc (.cells #[.int .i64 a.head, .slice s4 n4 c4, .int .i64 a.way] 42)) [.int .i64 b.head, .slice s5 n5 c5, .int .i64 b.way] 42; (try simp only [World.size_alloc] at hnew); exact hnew
        have b2_0 : w1.cell? ⟨w.heap.size + 1 + 1, 0, none⟩ = some (.int .i64 b.head) := HQw1_2.cell 0 rfl
        have b2_1 : w1.cell? ⟨w.heap.size + 1 + 1, 1, none⟩ = some (.slice s5 n5 c5) := HQw1_2.cell 1 rfl
        have b2_2 : w1.cell? ⟨w.heap.size + 1 + 1, 2, none⟩ = some (.int .i64 b.way) := HQw1_2.cell 2 rfl
        have HRw1 := Lib.hid HQw1_2
        clear HQw1_2
        clear hqw1
        clear HRw1
        go_wp2_with (go_at_call 116; refine (unlike_s _ _ _ _ _ _ _ (hP0.below hbw) (hb4.below hbw) (hb5.below hbw)).mono ?_; rintro e w2 ⟨rfl, hbw2⟩; replace b0_0 := cell_b b0_0 hbw2; replace b0_1 := cell_b b0_1 hbw2; replace b0_2 := cell_b b0_2 hbw2; replace b1_0 := cell_b b1_0 hbw2; replace b1_1 := cell_b b1_1 hbw2; replace b1_2 := cell_b b1_2 hbw2; replace b2_0 := cell_b b2_0 hbw2; replace b2_1 := cell_b b2_1 hbw2; replace b2_2 := cell_b b2_2 hbw2; replace hbw : Below w.heap.size w w2 := hbw.trans (hbw2.mono hbw.size))
        have gb0_0 := grow_cell b0_0
        have gb0_1 := grow_cell b0_1
        have gb0_2 := grow_cell b0_2
        have gb1_0 := grow_cell b1_0
        have gb1_1 := grow_cell b1_1
        have gb1_2 := grow_cell b1_2
        have gb2_0 := grow_cell b2_0
        have gb2_1 := grow_cell b2_1
        have gb2_2 := grow_cell b2_2
        refine wp_region_grow (by kernel_rfl) (by kernel_rfl) ?_
        repeat ((with_reducible refine wpQuiet_step (fun K hK => ?_)); go_simp; first | (refine hK _ ?_; clear hK K) | (apply Exists.intro; refine ⟨fun w' hw' => ?_, hK _ ?_⟩; ((have hx := hbw.trans (Below.mono hw' hbw.size)); (try go_simp); first | (go_at_call 108; exact grow_call_s hw' (l7HasIn_any _ _ _ _ _ _ (h4.below hx)) k4) | (go_at_call 115; exact grow_call_b hw' (even_s _ _ _ _ (hP0.below hx) G.out x3 U1.out) k5) | rfl | exact ⟨rfl, rfl⟩); clear hK K))
        refine wpQuiet_nil ?_
        intro w3 hww3
        have hbw3 : Below w2.heap.size w2 w3 := hww3
        clear gb0_0 gb0_1 gb0_2 gb1_0 gb1_1 gb1_2 gb2_0 gb2_1 gb2_2
        replace b0_0 := cell_b b0_0 hbw3
        replace b0_1 := cell_b b0_1 hbw3
        replace b0_2 := cell_b b0_2 hbw3
        replace b1_0 := cell_b b1_0 hbw3
        replace b1_1 := cell_b b1_1 hbw3
        replace b1_2 := cell_b b1_2 hbw3
        replace b2_0 := cell_b b2_0 hbw3
        replace b2_1 := cell_b b2_1 hbw3
        replace b2_2 := cell_b b2_2 hbw3
        replace hbw : Below w.heap.size w w3 := hbw.trans (hbw3.mono hbw.size)
        clear hww3
        go_wp2_with fail
        go_ret
        refine ⟨ret_bool (Eq.symm ?_), hbw⟩
        first
        | (refine tf_true ?_; simp [x4.out, x5.out]; done)
        | (refine tf_false ?_; simp [x4.out, x5.out]; done)
    · rw [tf_congr (bet_way x1.out x3)]
      rcases tf_cases (Ev g a.head) with ⟨k5, x5⟩ | ⟨k5, x5⟩
      all_goals rcases dec_cases (a.way < b.way) with ⟨d6, x6⟩ | ⟨d6, x6⟩
      all_goals rcases dec_cases (b.way < a.way) with ⟨d7, x7⟩ | ⟨d7, x7⟩
      all_goals first | (exfalso; omega) | skip
      all_goals
        go_enter Try.func84, Try.ntmps84
        go_wp2_with fail
        generalize hqw1 : ((w.alloc (.cells #[.slice s1 n1 c1, .slice s2 n2 c2, .slice s3 n3 c3] 32)).alloc (.cells #[.int .i64 a.head, .slice s4 n4 c4, .int .i64 a.way] 42)).alloc (.cells #[.int .i64 b.head, .slice s5 n5 c5, .int .i64 b.way] 42) = w1
        have hbw : Below w.heap.size w w1 := by rw [← hqw1]; exact (by repeat' (first | (with_reducible exact Below.refl _ _) | (with_reducible apply Below.alloc) | (with_reducible apply Below.drew) | (with_reducible apply below_drawn) | omega | (simp only [World.size_alloc, World.size_setCell, World.size_drew]; omega)))
        have hew1 := Lib.hid (show w1.heap.size = w.heap.size + 1 + 1 + 1 by rw [← hqw1]; simp)
        have hsw : w.heap.size + 3 ≤ w1.heap.size := by rw [← hqw1]; simp only [World.size_alloc]; omega
        have hswa : w.heap.size < w1.heap.size := by omega
        have hswb : w.heap.size + 1 < w1.heap.size := by omega
        have hswc : w.heap.size + 1 + 1 < w1.heap.size := by omega
        have HQw1_0 : Blk w1 (w.heap.size) [.slice s1 n1 c1, .slice s2 n2 c2, .slice s3 n3 c3] 32 := by rw [← hqw1]; have hnew := blk_new w [.slice s1 n1 c1, .slice s2 n2 c2, .slice s3 n3 c3] 32; (try simp only [World.size_alloc] at hnew); exact (Blk.alloc (Blk.alloc hnew _) _)
        have b0_0 : w1.cell? ⟨w.heap.size, 0, none⟩ = some (.slice s1 n1 c1) := HQw1_0.cell 0 rfl
        have b0_1 : w1.cell? ⟨w.heap.size, 1, none⟩ = some (.slice s2 n2 c2) := HQw1_0.cell 1 rfl
        have b0_2 : w1.cell? ⟨w.heap.size, 2, none⟩ = some (.slice s3 n3 c3) := HQw1_0.cell 2 rfl
        clear HQw1_0
        have HQw1_1 : Blk w1 (w.heap.size + 1) [.int .i64 a.head, .slice s4 n4 c4, .int .i64 a.way] 42 := by rw [← hqw1]; have hnew := blk_new (w.alloc (.cells #[.slice s1 n1 c1, .slice s2 n2 c2, .slice s3 n3 c3] 32)) [.int .i64 a.head, .slice s4 n4 c4, .int .i64 a.way] 42; (try simp only [World.size_alloc] at hnew); exact (Blk.alloc hnew _)
        have b1_0 : w1.cell? ⟨w.heap.size + 1, 0, none⟩ = some (.int .i64 a.head) := HQw1_1.cell 0 rfl
        have b1_1 : w1.cell? ⟨w.heap.size + 1, 1, none⟩ = some (.slice s4 n4 c4) := HQw1_1.cell 1 rfl
        have b1_2 : w1.cell? ⟨w.heap.size + 1, 2, none⟩ = some (.int .i64 a.way) := HQw1_1.cell 2 rfl
        clear HQw1_1
        have HQw1_2 : Blk w1 (w.heap.size + 1 + 1) [.int .i64 b.head, .slice s5 n5 c5, .int .i64 b.way] 42 := by rw [← hqw1]; have hnew := blk_new ((w.alloc (.cells #[.slice s1 n1 c1, .slice s2 n2 c2, .slice s3 n3 c3] 32)).alloc (.cells #[.int .i64 a.head, .slice s4 n4 c4, .int .i64 a.way] 42)) [.int .i64 b.head, .slice s5 n5 c5, .int .i64 b.way] 42; (try simp only [World.size_alloc] at hnew); exact hnew
        have b2_0 : w1.cell? ⟨w.heap.size + 1 + 1, 0, none⟩ = some (.int .i64 b.head) := HQw1_2.cell 0 rfl
        have b2_1 : w1.cell? ⟨w.heap.size + 1 + 1, 1, none⟩ = some (.slice s5 n5 c5) := HQw1_2.cell 1 rfl
        have b2_2 : w1.cell? ⟨w.heap.size + 1 + 1, 2, none⟩ = some (.int .i64 b.way) := HQw1_2.cell 2 rfl
        have HRw1 := Lib.hid HQw1_2
        clear HQw1_2
        clear hqw1
        clear HRw1
        go_wp2_with (first
          | (go_at_call 116; refine (unlike_s _ _ _ _ _ _ _ (hP0.below hbw) (hb4.below hbw) (hb5.below hbw)).mono ?_; rintro e w2 ⟨rfl, hbw2⟩; replace b0_0 := cell_b b0_0 hbw2; replace b0_1 := cell_b b0_1 hbw2; replace b0_2 := cell_b b0_2 hbw2; replace b1_0 := cell_b b1_0 hbw2; replace b1_1 := cell_b b1_1 hbw2; replace b1_2 := cell_b b1_2 hbw2; replace b2_0 := cell_b b2_0 hbw2; replace b2_1 := cell_b b2_1 hbw2; replace b2_2 := cell_b b2_2 hbw2; replace hbw : Below w.heap.size w w2 := hbw.trans (hbw2.mono hbw.size))
          | (go_at_call 115; refine (even_s _ _ _ _ (hP0.below hbw) G.out a0 A1.out).mono ?_; rw [k5.out]; rintro e w3 ⟨rfl, hbw3⟩; replace b0_0 := cell_b b0_0 hbw3; replace b0_1 := cell_b b0_1 hbw3; replace b0_2 := cell_b b0_2 hbw3; replace b1_0 := cell_b b1_0 hbw3; replace b1_1 := cell_b b1_1 hbw3; replace b1_2 := cell_b b1_2 hbw3; replace b2_0 := cell_b b2_0 hbw3; replace b2_1 := cell_b b2_1 hbw3; replace b2_2 := cell_b b2_2 hbw3; replace hbw : Below w.heap.size w w3 := hbw.trans (hbw3.mono hbw.size)))
        go_ret
        refine ⟨ret_bool (Eq.symm ?_), hbw⟩
        first
        | (refine tf_true ?_; simp [x5.out, x6, x7]; done)
        | (refine tf_false ?_; simp [x5.out, x6, x7]; done)
  · rw [tf_congr (bet_head x1.out)]
    rcases tf_cases (Ev g a.head) with ⟨k5, x5⟩ | ⟨k5, x5⟩
    all_goals rcases tf_cases (Ev g b.head) with ⟨k6, x6⟩ | ⟨k6, x6⟩
    all_goals rcases tf_cases (Heavy g a.head.toNat b.head.toNat) with ⟨k7, x7⟩ | ⟨k7, x7⟩
    all_goals
      go_enter Try.func84, Try.ntmps84
      go_wp2_with fail
      generalize hqw1 : ((w.alloc (.cells #[.slice s1 n1 c1, .slice s2 n2 c2, .slice s3 n3 c3] 32)).alloc (.cells #[.int .i64 a.head, .slice s4 n4 c4, .int .i64 a.way] 42)).alloc (.cells #[.int .i64 b.head, .slice s5 n5 c5, .int .i64 b.way] 42) = w1
      have hbw : Below w.heap.size w w1 := by rw [← hqw1]; exact (by repeat' (first | (with_reducible exact Below.refl _ _) | (with_reducible apply Below.alloc) | (with_reducible apply Below.drew) | (with_reducible apply below_drawn) | omega | (simp only [World.size_alloc, World.size_setCell, World.size_drew]; omega)))
      have hew1 := Lib.hid (show w1.heap.size = w.heap.size + 1 + 1 + 1 by rw [← hqw1]; simp)
      have hsw : w.heap.size + 3 ≤ w1.heap.size := by rw [← hqw1]; simp only [World.size_alloc]; omega
      have hswa : w.heap.size < w1.heap.size := by omega
      have hswb : w.heap.size + 1 < w1.heap.size := by omega
      have hswc : w.heap.size + 1 + 1 < w1.heap.size := by omega
      have HQw1_0 : Blk w1 (w.heap.size) [.slice s1 n1 c1, .slice s2 n2 c2, .slice s3 n3 c3] 32 := by rw [← hqw1]; have hnew := blk_new w [.slice s1 n1 c1, .slice s2 n2 c2, .slice s3 n3 c3] 32; (try simp only [World.size_alloc] at hnew); exact (Blk.alloc (Blk.alloc hnew _) _)
      have b0_0 : w1.cell? ⟨w.heap.size, 0, none⟩ = some (.slice s1 n1 c1) := HQw1_0.cell 0 rfl
      have b0_1 : w1.cell? ⟨w.heap.size, 1, none⟩ = some (.slice s2 n2 c2) := HQw1_0.cell 1 rfl
      have b0_2 : w1.cell? ⟨w.heap.size, 2, none⟩ = some (.slice s3 n3 c3) := HQw1_0.cell 2 rfl
      clear HQw1_0
      have HQw1_1 : Blk w1 (w.heap.size + 1) [.int .i64 a.head, .slice s4 n4 c4, .int .i64 a.way] 42 := by rw [← hqw1]; have hnew := blk_new (w.alloc (.cells #[.slice s1 n1 c1, .slice s2 n2 c2, .slice s3 n3 c3] 32)) [.int .i64 a.head, .slice s4 n4 c4, .int .i64 a.way] 42; (try simp only [World.size_alloc] at hnew); exact (Blk.alloc hnew _)
      have b1_0 : w1.cell? ⟨w.heap.size + 1, 0, none⟩ = some (.int .i64 a.head) := HQw1_1.cell 0 rfl
      have b1_1 : w1.cell? ⟨w.heap.size + 1, 1, none⟩ = some (.slice s4 n4 c4) := HQw1_1.cell 1 rfl
      have b1_2 : w1.cell? ⟨w.heap.size + 1, 2, none⟩ = some (.int .i64 a.way) := HQw1_1.cell 2 rfl
      clear HQw1_1
      have HQw1_2 : Blk w1 (w.heap.size + 1 + 1) [.int .i64 b.head, .slice s5 n5 c5, .int .i64 b.way] 42 := by rw [← hqw1]; have hnew := blk_new ((w.alloc (.cells #[.slice s1 n1 c1, .slice s2 n2 c2, .slice s3 n3 c3] 32)).alloc (.cells #[.int .i64 a.head, .slice s4 n4 c4, .int .i64 a.way] 42)) [.int .i64 b.head, .slice s5 n5 c5, .int .i64 b.way] 42; (try simp only [World.size_alloc] at hnew); exact hnew
      have b2_0 : w1.cell? ⟨w.heap.size + 1 + 1, 0, none⟩ = some (.int .i64 b.head) := HQw1_2.cell 0 rfl
      have b2_1 : w1.cell? ⟨w.heap.size + 1 + 1, 1, none⟩ = some (.slice s5 n5 c5) := HQw1_2.cell 1 rfl
      have b2_2 : w1.cell? ⟨w.heap.size + 1 + 1, 2, none⟩ = some (.int .i64 b.way) := HQw1_2.cell 2 rfl
      have HRw1 := Lib.hid HQw1_2
      clear HQw1_2
      clear hqw1
      clear HRw1
      have gb0_0 := grow_cell b0_0
      have gb0_1 := grow_cell b0_1
      have gb0_2 := grow_cell b0_2
      have gb1_0 := grow_cell b1_0
      have gb1_1 := grow_cell b1_1
      have gb1_2 := grow_cell b1_2
      have gb2_0 := grow_cell b2_0
      have gb2_1 := grow_cell b2_1
      have gb2_2 := grow_cell b2_2
      refine wp_region_grow (by kernel_rfl) (by kernel_rfl) ?_
      repeat ((with_reducible refine wpQuiet_step (fun K hK => ?_)); go_simp; first | (refine hK _ ?_; clear hK K) | (apply Exists.intro; refine ⟨fun w' hw' => ?_, hK _ ?_⟩; ((have hx := hbw.trans (Below.mono hw' hbw.size)); (try go_simp); first | (go_at_call 115; exact grow_call_b hw' (even_s _ _ _ _ (hP0.below hx) G.out a0 A1.out) k5) | (go_at_call 115; exact grow_call_b hw' (even_s _ _ _ _ (hP0.below hx) G.out b0 B1.out) k6) | rfl | exact ⟨rfl, rfl⟩); clear hK K))
      refine wpQuiet_nil ?_
      intro w3 hww3
      have hbw3 : Below w1.heap.size w1 w3 := hww3
      clear gb0_0 gb0_1 gb0_2 gb1_0 gb1_1 gb1_2 gb2_0 gb2_1 gb2_2
      replace b0_0 := cell_b b0_0 hbw3
      replace b0_1 := cell_b b0_1 hbw3
      replace b0_2 := cell_b b0_2 hbw3
      replace b1_0 := cell_b b1_0 hbw3
      replace b1_1 := cell_b b1_1 hbw3
      replace b1_2 := cell_b b1_2 hbw3
      replace b2_0 := cell_b b2_0 hbw3
      replace b2_1 := cell_b b2_1 hbw3
      replace b2_2 := cell_b b2_2 hbw3
      replace hbw : Below w.heap.size w w3 := hbw.trans (hbw3.mono hbw.size)
      clear hww3
      go_wp2_with (go_at_call 115; refine (even_s _ _ _ _ (hP0.below hbw) G.out a0 A1.out).mono ?_; rw [k5.out]; rintro e w4 ⟨rfl, hbw4⟩; replace b0_0 := cell_b b0_0 hbw4; replace b0_1 := cell_b b0_1 hbw4; replace b0_2 := cell_b b0_2 hbw4; replace b1_0 := cell_b b1_0 hbw4; replace b1_1 := cell_b b1_1 hbw4; replace b1_2 := cell_b b1_2 hbw4; replace b2_0 := cell_b b2_0 hbw4; replace b2_1 := cell_b b2_1 hbw4; replace b2_2 := cell_b b2_2 hbw4; replace hbw : Below w.heap.size w w4 := hbw.trans (hbw4.mono hbw.size))
      first
      | (go_ret
         refine ⟨ret_bool (Eq.symm ?_), hbw⟩
         first
         | (refine tf_true ?_; simp [x5.out, x6.out, x7.out]; done)
         | (refine tf_false ?_; simp [x5.out, x6.out, x7.out]; done))
      | skip
    all_goals
      have gb0_0 := grow_cell b0_0
      have gb0_1 := grow_cell b0_1
      have gb0_2 := grow_cell b0_2
      have gb1_0 := grow_cell b1_0
      have gb1_1 := grow_cell b1_1
      have gb1_2 := grow_cell b1_2
      have gb2_0 := grow_cell b2_0
      have gb2_1 := grow_cell b2_1
      have gb2_2 := grow_cell b2_2
      refine wp_region_grow (by kernel_rfl) (by kernel_rfl) ?_
      repeat ((with_reducible refine wpQuiet_step (fun K hK => ?_)); go_simp; first | (refine hK _ ?_; clear hK K) | (apply Exists.intro; refine ⟨fun w' hw' => ?_, hK _ ?_⟩; ((have hx := hbw.trans (Below.mono hw' hbw.size)); (try go_simp); first | (go_at_call 66; exact grow_call_b hw' (heavy_s _ _ _ _ _ (hP0.below hx) a0 A1.out b0 B1.out) k7) | (go_at_call 115; exact grow_call_b hw' (even_s _ _ _ _ (hP0.below hx) G.out a0 A1.out) k5) | rfl | exact ⟨rfl, rfl⟩); clear hK K))
      refine wpQuiet_nil ?_
      intro w5 hww5
      have hbw5 : Below w3.heap.size w3 w5 := hww5
      clear gb0_0 gb0_1 gb0_2 gb1_0 gb1_1 gb1_2 gb2_0 gb2_1 gb2_2
      replace b0_0 := cell_b b0_0 hbw5
      replace b0_1 := cell_b b0_1 hbw5
      replace b0_2 := cell_b b0_2 hbw5
      replace b1_0 := cell_b b1_0 hbw5
      replace b1_1 := cell_b b1_1 hbw5
      replace b1_2 := cell_b b1_2 hbw5
      replace b2_0 := cell_b b2_0 hbw5
      replace b2_1 := cell_b b2_1 hbw5
      replace b2_2 := cell_b b2_2 hbw5
      replace hbw : Below w.heap.size w w5 := hbw.trans (hbw5.mono hbw.size)
      clear hww5
      go_wp2_with fail
      go_ret
      refine ⟨ret_bool (Eq.symm ?_), hbw⟩
      first
      | (refine tf_true ?_; simp [x5.out, x6.out, x7.out]; done)
      | (refine tf_false ?_; simp [x5.out, x6.out, x7.out]; done)
end Go.Proofs.Ytdbojkdfpkgfcaa
