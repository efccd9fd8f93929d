/-
  FirstStage of the program.
-/
import Derived.Test.YtdbojkdfpkgfcaaFirst
import Derived.Test.YtdbojkdfpkgfcaaOps2
namespace Go.Proofs.Ytdbojkdfpkgfcaa
set_option linter.unusedVariables false
set_option linter.unusedSimpArgs false
open Go.RowKit
attribute [local go_sem ↓] Go.wp_at_zero Go.wp_at_succ

theorem opnP_first (g : Pa) {v : Nat} (h : v < g.prio.length) : opnP g (tab g.prio.length fun _ => -1) v = gi g.prio v := by
  unfold opnP; rw [gi_tab _ h]; simp
theorem firstS_region (g : Pa) : (firstS g).region = g.prio := by
  unfold firstS resetS
  simp only [tab_len]
  rw [tab_congr (g := gi g.prio) fun j hj => opnP_first g hj, tab_self]
theorem maxTo_congr {f h : Nat → Int} {n : Nat} (e : ∀ k, k < n → f k = h k) : maxTo f n = maxTo h n := by
  induction n with
  | zero => rfl
  | succ n ih => simp only [maxTo]; rw [ih fun k hk => e k (by omega), e n (by omega)]
theorem topTo_all (pr : List Int) (n : Nat) : ∀ k, k ≤ n → topTo pr (tab n fun v => (v : Int)) k = maxTo (gi pr) k := by
  intro k
  induction k with
  | zero => intro _; rfl
  | succ k ih => intro h; simp only [topTo, maxTo]; rw [ih (by omega), gi_tab _ (by omega), Int.toNat_natCast]
theorem firstS_at (g : Pa) : (firstS g).at_ = topTo g.prio (tab g.prio.length fun v => (v : Int)) (tab g.prio.length fun v => (v : Int)).length := by
  rw [tab_len, topTo_all _ _ _ (Nat.le_refl _)]
  unfold firstS resetS
  simp only [tab_len]
  exact maxTo_congr fun k hk => opnP_first g hk

set_option maxRecDepth 100000 in
set_option maxHeartbeats 4000000 in
theorem firstStage_i (v : Value) (g : Pa) (w : World) (hP : IsP w v g) (hg : PaOk g) : Calls Try.prog 83 #[v] w (RetS w (firstS g)) := by
  have hP0 := hP
  obtain ⟨_, _, _, rfl, ⟨s1, n1, c1, rfl, h1⟩, ⟨s2, n2, c2, rfl, h2⟩, ⟨s3, n3, c3, rfl, h3⟩⟩ := hP
  have hA : IsA w (.agg #[.slice s1 n1 c1, .slice s2 n2 c2]) g.ar := ⟨_, _, rfl, h1.is, h2.is⟩
  have hm3 := h3.max
  obtain rfl := h3.1
  have hn : g.ar.own.length ≤ 256 := hg.ar.le
  have hl : g.prio.length = g.ar.own.length := hg.len
  have h0 : 0 < g.prio.length := by have := hg.ar.pos; omega
  have hn3 : g.prio.length ≤ 1048576 := by omega
  have HN := Lib.hid hn
  have HL := Lib.hid hl
  have H0 := Lib.hid h0
  have HN3 := Lib.hid hn3
  have hB : Bnd (tab g.ar.own.length fun v => (v : Int)) g.prio.length := fun k hk => by rw [tab_len] at hk; rw [gi_tab _ hk]; omega
  have BN := Lib.hid hB
  clear hB
  clear hn hl h0 hn3 hg
  go_enter Try.func83, Try.ntmps83
  go_wp2_with fail
  generalize hqw1 : (w.alloc (.cells #[.slice s1 n1 c1, .slice s2 n2 c2, .slice s3 g.prio.length c3] 32)).alloc (.cells #[.slice none 0 0, .slice none 0 0, .int .i64 0] 54) = w1
  have hbw : Below w.heap.size w w1 := by rw [← hqw1]; exact (by repeat' (first | (with_reducible exact Below.refl _ _) | (with_reducible apply Below.alloc) | (with_reducible apply Below.drew) | (with_reducible apply below_drawn) | omega | (simp only [World.size_alloc, World.size_setCell, World.size_drew]; omega)))
  have hew1 := Lib.hid (show w1.heap.size = w.heap.size + 1 + 1 by rw [← hqw1]; simp)
  have hsw : w.heap.size + 2 ≤ w1.heap.size := by rw [← hqw1]; simp only [World.size_alloc]; omega
  have hswa : w.heap.size < w1.heap.size := by omega
  have hswb : w.heap.size + 1 < w1.heap.size := by omega
  have b0_0 : w1.cell? ⟨w.heap.size, 0, none⟩ = some (.slice s1 n1 c1) := by rw [← hqw1]; simp
  have b0_1 : w1.cell? ⟨w.heap.size, 1, none⟩ = some (.slice s2 n2 c2) := by rw [← hqw1]; simp
  have b0_2 : w1.cell? ⟨w.heap.size, 2, none⟩ = some (.slice s3 g.prio.length c3) := by rw [← hqw1]; simp
  have b1_0 : w1.cell? ⟨w.heap.size + 1, 0, none⟩ = some (.slice none 0 0) := by rw [← hqw1]; simp
  have b1_1 : w1.cell? ⟨w.heap.size + 1, 1, none⟩ = some (.slice none 0 0) := by rw [← hqw1]; simp
  have b1_2 : w1.cell? ⟨w.heap.size + 1, 2, none⟩ = some (.int .i64 0) := by rw [← hqw1]; simp
  have HRw1 := Lib.hid (show Blk w1 (w.heap.size + 1) [.slice none 0 0, .slice none 0 0, .int .i64 0] 54 by rw [← hqw1]; first | exact blk_new _ _ _ | (have hnew := blk_new (w.alloc (.cells #[.slice s1 n1 c1, .slice s2 n2 c2, .slice s3 g.prio.length c3] 32)) [.slice none 0 0, .slice none 0 0, .int .i64 0] 54; simpa using hnew))
  clear hqw1
  have hR : Blk w1 (w.heap.size + 1) [.slice none 0 0, .slice none 0 0, .int .i64 0] 54 := HRw1.out
  clear HRw1 b1_0 b1_1 b1_2 h1 h2
  go_region_held3 (fun w' => w'.cell? ⟨w.heap.size, 0, none⟩ = some (.slice s1 n1 c1) ∧ w'.cell? ⟨w.heap.size, 1, none⟩ = some (.slice s2 n2 c2) ∧ w'.cell? ⟨w.heap.size, 2, none⟩ = some (.slice s3 g.prio.length c3)) (first | exact ⟨b0_0, b0_1, b0_2⟩ | exact ⟨cell_b (cell_b b0_0 (below_drew _)) (below_alloc _ _), cell_b (cell_b b0_1 (below_drew _)) (below_alloc _ _), cell_b (cell_b b0_2 (below_drew _)) (below_alloc _ _)⟩ | exact ⟨g2_b0_0, g2_b0_1, g2_b0_2⟩ | exact ⟨cell_b g2_b0_0 (below_alloc _ _), cell_b g2_b0_1 (below_alloc _ _), cell_b g2_b0_2 (below_alloc _ _)⟩ | exact ⟨g4_b0_0, g4_b0_1, g4_b0_2⟩ | exact ⟨cell_b g4_b0_0 (below_alloc _ _), cell_b g4_b0_1 (below_alloc _ _), cell_b g4_b0_2 (below_alloc _ _)⟩ | exact ⟨g5_b0_0, g5_b0_1, g5_b0_2⟩ | exact ⟨cell_b g5_b0_0 (below_alloc _ _), cell_b g5_b0_1 (below_alloc _ _), cell_b g5_b0_2 (below_alloc _ _)⟩ | exact ⟨g7_b0_0, g7_b0_1, g7_b0_2⟩ | exact ⟨cell_b g7_b0_0 (below_alloc _ _), cell_b g7_b0_1 (below_alloc _ _), cell_b g7_b0_2 (below_alloc _ _)⟩ | go_keep)
    (first
      | (go_at_call 109; refine (noPlan_i _ _ _ (hA.below (by repeat' (first | (with_reducible exact Below.refl _ _) | (with_reducible assumption) | (with_reducible apply below_set) | (with_reducible apply Below.alloc) | (with_reducible apply Below.drew) | (with_reducible apply below_drawn) | (with_reducible refine Below.trans ?_ (Below.mono (by assumption) ?_)) | omega | (simp only [World.size_alloc, World.size_setCell, World.size_drew]; omega)))) (by have := HN.out; omega)).mono ?_; rintro e w2 ⟨s5, n5, c5, rfl, ho5, hb2⟩; have hq2 : Below w1.heap.size w1 w2 := (by repeat' (first | (with_reducible exact Below.refl _ _) | (with_reducible assumption) | (with_reducible apply below_set) | (with_reducible apply Below.alloc) | (with_reducible apply Below.drew) | (with_reducible apply below_drawn) | (with_reducible refine Below.trans ?_ (Below.mono (by assumption) ?_)) | omega | (simp only [World.size_alloc, World.size_setCell, World.size_drew]; omega))); have hz2 := hq2.size; (try simp only [World.size_alloc, World.size_setCell, World.size_drew] at hz2); have hw2 := hbw.trans (hq2.mono hbw.size); have g2_b0_0 := cell_l b0_0 hq2 (by omega); have g2_b0_1 := cell_l b0_1 hq2 (by omega); have g2_b0_2 := cell_l b0_2 hq2 (by omega))
      | (go_at_call 114; refine (allOf_i _ _ _ (hA.below (by repeat' (first | (with_reducible exact Below.refl _ _) | (with_reducible assumption) | (with_reducible apply below_set) | (with_reducible apply Below.alloc) | (with_reducible apply Below.drew) | (with_reducible apply below_drawn) | (with_reducible refine Below.trans ?_ (Below.mono (by assumption) ?_)) | omega | (simp only [World.size_alloc, World.size_setCell, World.size_drew]; omega)))) HN.out).mono ?_; rintro e w4 ⟨s6, n6, c6, rfl, ho6, hb4⟩; have hq4 : Below w1.heap.size w1 w4 := (by repeat' (first | (with_reducible exact Below.refl _ _) | (with_reducible assumption) | (with_reducible apply below_set) | (with_reducible apply Below.alloc) | (with_reducible apply Below.drew) | (with_reducible apply below_drawn) | (with_reducible refine Below.trans ?_ (Below.mono (by assumption) ?_)) | omega | (simp only [World.size_alloc, World.size_setCell, World.size_drew]; omega))); have hz4 := hq4.size; (try simp only [World.size_alloc, World.size_setCell, World.size_drew] at hz4); have hw4 := hbw.trans (hq4.mono hbw.size); have g4_b0_0 := cell_l b0_0 hq4 (by omega); have g4_b0_1 := cell_l b0_1 hq4 (by omega); have g4_b0_2 := cell_l b0_2 hq4 (by omega))
      | (go_at_call 107; refine (topIn_i _ _ _ _ _ (hP0.below (by repeat' (first | (with_reducible exact Below.refl _ _) | (with_reducible assumption) | (with_reducible apply below_set) | (with_reducible apply Below.alloc) | (with_reducible apply Below.drew) | (with_reducible apply below_drawn) | (with_reducible refine Below.trans ?_ (Below.mono (by assumption) ?_)) | omega | (simp only [World.size_alloc, World.size_setCell, World.size_drew]; omega)))) ((ho6.is).below (by repeat' (first | (with_reducible exact Below.refl _ _) | (with_reducible assumption) | (with_reducible apply below_set) | (with_reducible apply Below.alloc) | (with_reducible apply Below.drew) | (with_reducible apply below_drawn) | (with_reducible refine Below.trans ?_ (Below.mono (by assumption) ?_)) | omega | (simp only [World.size_alloc, World.size_setCell, World.size_drew]; omega)))) BN.out).mono ?_; rintro e w5 ⟨rfl, hb5⟩; have hq5 : Below w1.heap.size w1 w5 := (by repeat' (first | (with_reducible exact Below.refl _ _) | (with_reducible assumption) | (with_reducible apply below_set) | (with_reducible apply Below.alloc) | (with_reducible apply Below.drew) | (with_reducible apply below_drawn) | (with_reducible refine Below.trans ?_ (Below.mono (by assumption) ?_)) | omega | (simp only [World.size_alloc, World.size_setCell, World.size_drew]; omega))); have hz5 := hq5.size; (try simp only [World.size_alloc, World.size_setCell, World.size_drew] at hz5); have hw5 := hbw.trans (hq5.mono hbw.size); have g5_b0_0 := cell_l b0_0 hq5 (by omega); have g5_b0_1 := cell_l b0_1 hq5 (by omega); have g5_b0_2 := cell_l b0_2 hq5 (by omega); have hR5 := hR.bel hq5 (by omega); have r5_0 := hR5.cell 0 rfl; have y5_0 := hR5.free 0; have r5_1 := hR5.cell 1 rfl; have y5_1 := hR5.free 1; have r5_2 := hR5.cell 2 rfl; have y5_2 := hR5.free 2)
      | ((refine step_copy_ints (by rfl) _ _ (by rfl) _ (by rfl) (by rfl) (h3.below (by repeat' (first | (with_reducible exact Below.refl _ _) | (with_reducible assumption) | (with_reducible apply below_set) | (with_reducible apply Below.alloc) | (with_reducible apply Below.drew) | (with_reducible apply below_drawn) | (with_reducible refine Below.trans ?_ (Below.mono (by assumption) ?_)) | omega | (simp only [World.size_alloc, World.size_setCell, World.size_drew]; omega)))) H0.out HN3.out ?_; intro s7 c7 w7 ho7 hb7; have hq7 : Below w1.heap.size w1 w7 := (by repeat' (first | (with_reducible exact Below.refl _ _) | (with_reducible assumption) | (with_reducible apply below_set) | (with_reducible apply Below.alloc) | (with_reducible apply Below.drew) | (with_reducible apply below_drawn) | (with_reducible refine Below.trans ?_ (Below.mono (by assumption) ?_)) | omega | (simp only [World.size_alloc, World.size_setCell, World.size_drew]; omega))); have hz7 := hq7.size; (try simp only [World.size_alloc, World.size_setCell, World.size_drew] at hz7); have hw7 := hbw.trans (hq7.mono hbw.size); have g7_b0_0 := cell_l b0_0 hq7 (by omega); have g7_b0_1 := cell_l b0_1 hq7 (by omega); have g7_b0_2 := cell_l b0_2 hq7 (by omega); have hR7 := hR.bel hq7 (by omega); have r7_0 := hR7.cell 0 rfl; have y7_0 := hR7.free 0; have r7_1 := hR7.cell 1 rfl; have y7_1 := hR7.free 1; have r7_2 := hR7.cell 2 rfl; have y7_2 := hR7.free 2)))
  all_goals
    go_wp2_with fail
    first
    | refine bodyPost_ret (v := .agg #[.slice s5 n5 c5, .slice s7 g.prio.length c7, .int .i64 (topTo g.prio (tab g.ar.own.length fun v => (v : Int)) (tab g.ar.own.length fun v => (v : Int)).length)]) (by simp [results, Try.results83, go_sem, r5_0, r5_1, r5_2, y5_0, y5_1, y5_2]) rfl ?_
    | refine bodyPost_ret (v := .agg #[.slice s5 n5 c5, .slice s7 g.prio.length c7, .int .i64 (topTo g.prio (tab g.ar.own.length fun v => (v : Int)) (tab g.ar.own.length fun v => (v : Int)).length)]) (by simp [results, Try.results83, go_sem, r7_0, r7_1, r7_2, y7_0, y7_1, y7_2]) rfl ?_
    have e1 : tab g.ar.own.length (fun _ => -1) = (firstS g).won := by unfold firstS resetS; rw [← HL.out]
    have e2 : g.prio = (firstS g).region := (firstS_region g).symm
    have e3 : topTo g.prio (tab g.ar.own.length fun v => (v : Int)) (tab g.ar.own.length fun v => (v : Int)).length = (firstS g).at_ := by rw [← HL.out]; exact (firstS_at g).symm
    have k5 := ho5
    have k7 := ho7
    refine ⟨_, _, _, _, _, _, _, rfl, ⟨_, _, by rw [e3], ?_, ?_, ?_⟩, ?_⟩
    · clear hw2 hw4 hw5 hw7 hq2 hq4 hq5 hq7 hbw
      rw [← e1]; exact ho5.final (by repeat' (first | (with_reducible exact Kept.refl _ _ _) | (with_reducible apply Kept.set) | (with_reducible apply Kept.alloc) | (with_reducible apply Kept.drew) | (with_reducible apply Kept.drewN) | (with_reducible refine Kept.below ?_ (by assumption)) | omega | (simp only [World.size_alloc, World.size_setCell, World.size_drew]; omega))) (by first | omega | (simp only [World.size_alloc, World.size_setCell, World.size_drew]; omega))
    · clear hw2 hw4 hw5 hw7 hq2 hq4 hq5 hq7 hbw
      rw [← e2]; exact ho7.final (by repeat' (first | (with_reducible exact Kept.refl _ _ _) | (with_reducible apply Kept.set) | (with_reducible apply Kept.alloc) | (with_reducible apply Kept.drew) | (with_reducible apply Kept.drewN) | (with_reducible refine Kept.below ?_ (by assumption)) | omega | (simp only [World.size_alloc, World.size_setCell, World.size_drew]; omega))) (by first | omega | (simp only [World.size_alloc, World.size_setCell, World.size_drew]; omega))
    · intro x hx hy
      have h1 := OwnV.lt k5 x hx
      have h2 := OwnV.lt k7 x hy
      simp only [World.size_alloc, World.size_setCell, World.size_drew] at h1 h2
      omega
    · exact (by repeat' (first | (with_reducible exact Below.refl _ _) | (with_reducible assumption) | (with_reducible apply below_set) | (with_reducible apply Below.alloc) | (with_reducible apply Below.drew) | (with_reducible apply below_drawn) | (with_reducible refine Below.trans ?_ (Below.mono (by assumption) ?_)) | omega | (simp only [World.size_alloc, World.size_setCell, World.size_drew]; omega)))

set_option maxHeartbeats 1000000 in
theorem first_i (v : Value) (g : Pa) (w : World) (hP : IsP w v g) : Calls Try.prog 39 #[v] w (RetS w (fstS g)) := by
  have hP0 := hP
  obtain ⟨_, _, _, rfl, ⟨s1, n1, c1, rfl, h1⟩, ⟨s2, n2, c2, rfl, h2⟩, ⟨s3, n3, c3, rfl, h3⟩⟩ := hP
  by_cases hg : Small g
  · have k1 := Lib.hid (tf_true hg)
    rw [fstS_ok hg]
    have HN := Lib.hid hg.1
    clear hg
    go_enter Try.func39, Try.ntmps39
    go_wp2_with fail
    generalize hqw1 : (w.alloc (.cells #[.slice s1 n1 c1, .slice s2 n2 c2, .slice s3 n3 c3] 32)).alloc (.cells #[.slice none 0 0, .slice none 0 0, .int .i64 0] 54) = w1
    have hbw : Below w.heap.size w w1 := by rw [← hqw1]; exact (by repeat' (first | (with_reducible exact Below.refl _ _) | (with_reducible apply Below.alloc) | (with_reducible apply Below.drew) | (with_reducible apply below_drawn) | omega | (simp only [World.size_alloc, World.size_setCell, World.size_drew]; omega)))
    have hew1 := Lib.hid (show w1.heap.size = w.heap.size + 1 + 1 by rw [← hqw1]; simp)
    have hsw : w.heap.size + 2 ≤ w1.heap.size := by rw [← hqw1]; simp only [World.size_alloc]; omega
    have hswa : w.heap.size < w1.heap.size := by omega
    have hswb : w.heap.size + 1 < w1.heap.size := by omega
    have b0_0 : w1.cell? ⟨w.heap.size, 0, none⟩ = some (.slice s1 n1 c1) := by rw [← hqw1]; simp
    have b0_1 : w1.cell? ⟨w.heap.size, 1, none⟩ = some (.slice s2 n2 c2) := by rw [← hqw1]; simp
    have b0_2 : w1.cell? ⟨w.heap.size, 2, none⟩ = some (.slice s3 n3 c3) := by rw [← hqw1]; simp
    have b1_0 : w1.cell? ⟨w.heap.size + 1, 0, none⟩ = some (.slice none 0 0) := by rw [← hqw1]; simp
    have b1_1 : w1.cell? ⟨w.heap.size + 1, 1, none⟩ = some (.slice none 0 0) := by rw [← hqw1]; simp
    have b1_2 : w1.cell? ⟨w.heap.size + 1, 2, none⟩ = some (.int .i64 0) := by rw [← hqw1]; simp
    have HRw1 := Lib.hid (show Blk w1 (w.heap.size + 1) [.slice none 0 0, .slice none 0 0, .int .i64 0] 54 by rw [← hqw1]; first | exact blk_new _ _ _ | (have hnew := blk_new (w.alloc (.cells #[.slice s1 n1 c1, .slice s2 n2 c2, .slice s3 n3 c3] 32)) [.slice none 0 0, .slice none 0 0, .int .i64 0] 54; simpa using hnew))
    clear hqw1
    have hR : Blk w1 (w.heap.size + 1) [.slice none 0 0, .slice none 0 0, .int .i64 0] 54 := HRw1.out
    go_wp2_with (first
      | (go_at_call 67; refine (small_i _ _ _ (hP0.below hbw)).mono ?_; rw [k1.out]; rintro e w2 ⟨rfl, hbw2⟩; replace b0_0 := cell_b b0_0 hbw2; replace b0_1 := cell_b b0_1 hbw2; replace b0_2 := cell_b b0_2 hbw2; replace hR := hR.below hbw2; replace hbw : Below w.heap.size w w2 := hbw.trans (hbw2.mono hbw.size); have hz2 := hbw2.size)
      | (go_at_call 83; refine (firstStage_i _ _ _ (hP0.below hbw) HN.out).mono ?_; rintro e w3 ⟨s6, n6, c6, s7, n7, c7, v7, rfl, ho3, hbw3⟩; replace b0_0 := cell_b b0_0 hbw3; replace b0_1 := cell_b b0_1 hbw3; replace b0_2 := cell_b b0_2 hbw3; replace hR := hR.below hbw3; replace hbw : Below w.heap.size w w3 := hbw.trans (hbw3.mono hbw.size); have hz3 := hbw3.size; have r0 := hR.cell 0 rfl; have r1 := hR.cell 1 rfl; have r2 := hR.cell 2 rfl; have y0 := hR.free 0; have y1 := hR.free 1; have y2 := hR.free 2))
    refine bodyPost_ret (v := .agg #[.slice s6 n6 c6, .slice s7 n7 c7, .int .i64 v7]) (by simp [results, Try.results39, go_sem, r0, r1, r2, y0, y1, y2]) rfl ?_
    obtain ⟨hA, hC, hd, hv⟩ := ho3.parts
    have hA' := ((hA.off (g := w.heap.size + 1) (by omega) 0 (.slice s6 n6 c6)).off (g := w.heap.size + 1) (by omega) 1 (.slice s7 n7 c7)).off (g := w.heap.size + 1) (by omega) 2 (.int .i64 v7)
    have hC' := ((hC.off (g := w.heap.size + 1) (by omega) 0 (.slice s6 n6 c6)).off (g := w.heap.size + 1) (by omega) 1 (.slice s7 n7 c7)).off (g := w.heap.size + 1) (by omega) 2 (.int .i64 v7)
    exact ⟨_, _, _, _, _, _, _, rfl, ⟨_, _, by rw [hv]; try rfl, hA'.top.mono (by omega) (Nat.le_refl _), hC'.top.mono (by omega) (Nat.le_refl _), hd⟩, below_set (below_set (below_set hbw (by omega) _) (by omega) _) (by omega) _⟩
  · have k1 := Lib.hid (tf_false hg)
    rw [fstS_no hg]
    clear hg
    go_enter Try.func39, Try.ntmps39
    go_wp2_with fail
    generalize hqw1 : (w.alloc (.cells #[.slice s1 n1 c1, .slice s2 n2 c2, .slice s3 n3 c3] 32)).alloc (.cells #[.slice none 0 0, .slice none 0 0, .int .i64 0] 54) = w1
    have hbw : Below w.heap.size w w1 := by rw [← hqw1]; exact (by repeat' (first | (with_reducible exact Below.refl _ _) | (with_reducible apply Below.alloc) | (with_reducible apply Below.drew) | (with_reducible apply below_drawn) | omega | (simp only [World.size_alloc, World.size_setCell, World.size_drew]; omega)))
    have hew1 := Lib.hid (show w1.heap.size = w.heap.size + 1 + 1 by rw [← hqw1]; simp)
    have hsw : w.heap.size + 2 ≤ w1.heap.size := by rw [← hqw1]; simp only [World.size_alloc]; omega
    have hswa : w.heap.size < w1.heap.size := by omega
    have hswb : w.heap.size + 1 < w1.heap.size := by omega
    have b0_0 : w1.cell? ⟨w.heap.size, 0, none⟩ = some (.slice s1 n1 c1) := by rw [← hqw1]; simp
    have b0_1 : w1.cell? ⟨w.heap.size, 1, none⟩ = some (.slice s2 n2 c2) := by rw [← hqw1]; simp
    have b0_2 : w1.cell? ⟨w.heap.size, 2, none⟩ = some (.slice s3 n3 c3) := by rw [← hqw1]; simp
    have b1_0 : w1.cell? ⟨w.heap.size + 1, 0, none⟩ = some (.slice none 0 0) := by rw [← hqw1]; simp
    have b1_1 : w1.cell? ⟨w.heap.size + 1, 1, none⟩ = some (.slice none 0 0) := by rw [← hqw1]; simp
    have b1_2 : w1.cell? ⟨w.heap.size + 1, 2, none⟩ = some (.int .i64 0) := by rw [← hqw1]; simp
    have HRw1 := Lib.hid (show Blk w1 (w.heap.size + 1) [.slice none 0 0, .slice none 0 0, .int .i64 0] 54 by rw [← hqw1]; first | exact blk_new _ _ _ | (have hnew := blk_new (w.alloc (.cells #[.slice s1 n1 c1, .slice s2 n2 c2, .slice s3 n3 c3] 32)) [.slice none 0 0, .slice none 0 0, .int .i64 0] 54; simpa using hnew))
    clear hqw1
    have hR : Blk w1 (w.heap.size + 1) [.slice none 0 0, .slice none 0 0, .int .i64 0] 54 := HRw1.out
    go_wp2_with (go_at_call 67; refine (small_i _ _ _ (hP0.below hbw)).mono ?_; rw [k1.out]; rintro e w2 ⟨rfl, hbw2⟩; replace b0_0 := cell_b b0_0 hbw2; replace b0_1 := cell_b b0_1 hbw2; replace b0_2 := cell_b b0_2 hbw2; replace hR := hR.below hbw2; replace hbw : Below w.heap.size w w2 := hbw.trans (hbw2.mono hbw.size); have r0 := hR.cell 0 rfl; have r1 := hR.cell 1 rfl; have r2 := hR.cell 2 rfl; have y0 := hR.free 0; have y1 := hR.free 1; have y2 := hR.free 2)
    refine bodyPost_ret (v := .agg #[.slice none 0 0, .slice none 0 0, .int .i64 0]) (by simp [results, Try.results39, go_sem, r0, r1, r2, y0, y1, y2]) rfl ?_
    exact ⟨_, _, _, _, _, _, _, rfl, own_zeroS _ _, below_set (below_set (below_set hbw (by omega) _) (by omega) _) (by omega) _⟩
theorem fstS_sz (g : Pa) : szS (fstS g) ≤ 1048576 := by
  by_cases h : Small g
  · rw [fstS_ok h]
    have := h.2
    unfold szS
    rw [firstS_region]
    have e : (firstS g).won.length = g.prio.length := by unfold firstS resetS; simp
    omega
  · rw [fstS_no h]; unfold szS zeroS; simp
end Go.Proofs.Ytdbojkdfpkgfcaa
