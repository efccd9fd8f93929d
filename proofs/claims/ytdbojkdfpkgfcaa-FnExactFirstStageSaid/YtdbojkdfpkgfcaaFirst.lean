/-
  FirstStage: the program's and the reference's.
-/
import Derived.Test.YtdbojkdfpkgfcaaSetC
import Derived.Test.YtdbojkdfpkgfcaaHeavy
import Derived.Test.YtdbojkdfpkgfcaaStage
namespace Go.Proofs.Ytdbojkdfpkgfcaa
set_option linter.unusedVariables false
set_option linter.unusedSimpArgs false
open Go.RowKit
attribute [local go_sem ↓] Go.wp_at_zero Go.wp_at_succ

/-- The greatest of the first k values, -1 at least. -/
def maxTo (f : Nat → Int) : Nat → Int
  | 0 => -1
  | k + 1 => max (maxTo f k) (f k)
/-- The open vertices' priorities, -1 elsewhere. -/
def opnP (g : Pa) (won : List Int) (v : Nat) : Int := if gi won v < 0 then gi g.prio v else -1
def resetS (g : Pa) (won : List Int) : St := ⟨won, tab won.length (opnP g won), maxTo (opnP g won) won.length⟩

set_option maxHeartbeats 1000000 in
theorem l11Reset_s (v u : Value) (g : Pa) (won : List Int) (w : World) (hP : IsP w v g) (hx : IsI w u won) (hl : won.length = g.prio.length) (hn : g.prio.length ≤ 256) : Calls Try.prog 112 #[v, u] w (RetS w (resetS g won)) := by
  obtain ⟨_, _, _, rfl, ⟨s1, n1, c1, rfl, h1⟩, ⟨s2, n2, c2, rfl, h2⟩, ⟨s3, n3, c3, rfl, h3⟩⟩ := hP
  obtain ⟨s4, n4, c4, rfl, h4⟩ := hx
  have hm4 := h4.max
  obtain rfl := h4.1
  have H3 := Lib.hid (h3.1.symm.trans hl.symm)
  have hn' : won.length ≤ 256 := by omega
  clear hl hn
  go_enter Try.func112, Try.ntmps112
  go_wp2_with fail
  refine (l1Copy_any _ _ _ _ _ (h4.below (by repeat' (first | (with_reducible exact Below.refl _ _) | (with_reducible apply Below.alloc) | (with_reducible apply Below.drew) | (with_reducible apply below_drawn) | omega | (simp only [World.size_alloc, World.size_setCell, World.size_drew]; omega)))) (by omega)).mono ?_
  rintro e w2 ⟨s5, n5, c5, rfl, ho2, hb2⟩
  obtain rfl := ho2.len
  have hz2 := hb2.size
  simp only [World.size_alloc] at hz2
  have hz3 : w2.heap.size < (w2.alloc (.cells #[.slice s5 won.length c5, .slice none 0 0, .int .i64 (-1)] 54)).heap.size := by simp
  have b0 : w2.cell? ⟨w.heap.size, 2, none⟩ = some (.slice s3 n3 c3) := by rw [hb2.cell (by simp; omega)]; simp
  have hR : Blk w2 (w.heap.size + 1) [.slice none 0 0, .slice none 0 0, .int .i64 0] 54 := by
    have := (blk_new (w.alloc (.cells #[.slice s1 n1 c1, .slice s2 n2 c2, .slice s3 n3 c3] 32)) [.slice none 0 0, .slice none 0 0, .int .i64 0] 54).below hb2
    simpa using this
  have hbw : Below w.heap.size w w2 := (by repeat' (first | (with_reducible exact Below.refl _ _) | (with_reducible assumption) | (with_reducible apply below_set) | (with_reducible apply Below.alloc) | (with_reducible apply Below.drew) | (with_reducible apply below_drawn) | (with_reducible refine Below.trans ?_ (Below.mono (by assumption) ?_)) | omega | (simp only [World.size_alloc, World.size_setCell, World.size_drew]; omega)))
  go_wp2_with fail
  go_loopw [6, 7] (fun i _ wr => ∃ (k c : Nat) (sa : Option Addr), k ≤ won.length ∧ i = .int .i64 k ∧ Blk wr w2.heap.size [.slice s5 won.length c5, .slice sa k c, .int .i64 (maxTo (opnP g won) k)] 54 ∧ OwnI (w2.heap.size + 1) wr.heap.size wr (.slice sa k c) (tab k (opnP g won)) ∧ Below w2.heap.size w2 wr) (fun i _ _ => won.length - (intOf i).toNat)
  case atStart => exact ⟨0, 0, none, by omega, rfl, blk_new _ _ _, ownV_nil _ _ _ _, below_alloc _ _⟩
  case round =>
    obtain ⟨k, c, sa, hk, rfl, hB, ho, hb⟩ := hrel
    have f1 := hB.cell 1 rfl
    have f2 := hB.cell 2 rfl
    have z1 := hB.free 1
    have z2 := hB.free 2
    have hlB := hB.lt
    have f0 := hB.cell 0 rfl
    replace b0 := cell_b b0 hb
    replace hR := hR.below hb
    have r0 := hR.cell 0 rfl
    have r1 := hR.cell 1 rfl
    have r2 := hR.cell 2 rfl
    have y0 := hR.free 0
    have y1 := hR.free 1
    have y2 := hR.free 2
    replace hbw := hbw.trans (hb.mono hbw.size)
    by_cases hlt : k < won.length
    · obtain ⟨b4, o4, rfl, hbl4, hc4⟩ := (h4.below hbw).get hlt
      have q4 := hc4 k hlt
      have hlt3 : k < n3 := by have := H3.out; omega
      obtain ⟨b3, o3, rfl, hbl3, hc3⟩ := (h3.below hbw).get hlt3
      have q3 := hc3 k hlt3
      clear hc3 hc4
      have HM := Lib.hid (show maxTo (opnP g won) (k + 1) = max (maxTo (opnP g won) k) (opnP g won k) from rfl)
      rcases dec_cases (gi won k < 0) with ⟨d1, x1⟩ | ⟨d1, x1⟩
      all_goals
        first
        | (have HO := Lib.hid (show opnP g won k = gi g.prio k from if_pos x1))
        | (have HO := Lib.hid (show opnP g won k = -1 from if_neg x1))
        go_wp2_with (first
          | (at_builtin; refine app_int rfl _ _ rfl rfl (OwnI.alloc ho _) (opnP g won k) _ _ rfl (by simp [HO.out]) (by simp; omega) (by have := hb.size; simp; omega) ?_; intro sa' c' w4 ho4 hO4; have hB4 := (hB.alloc _).out hO4 (by omega); have f4 := hB4.cell 1 rfl; have f5 := hB4.cell 2 rfl; have z4 := hB4.free 1; have z5 := hB4.free 2)
          | (go_at_call 135; refine (l1Max_any _ _ _).mono ?_; rintro e w5 ⟨rfl, rfl⟩))
        go_roundw
        case rel =>
          rw [tab_len] at *
          refine ⟨k + 1, c', sa', by omega, by go_num, ?_, ?_, ?_⟩
          · rw [HM.out, HO.out]; exact (hB4.set 1 _).set 2 _
          · have := ((ho4.off (g := w2.heap.size) (by omega) 1 (.slice sa' (k + 1) c')).off (g := w2.heap.size) (by omega) 2 (.int .i64 (max (maxTo (opnP g won) k) (opnP g won k)))).top
            rw [← tab_succ (f := opnP g won)] at this
            rw [HO.out] at this; exact this
          · exact below_set (below_set (bel_app2 hb hO4 (by omega) (by omega)) (Nat.le_refl _) _) (Nat.le_refl _) _
        case measure => simp [intOf]; omega
    · go_wp2_with fail
      have e : k = won.length := by omega
      subst e
      refine bodyPost_ret (v := .agg #[.slice s5 won.length c5, .slice sa won.length c, .int .i64 (maxTo (opnP g won) won.length)]) (by simp [results, Try.results112, go_sem, r0, r1, r2, y0, y1, y2]) rfl ?_
      simp only [World.size_alloc] at ho2
      have hA := (((ho2.below hb).off (g := w.heap.size + 1) (by omega) 0 (.slice s5 won.length c5)).off (g := w.heap.size + 1) (by omega) 1 (.slice sa won.length c)).off (g := w.heap.size + 1) (by omega) 2 (.int .i64 (maxTo (opnP g won) won.length))
      have hC := ((ho.off (g := w.heap.size + 1) (by omega) 0 (.slice s5 won.length c5)).off (g := w.heap.size + 1) (by omega) 1 (.slice sa won.length c)).off (g := w.heap.size + 1) (by omega) 2 (.int .i64 (maxTo (opnP g won) won.length))
      exact ⟨_, _, _, _, _, _, _, rfl, ⟨_, _, rfl, hA.top.mono (by omega) (Nat.le_refl _), hC.top.mono (by omega) (Nat.le_refl _), fun x hx hy => by have := (OwnV.lt hA x hx).2.1; have := (OwnV.lt hC x hy).1; omega⟩, below_set (below_set (below_set hbw (by omega) _) (by omega) _) (by omega) _⟩

def firstS (g : Pa) : St := resetS g (tab g.prio.length fun _ => -1)
set_option maxHeartbeats 1000000 in
theorem l11First_s (v : Value) (g : Pa) (w : World) (hP : IsP w v g) (hn : g.prio.length ≤ 256) : Calls Try.prog 82 #[v] w (RetS w (firstS g)) := by
  have hP0 := hP
  obtain ⟨_, _, _, rfl, ⟨s1, n1, c1, rfl, h1⟩, ⟨s2, n2, c2, rfl, h2⟩, ⟨s3, n3, c3, rfl, h3⟩⟩ := hP
  have hm3 := h3.max
  obtain rfl := h3.1
  go_enter Try.func82, Try.ntmps82
  go_wp2_with fail
  generalize hqw1 : (w.alloc (.cells #[.slice s1 n1 c1, .slice s2 n2 c2, .slice s3 g.prio.length c3] 32)).alloc (.cells #[.slice none 0 0, .slice none 0 0, .int .i64 0] 54) = w1
  have hbw : Below w.heap.size w w1 := by rw [← hqw1]; exact (by repeat' (first | (with_reducible exact Below.refl _ _) | (with_reducible apply Below.alloc) | (with_reducible apply Below.drew) | (with_reducible apply below_drawn) | omega | (simp only [World.size_alloc, World.size_setCell, World.size_drew]; omega)))
  have hew1 := Lib.hid (show w1.heap.size = w.heap.size + 1 + 1 by rw [← hqw1]; simp)
  have hsw : w.heap.size + 2 ≤ w1.heap.size := by rw [← hqw1]; simp only [World.size_alloc]; omega
  have hswa : w.heap.size < w1.heap.size := by omega
  have hswb : w.heap.size + 1 < w1.heap.size := by omega
  have b0_0 : w1.cell? ⟨w.heap.size, 0, none⟩ = some (.slice s1 n1 c1) := by rw [← hqw1]; simp
  have b0_1 : w1.cell? ⟨w.heap.size, 1, none⟩ = some (.slice s2 n2 c2) := by rw [← hqw1]; simp
  have b0_2 : w1.cell? ⟨w.heap.size, 2, none⟩ = some (.slice s3 g.prio.length c3) := by rw [← hqw1]; simp
  have b1_0 : w1.cell? ⟨w.heap.size + 1, 0, none⟩ = some (.slice none 0 0) := by rw [← hqw1]; simp
  have b1_1 : w1.cell? ⟨w.heap.size + 1, 1, none⟩ = some (.slice none 0 0) := by rw [← hqw1]; simp
  have b1_2 : w1.cell? ⟨w.heap.size + 1, 2, none⟩ = some (.int .i64 0) := by rw [← hqw1]; simp
  have HRw1 := Lib.hid (show Blk w1 (w.heap.size + 1) [.slice none 0 0, .slice none 0 0, .int .i64 0] 54 by rw [← hqw1]; first | exact blk_new _ _ _ | (have hnew := blk_new (w.alloc (.cells #[.slice s1 n1 c1, .slice s2 n2 c2, .slice s3 g.prio.length c3] 32)) [.slice none 0 0, .slice none 0 0, .int .i64 0] 54; simpa using hnew))
  clear hqw1
  have hR : Blk w1 (w.heap.size + 1) [.slice none 0 0, .slice none 0 0, .int .i64 0] 54 := HRw1.out
  go_region_held3 (fun w' => w'.cell? ⟨w.heap.size, 0, none⟩ = some (.slice s1 n1 c1) ∧ w'.cell? ⟨w.heap.size, 1, none⟩ = some (.slice s2 n2 c2) ∧ w'.cell? ⟨w.heap.size, 2, none⟩ = some (.slice s3 g.prio.length c3)) (first | exact ⟨b0_0, b0_1, b0_2⟩ | go_keep)
    (first
      | (go_at_call 113; refine (l7None_s _ _ (by omega)).mono ?_; rintro e w2 ⟨s5, n5, c5, rfl, ho2, hbw2⟩; replace hbw2 := drew_trans hbw2; replace b0_0 := cell_b b0_0 hbw2; replace b0_1 := cell_b b0_1 hbw2; replace b0_2 := cell_b b0_2 hbw2; replace hR := hR.below hbw2; replace hbw : Below w.heap.size w w2 := hbw.trans (hbw2.mono hbw.size); have hz2 := hbw2.size)
      | (go_at_call 112; refine (l11Reset_s _ _ _ _ _ (hP0.below hbw) ho2.is (tab_len _ _) hn).mono ?_; rintro e w3 ⟨s6, n6, c6, s7, n7, c7, v7, rfl, ho3, hbw3⟩; replace b0_0 := cell_b b0_0 hbw3; replace b0_1 := cell_b b0_1 hbw3; replace b0_2 := cell_b b0_2 hbw3; replace hR := hR.below hbw3; replace hbw : Below w.heap.size w w3 := hbw.trans (hbw3.mono hbw.size); have hz3 := hbw3.size; have r0 := hR.cell 0 rfl; have r1 := hR.cell 1 rfl; have r2 := hR.cell 2 rfl; have y0 := hR.free 0; have y1 := hR.free 1; have y2 := hR.free 2))
  go_wp2_with fail
  refine bodyPost_ret (v := .agg #[.slice s6 n6 c6, .slice s7 n7 c7, .int .i64 v7]) (by simp [results, Try.results82, go_sem, r0, r1, r2, y0, y1, y2]) rfl ?_
  obtain ⟨hA, hC, hd, hv⟩ := ho3.parts
  have hA' := ((hA.off (g := w.heap.size + 1) (by omega) 0 (.slice s6 n6 c6)).off (g := w.heap.size + 1) (by omega) 1 (.slice s7 n7 c7)).off (g := w.heap.size + 1) (by omega) 2 (.int .i64 v7)
  have hC' := ((hC.off (g := w.heap.size + 1) (by omega) 0 (.slice s6 n6 c6)).off (g := w.heap.size + 1) (by omega) 1 (.slice s7 n7 c7)).off (g := w.heap.size + 1) (by omega) 2 (.int .i64 v7)
  exact ⟨_, _, _, _, _, _, _, rfl, ⟨_, _, by rw [hv]; try rfl, hA'.top.mono (by omega) (Nat.le_refl _), hC'.top.mono (by omega) (Nat.le_refl _), hd⟩, below_set (below_set (below_set hbw (by omega) _) (by omega) _) (by omega) _⟩

def zeroS : St := ⟨[], [], 0⟩
noncomputable def fstS (g : Pa) : St := @ite _ (Small g) (Classical.propDecidable _) (firstS g) zeroS
theorem fstS_ok {g : Pa} (h : Small g) : fstS g = firstS g := if_pos h
theorem fstS_no {g : Pa} (h : ¬ Small g) : fstS g = zeroS := if_neg h
theorem own_zeroS (lo : Nat) (w : World) : OwnS lo w.heap.size w (.agg #[.slice none 0 0, .slice none 0 0, .int .i64 0]) zeroS := ⟨_, _, rfl, ownV_nil _ _ _ _, ownV_nil _ _ _ _, fun g h => by simp [blk, Value.ownBlock] at h⟩

set_option maxHeartbeats 1000000 in
theorem first_s (v : Value) (g : Pa) (w : World) (hP : IsP w v g) : Calls Try.prog 38 #[v] w (RetS w (fstS g)) := by
  have hP0 := hP
  obtain ⟨_, _, _, rfl, ⟨s1, n1, c1, rfl, h1⟩, ⟨s2, n2, c2, rfl, h2⟩, ⟨s3, n3, c3, rfl, h3⟩⟩ := hP
  by_cases hg : Small g
  · have k1 := Lib.hid (tf_true hg)
    rw [fstS_ok hg]
    have hn : g.prio.length ≤ 256 := by have := hg.2; omega
    have HN := Lib.hid hn
    clear hg hn
    go_enter Try.func38, Try.ntmps38
    go_wp2_with fail
    generalize hqw1 : (w.alloc (.cells #[.slice s1 n1 c1, .slice s2 n2 c2, .slice s3 n3 c3] 32)).alloc (.cells #[.slice none 0 0, .slice none 0 0, .int .i64 0] 54) = w1
    have hbw : Below w.heap.size w w1 := by rw [← hqw1]; exact (by repeat' (first | (with_reducible exact Below.refl _ _) | (with_reducible apply Below.alloc) | (with_reducible apply Below.drew) | (with_reducible apply below_drawn) | omega | (simp only [World.size_alloc, World.size_setCell, World.size_drew]; omega)))
    have hew1 := Lib.hid (show w1.heap.size = w.heap.size + 1 + 1 by rw [← hqw1]; simp)
    have hsw : w.heap.size + 2 ≤ w1.heap.size := by rw [← hqw1]; simp only [World.size_alloc]; omega
    have hswa : w.heap.size < w1.heap.size := by omega
    have hswb : w.heap.size + 1 < w1.heap.size := by omega
    have b0_0 : w1.cell? ⟨w.heap.size, 0, none⟩ = some (.slice s1 n1 c1) := by rw [← hqw1]; simp
    have b0_1 : w1.cell? ⟨w.heap.size, 1, none⟩ = some (.slice s2 n2 c2) := by rw [← hqw1]; simp
    have b0_2 : w1.cell? ⟨w.heap.size, 2, none⟩ = some (.slice s3 n3 c3) := by rw [← hqw1]; simp
    have b1_0 : w1.cell? ⟨w.heap.size + 1, 0, none⟩ = some (.slice none 0 0) := by rw [← hqw1]; simp
    have b1_1 : w1.cell? ⟨w.heap.size + 1, 1, none⟩ = some (.slice none 0 0) := by rw [← hqw1]; simp
    have b1_2 : w1.cell? ⟨w.heap.size + 1, 2, none⟩ = some (.int .i64 0) := by rw [← hqw1]; simp
    have HRw1 := Lib.hid (show Blk w1 (w.heap.size + 1) [.slice none 0 0, .slice none 0 0, .int .i64 0] 54 by rw [← hqw1]; first | exact blk_new _ _ _ | (have hnew := blk_new (w.alloc (.cells #[.slice s1 n1 c1, .slice s2 n2 c2, .slice s3 n3 c3] 32)) [.slice none 0 0, .slice none 0 0, .int .i64 0] 54; simpa using hnew))
    clear hqw1
    have hR : Blk w1 (w.heap.size + 1) [.slice none 0 0, .slice none 0 0, .int .i64 0] 54 := HRw1.out
    go_wp2_with (first
      | (go_at_call 64; refine (small_s _ _ _ (hP0.below hbw)).mono ?_; rw [k1.out]; rintro e w2 ⟨rfl, hbw2⟩; replace b0_0 := cell_b b0_0 hbw2; replace b0_1 := cell_b b0_1 hbw2; replace b0_2 := cell_b b0_2 hbw2; replace hR := hR.below hbw2; replace hbw : Below w.heap.size w w2 := hbw.trans (hbw2.mono hbw.size); have hz2 := hbw2.size)
      | (go_at_call 82; refine (l11First_s _ _ _ (hP0.below hbw) HN.out).mono ?_; rintro e w3 ⟨s6, n6, c6, s7, n7, c7, v7, rfl, ho3, hbw3⟩; replace b0_0 := cell_b b0_0 hbw3; replace b0_1 := cell_b b0_1 hbw3; replace b0_2 := cell_b b0_2 hbw3; replace hR := hR.below hbw3; replace hbw : Below w.heap.size w w3 := hbw.trans (hbw3.mono hbw.size); have hz3 := hbw3.size; have r0 := hR.cell 0 rfl; have r1 := hR.cell 1 rfl; have r2 := hR.cell 2 rfl; have y0 := hR.free 0; have y1 := hR.free 1; have y2 := hR.free 2))
    refine bodyPost_ret (v := .agg #[.slice s6 n6 c6, .slice s7 n7 c7, .int .i64 v7]) (by simp [results, Try.results38, go_sem, r0, r1, r2, y0, y1, y2]) rfl ?_
    obtain ⟨hA, hC, hd, hv⟩ := ho3.parts
    have hA' := ((hA.off (g := w.heap.size + 1) (by omega) 0 (.slice s6 n6 c6)).off (g := w.heap.size + 1) (by omega) 1 (.slice s7 n7 c7)).off (g := w.heap.size + 1) (by omega) 2 (.int .i64 v7)
    have hC' := ((hC.off (g := w.heap.size + 1) (by omega) 0 (.slice s6 n6 c6)).off (g := w.heap.size + 1) (by omega) 1 (.slice s7 n7 c7)).off (g := w.heap.size + 1) (by omega) 2 (.int .i64 v7)
    exact ⟨_, _, _, _, _, _, _, rfl, ⟨_, _, by rw [hv]; try rfl, hA'.top.mono (by omega) (Nat.le_refl _), hC'.top.mono (by omega) (Nat.le_refl _), hd⟩, below_set (below_set (below_set hbw (by omega) _) (by omega) _) (by omega) _⟩
  · have k1 := Lib.hid (tf_false hg)
    rw [fstS_no hg]
    clear hg
    go_enter Try.func38, Try.ntmps38
    go_wp2_with fail
    generalize hqw1 : (w.alloc (.cells #[.slice s1 n1 c1, .slice s2 n2 c2, .slice s3 n3 c3] 32)).alloc (.cells #[.slice none 0 0, .slice none 0 0, .int .i64 0] 54) = w1
    have hbw : Below w.heap.size w w1 := by rw [← hqw1]; exact (by repeat' (first | (with_reducible exact Below.refl _ _) | (with_reducible apply Below.alloc) | (with_reducible apply Below.drew) | (with_reducible apply below_drawn) | omega | (simp only [World.size_alloc, World.size_setCell, World.size_drew]; omega)))
    have hew1 := Lib.hid (show w1.heap.size = w.heap.size + 1 + 1 by rw [← hqw1]; simp)
    have hsw : w.heap.size + 2 ≤ w1.heap.size := by rw [← hqw1]; simp only [World.size_alloc]; omega
    have hswa : w.heap.size < w1.heap.size := by omega
    have hswb : w.heap.size + 1 < w1.heap.size := by omega
    have b0_0 : w1.cell? ⟨w.heap.size, 0, none⟩ = some (.slice s1 n1 c1) := by rw [← hqw1]; simp
    have b0_1 : w1.cell? ⟨w.heap.size, 1, none⟩ = some (.slice s2 n2 c2) := by rw [← hqw1]; simp
    have b0_2 : w1.cell? ⟨w.heap.size, 2, none⟩ = some (.slice s3 n3 c3) := by rw [← hqw1]; simp
    have b1_0 : w1.cell? ⟨w.heap.size + 1, 0, none⟩ = some (.slice none 0 0) := by rw [← hqw1]; simp
    have b1_1 : w1.cell? ⟨w.heap.size + 1, 1, none⟩ = some (.slice none 0 0) := by rw [← hqw1]; simp
    have b1_2 : w1.cell? ⟨w.heap.size + 1, 2, none⟩ = some (.int .i64 0) := by rw [← hqw1]; simp
    have HRw1 := Lib.hid (show Blk w1 (w.heap.size + 1) [.slice none 0 0, .slice none 0 0, .int .i64 0] 54 by rw [← hqw1]; first | exact blk_new _ _ _ | (have hnew := blk_new (w.alloc (.cells #[.slice s1 n1 c1, .slice s2 n2 c2, .slice s3 n3 c3] 32)) [.slice none 0 0, .slice none 0 0, .int .i64 0] 54; simpa using hnew))
    clear hqw1
    have hR : Blk w1 (w.heap.size + 1) [.slice none 0 0, .slice none 0 0, .int .i64 0] 54 := HRw1.out
    go_wp2_with (go_at_call 64; refine (small_s _ _ _ (hP0.below hbw)).mono ?_; rw [k1.out]; rintro e w2 ⟨rfl, hbw2⟩; replace b0_0 := cell_b b0_0 hbw2; replace b0_1 := cell_b b0_1 hbw2; replace b0_2 := cell_b b0_2 hbw2; replace hR := hR.below hbw2; replace hbw : Below w.heap.size w w2 := hbw.trans (hbw2.mono hbw.size); have r0 := hR.cell 0 rfl; have r1 := hR.cell 1 rfl; have r2 := hR.cell 2 rfl; have y0 := hR.free 0; have y1 := hR.free 1; have y2 := hR.free 2)
    refine bodyPost_ret (v := .agg #[.slice none 0 0, .slice none 0 0, .int .i64 0]) (by simp [results, Try.results38, go_sem, r0, r1, r2, y0, y1, y2]) rfl ?_
    exact ⟨_, _, _, _, _, _, _, rfl, own_zeroS _ _, below_set (below_set (below_set hbw (by omega) _) (by omega) _) (by omega) _⟩

end Go.Proofs.Ytdbojkdfpkgfcaa
