/-
  MeasureOk: the program's and the reference's.
-/
import Derived.Test.YtfkiloibifigfaaZLsMeas
namespace Go.Proofs.Ytfkiloibifigfaa
set_option linter.unusedVariables false
set_option linter.unusedSimpArgs false
open Go.RowKit
attribute [local go_sem ↓] Go.wp_at_zero Go.wp_at_succ
theorem ints_one {w : World} {B : Nat} (h : w.cell? ⟨B, 0, none⟩ = some (.int .i64 1)) : Ints w (some ⟨B, 0, none⟩) 1 1 [1] :=
  ⟨rfl, by omega, by omega, fun e => (by cases e), fun ad e _ => (by cases e; rfl), fun ad e k hk => by
    cases e
    have : k = 0 := by omega
    subst this
    simpa [gi] using h⟩
theorem msr_one {m : List Int} : m = [1] ↔ m.length = 1 ∧ gi m 0 = 1 := by
  constructor
  · rintro rfl; exact ⟨rfl, rfl⟩
  · rintro ⟨h1, h2⟩
    exact ext_gi h1 fun k hk => by
      have : k = 0 := by omega
      subst this
      rw [h2]; rfl
set_option maxRecDepth 100000 in
set_option maxHeartbeats 2000000 in
theorem isMeasure_i (v u : Value) (g : Pa) (m : List Int) (w : World) (hP : IsP w v g) (hm : IsI w u m) (hg : PaOk g) : Calls Try.prog 66 #[v, u] w (Bb w (tf (MsrOk g m))) := by
  have hP0 := hP
  obtain ⟨_, _, _, rfl, ⟨s1, n1, c1, rfl, h1⟩, ⟨s2, n2, c2, rfl, h2⟩, ⟨s3, n3, c3, rfl, h3⟩⟩ := hP
  obtain ⟨s4, n, c4, rfl, h4⟩ := hm
  have hm4 := h4.max
  have hcap := h4.2.cap
  have hcm := h4.2.max
  have H4 := Lib.hid h4.1
  have G := Lib.hid hg
  have hN := oddsL_len g
  obtain ⟨N, eN⟩ : ∃ N, (oddsL g).length = N := ⟨_, rfl⟩
  have HN := Lib.hid eN
  rw [eN] at hN
  clear hg eN h1 h2 h3
  rcases tf_cases (m = [1]) with ⟨k1, x1⟩ | ⟨k1, x1⟩
  · rw [tf_true (show MsrOk g m from Or.inl x1.out)]
    go_enter Try.func66, Try.ntmps66
    go_wp2_with fail
    generalize hqw1 : (w.alloc (.cells #[.slice s1 n1 c1, .slice s2 n2 c2, .slice s3 n3 c3] 33)).alloc (.cells #[.int .i64 1] 2) = w1
    have hbw : Below w.heap.size w w1 := by rw [← hqw1]; exact (by repeat' (first | (with_reducible exact Below.refl _ _) | (with_reducible apply Below.alloc) | (with_reducible apply Below.drew) | (with_reducible apply below_drawn) | omega | (simp only [World.size_alloc, World.size_setCell, World.size_drew]; omega)))
    have hew1 := Lib.hid (show w1.heap.size = w.heap.size + 1 + 1 by rw [← hqw1]; simp)
    have hsw : w.heap.size + 2 ≤ w1.heap.size := by rw [← hqw1]; simp only [World.size_alloc]; omega
    have hswa : w.heap.size < w1.heap.size := by omega
    have hswb : w.heap.size + 1 < w1.heap.size := by omega
    have HQw1_0 : Blk w1 (w.heap.size) [.slice s1 n1 c1, .slice s2 n2 c2, .slice s3 n3 c3] 33 := by rw [← hqw1]; have hnew := blk_new w [.slice s1 n1 c1, .slice s2 n2 c2, .slice s3 n3 c3] 33; (try simp only [World.size_alloc] at hnew); exact (Blk.alloc hnew _)
    have b0_0 : w1.cell? ⟨w.heap.size, 0, none⟩ = some (.slice s1 n1 c1) := HQw1_0.cell 0 rfl
    have b0_1 : w1.cell? ⟨w.heap.size, 1, none⟩ = some (.slice s2 n2 c2) := HQw1_0.cell 1 rfl
    have b0_2 : w1.cell? ⟨w.heap.size, 2, none⟩ = some (.slice s3 n3 c3) := HQw1_0.cell 2 rfl
    clear HQw1_0
    have HQw1_1 : Blk w1 (w.heap.size + 1) [.int .i64 1] 2 := by rw [← hqw1]; have hnew := blk_new (w.alloc (.cells #[.slice s1 n1 c1, .slice s2 n2 c2, .slice s3 n3 c3] 33)) [.int .i64 1] 2; (try simp only [World.size_alloc] at hnew); exact hnew
    have b1_0 : w1.cell? ⟨w.heap.size + 1, 0, none⟩ = some (.int .i64 1) := HQw1_1.cell 0 rfl
    have HRw1 := Lib.hid HQw1_1
    clear HQw1_1
    clear hqw1
    clear HRw1
    refine (equal_any _ _ _ _ _ _ _ _ _ (h4.below hbw) (ints_one b1_0)).mono ?_
    rw [k1.out]
    rintro e w2 ⟨rfl, q, rfl⟩
    go_wp2_with fail
    go_ret
    exact ⟨rfl, below_drawn hbw q⟩
  · go_enter Try.func66, Try.ntmps66
    go_wp2_with fail
    generalize hqw1 : (w.alloc (.cells #[.slice s1 n1 c1, .slice s2 n2 c2, .slice s3 n3 c3] 33)).alloc (.cells #[.int .i64 1] 2) = w1
    have hbw : Below w.heap.size w w1 := by rw [← hqw1]; exact (by repeat' (first | (with_reducible exact Below.refl _ _) | (with_reducible apply Below.alloc) | (with_reducible apply Below.drew) | (with_reducible apply below_drawn) | omega | (simp only [World.size_alloc, World.size_setCell, World.size_drew]; omega)))
    have hew1 := Lib.hid (show w1.heap.size = w.heap.size + 1 + 1 by rw [← hqw1]; simp)
    have hsw : w.heap.size + 2 ≤ w1.heap.size := by rw [← hqw1]; simp only [World.size_alloc]; omega
    have hswa : w.heap.size < w1.heap.size := by omega
    have hswb : w.heap.size + 1 < w1.heap.size := by omega
    have HQw1_0 : Blk w1 (w.heap.size) [.slice s1 n1 c1, .slice s2 n2 c2, .slice s3 n3 c3] 33 := by rw [← hqw1]; have hnew := blk_new w [.slice s1 n1 c1, .slice s2 n2 c2, .slice s3 n3 c3] 33; (try simp only [World.size_alloc] at hnew); exact (Blk.alloc hnew _)
    have b0_0 : w1.cell? ⟨w.heap.size, 0, none⟩ = some (.slice s1 n1 c1) := HQw1_0.cell 0 rfl
    have b0_1 : w1.cell? ⟨w.heap.size, 1, none⟩ = some (.slice s2 n2 c2) := HQw1_0.cell 1 rfl
    have b0_2 : w1.cell? ⟨w.heap.size, 2, none⟩ = some (.slice s3 n3 c3) := HQw1_0.cell 2 rfl
    clear HQw1_0
    have HQw1_1 : Blk w1 (w.heap.size + 1) [.int .i64 1] 2 := by rw [← hqw1]; have hnew := blk_new (w.alloc (.cells #[.slice s1 n1 c1, .slice s2 n2 c2, .slice s3 n3 c3] 33)) [.int .i64 1] 2; (try simp only [World.size_alloc] at hnew); exact hnew
    have b1_0 : w1.cell? ⟨w.heap.size + 1, 0, none⟩ = some (.int .i64 1) := HQw1_1.cell 0 rfl
    have HRw1 := Lib.hid HQw1_1
    clear HQw1_1
    clear hqw1
    clear HRw1
    refine (equal_any _ _ _ _ _ _ _ _ _ (h4.below hbw) (ints_one b1_0)).mono ?_
    rw [k1.out]
    rintro e w2 ⟨rfl, q, rfl⟩
    have hbq : Below w1.heap.size w1 (w1.drewN q) := below_drewN _ _
    generalize w1.drewN q = w2 at *
    replace b0_0 := cell_b b0_0 hbq
    replace b0_1 := cell_b b0_1 hbq
    replace b0_2 := cell_b b0_2 hbq
    replace hbw := hbw.trans (hbq.mono hbw.size)
    go_wp2_with fail
    refine (mostOf_i _ _ _ (hP0.below hbw) G.out).mono ?_
    rw [HN.out]
    rintro e w3 ⟨s5, n5, c5, rfl, ho5, hb5⟩
    have hl5 := ho5.len
    rw [tab_len] at hl5
    subst hl5
    have hI5 := ho5.is.ints
    replace hbw := hbw.trans (hb5.mono hbw.size)
    clear b0_0 b0_1 b0_2 b1_0 ho5 hb5 hbq
    have h4' := h4.below hbw
    by_cases hn : n = N + 1
    · subst hn
      obtain ⟨b, o, rfl, hbl, hc⟩ := h4'.get (k := 0) (by omega)
      have q0 := hc 0 (by omega)
      rw [Nat.add_zero] at q0
      have e2 : ((N + 1 != N + 1) = false) := by simp
      rcases ne_cases (gi m 0) 0 with ⟨d1, d2, x2⟩ | ⟨d1, d2, x2⟩
      · by_cases hc1 : c4 = 1
        · have hN0 : N = 0 := by omega
          subst hN0 hc1
          clear hc
          go_wp2_with fail
          refine wp_loop_once ?_
          go_wp2_with fail
          go_ret
          exact ⟨ret_bool (tf_true (show MsrOk g m from Or.inr ⟨by rw [H4.out, HN.out], x2.out, fun i hi => by rw [HN.out] at hi; omega⟩)).symm, hbw⟩
        · have hc2 : 1 < c4 := by omega
          have hcx : ∀ k, k < N → w3.cell? ⟨b, o + 1 + k, none⟩ = some (.int .i64 (gi m (k + 1))) := fun k hk => by
            have := hc (k + 1) (by omega)
            rwa [show o + (k + 1) = o + 1 + k by omega] at this
          have HCX := Lib.hid hcx
          clear hc hcx
          go_wp2_with fail
          go_loop [28] (fun i => ∃ k : Nat, k ≤ N ∧ i = .int .i64 k ∧ ∀ j, j < k → 0 ≤ gi m (j + 1) ∧ gi m (j + 1) ≤ many g (gi (oddsL g) j)) (fun i => N - (intOf i).toNat)
          case atStart => exact ⟨0, by omega, rfl, fun j hj => by omega⟩
          case round =>
            obtain ⟨k, hk, rfl, hS⟩ := hrel
            have HS := Lib.hid hS
            clear hS
            by_cases hlt : k < N
            · have q1 := HCX.out k hlt
              obtain ⟨b5, o5, rfl, hbl5, hc5⟩ := hI5.get hlt
              have q5 := hc5 k hlt
              rw [gi_tab _ hlt] at q5
              clear hc5
              rcases dec_cases (gi m (k + 1) < 0) with ⟨d3, x3⟩ | ⟨d3, x3⟩
              · go_wp2_with fail
                go_ret
                exact ⟨ret_bool (tf_false (fun h => by
                  rcases h with h | h
                  · exact x1.out h
                  · have := (h.2.2 k (by rw [HN.out]; exact hlt)).1; omega)).symm, hbw⟩
              · rcases dec_cases (many g (gi (oddsL g) k) < gi m (k + 1)) with ⟨d4, x4⟩ | ⟨d4, x4⟩
                · go_wp2_with fail
                  go_ret
                  exact ⟨ret_bool (tf_false (fun h => by
                    rcases h with h | h
                    · exact x1.out h
                    · have := (h.2.2 k (by rw [HN.out]; exact hlt)).2; omega)).symm, hbw⟩
                · go_wp2_with fail
                  go_round
                  case rel => exact ⟨k + 1, by omega, by go_num, fun j hj => by
                    by_cases e : j = k
                    · rw [e]; omega
                    · exact HS.out j (by omega)⟩
                  case measure => simp [intOf]; omega
            · go_wp2_with fail
              go_ret
              exact ⟨ret_bool (tf_true (show MsrOk g m from Or.inr ⟨by rw [H4.out, HN.out], x2.out, fun i hi => HS.out i (by rw [HN.out] at hi; omega)⟩)).symm, hbw⟩
      · clear hc
        go_wp2_with fail
        go_ret
        exact ⟨ret_bool (tf_false (show ¬ MsrOk g m from fun h => by
          rcases h with h | h
          · exact x1.out h
          · exact x2.out h.2.1)).symm, hbw⟩
    · have e1 : (n != N + 1) = true := by simp [hn]
      have e2 : ((n : Int) != (N : Int) + 1) = true := by simp; omega
      go_wp2_with fail
      go_ret
      exact ⟨ret_bool (tf_false (show ¬ MsrOk g m from fun h => by
        rcases h with h | h
        · exact x1.out h
        · have := h.1; rw [H4.out, HN.out] at this; exact hn this)).symm, hbw⟩
set_option maxRecDepth 100000 in
set_option maxHeartbeats 2000000 in
theorem good_s (v uo u : Value) (g : Pa) (m : List Int) (w : World) (hP : IsP w v g) (ho : IsI w uo (oddsL g)) (hm : IsI w u m) : Calls Try.prog 59 #[v, uo, u] w (Bb w (tf (MsrOk g m))) := by
  have hP0 := hP
  obtain ⟨_, _, _, rfl, ⟨s1, n1, c1, rfl, h1⟩, ⟨s2, n2, c2, rfl, h2⟩, ⟨s3, n3, c3, rfl, h3⟩⟩ := hP
  obtain ⟨s5, N, c5, rfl, h5⟩ := ho
  obtain ⟨s4, n, c4, rfl, h4⟩ := hm
  have hm4 := h4.max
  have hN : N ≤ 41 := by rw [← h5.1]; exact oddsL_len g
  have H4 := Lib.hid h4.1
  have HN := Lib.hid h5.1
  clear h1 h2 h3
  by_cases hn0 : n = 0
  · subst hn0
    rw [tf_false (show ¬ MsrOk g m from fun h => by
      rcases h with h | h
      · have := H4.out; rw [h] at this; simp at this
      · have := h.1; rw [H4.out] at this; omega)]
    have e1 : ((0 : Int) != (N : Int) + 1) = true := by simp; omega
    go_enter Try.func59, Try.ntmps59
    go_wp2_with fail
    go_ret
    exact ⟨rfl, (by repeat' (first | (with_reducible exact Below.refl _ _) | (with_reducible apply Below.alloc) | (with_reducible apply Below.drew) | (with_reducible apply below_drawn) | omega | (simp only [World.size_alloc, World.size_setCell, World.size_drew]; omega)))⟩
  · obtain ⟨b, o, rfl, hbl, hc⟩ := h4.get (k := 0) (by omega)
    have q0 := hc 0 (by omega)
    rw [Nat.add_zero] at q0
    have hn1 : 0 < n := by omega
    clear hn0
    rcases ne_cases (gi m 0) 1 with ⟨d1, d1', x1⟩ | ⟨d1, d1', x1⟩
    all_goals rcases ne_cases (n : Int) 1 with ⟨d2, d2', x2⟩ | ⟨d2, d2', x2⟩
    all_goals rcases ne_cases (gi m 0) 0 with ⟨d3, d3', x3⟩ | ⟨d3, d3', x3⟩
    all_goals rcases ne_cases (n : Int) ((N : Int) + 1) with ⟨d4, d4', x4⟩ | ⟨d4, d4', x4⟩
    all_goals first | (exfalso; have := x1.out; have := x2.out; have := x3.out; have := x4.out; omega) | skip
    all_goals
      go_enter Try.func59, Try.ntmps59
      go_wp2_with fail
    all_goals first
      | (go_ret
         refine ⟨ret_bool (Eq.symm ?_), (by repeat' (first | (with_reducible exact Below.refl _ _) | (with_reducible apply Below.alloc) | (with_reducible apply Below.drew) | (with_reducible apply below_drawn) | omega | (simp only [World.size_alloc, World.size_setCell, World.size_drew]; omega)))⟩
         first
         | (refine tf_true (Or.inl (msr_one.2 ⟨?_, x1.out⟩)); have := H4.out; have := x2.out; omega)
         | (refine tf_false (fun h => ?_)
            rcases h with h | h
            · obtain ⟨h1, h2⟩ := msr_one.1 h
              have := H4.out; have := x1.out; have := x2.out; omega
            · have := H4.out; have := HN.out; have := h.1; have := h.2.1; have := x3.out; have := x4.out; omega))
      | skip
    all_goals
      generalize hqw1 : w.alloc (.cells #[.slice s1 n1 c1, .slice s2 n2 c2, .slice s3 n3 c3] 33) = w1
      have hbw : Below w.heap.size w w1 := by rw [← hqw1]; exact (by repeat' (first | (with_reducible exact Below.refl _ _) | (with_reducible apply Below.alloc) | (with_reducible apply Below.drew) | (with_reducible apply below_drawn) | omega | (simp only [World.size_alloc, World.size_setCell, World.size_drew]; omega)))
      have hew1 := Lib.hid (show w1.heap.size = w.heap.size + 1 by rw [← hqw1]; simp)
      have hsw : w.heap.size + 1 ≤ w1.heap.size := by rw [← hqw1]; simp only [World.size_alloc]; omega
      have hswa : w.heap.size < w1.heap.size := by omega
      have HQw1_0 : Blk w1 (w.heap.size) [.slice s1 n1 c1, .slice s2 n2 c2, .slice s3 n3 c3] 33 := by rw [← hqw1]; have hnew := blk_new w [.slice s1 n1 c1, .slice s2 n2 c2, .slice s3 n3 c3] 33; (try simp only [World.size_alloc] at hnew); exact hnew
      have b0_0 : w1.cell? ⟨w.heap.size, 0, none⟩ = some (.slice s1 n1 c1) := HQw1_0.cell 0 rfl
      have b0_1 : w1.cell? ⟨w.heap.size, 1, none⟩ = some (.slice s2 n2 c2) := HQw1_0.cell 1 rfl
      have b0_2 : w1.cell? ⟨w.heap.size, 2, none⟩ = some (.slice s3 n3 c3) := HQw1_0.cell 2 rfl
      have HRw1 := Lib.hid HQw1_0
      clear HQw1_0
      clear hqw1
      clear HRw1
      have hnm : ¬ m = [1] := fun h => by
        obtain ⟨h1, h2⟩ := msr_one.1 h
        have := H4.out; have := x1.out; have := x2.out; omega
      have hnN : n = N + 1 := by have := x4.out; omega
      have HNM := Lib.hid hnm
      have HC := Lib.hid hc
      have HnN := Lib.hid hnN
      have hnle : N + 1 ≤ n := by omega
      clear hnm hc hnN
      go_loopw [7] (fun i wr => ∃ k : Nat, k ≤ N ∧ i = .int .i64 k ∧ (∀ j, j < k → 0 ≤ gi m (j + 1) ∧ gi m (j + 1) ≤ many g (gi (oddsL g) j)) ∧ Below w1.heap.size w1 wr) (fun i _ => N - (intOf i).toNat)
      case atStart => exact ⟨0, by omega, rfl, fun j hj => by omega, Below.refl _ _⟩
      case round =>
        obtain ⟨k, hk, rfl, hS, hb⟩ := hrel
        have HS := Lib.hid hS
        clear hS
        have hBwr : Below w1.heap.size w1 (wr) := (by repeat' (first | (with_reducible exact Below.refl _ _) | (with_reducible assumption) | (with_reducible apply below_set) | (with_reducible apply Below.alloc) | (with_reducible apply Below.drew) | (with_reducible apply below_drawn) | (with_reducible refine Below.trans ?_ (Below.mono (by assumption) ?_)) | omega | (simp only [World.size_alloc, World.size_setCell, World.size_drew]; omega)))
        replace b0_0 := cell_b b0_0 hBwr
        replace b0_1 := cell_b b0_1 hBwr
        replace b0_2 := cell_b b0_2 hBwr
        replace hbw : Below w.heap.size w (wr) := hbw.trans (hBwr.mono hbw.size)
        clear hBwr
        by_cases hlt : k < N
        · have hb1 : Below w.heap.size w wr := hbw
          have q1 : wr.cell? ⟨b, o + (k + 1), none⟩ = some (.int .i64 (gi m (k + 1))) := cell_b (HC.out (k + 1) (by omega)) hbw
          obtain ⟨b5, o5, rfl, hbl5, hc5⟩ := (h5.below hbw).get hlt
          have q5 := hc5 k hlt
          clear hc5
          have hwr : IntKind.i64.wrap ((k : Int) + 1) = (k : Int) + 1 := IntWalk.i64_in _ ⟨by omega, by omega⟩
          have htn : ((k : Int) + 1).toNat = k + 1 := by omega
          have i0 : (0 : Int) ≤ (k : Int) + 1 := by omega
          have i1 : (k : Int) + 1 < (n : Int) := by omega
          have i2 : (0 : Int) ≤ (k : Int) := by omega
          have i3 : (k : Int) < (N : Int) := by omega
          rcases tf_cases (0 ≤ gi m (k + 1) ∧ gi m (k + 1) ≤ many g (gi (oddsL g) k)) with ⟨k2, y2⟩ | ⟨k2, y2⟩
          all_goals
            go_wp2_with fail
            have gb0_0 := grow_cell b0_0
            have gb0_1 := grow_cell b0_1
            have gb0_2 := grow_cell b0_2
            have gq1 := grow_cell q1
            have gq5 := grow_cell q5
            refine wp_region_grow (by kernel_rfl) (by kernel_rfl) ?_
            repeat ((with_reducible refine wpQuiet_step (fun K hK => ?_)); go_simp; first | (refine hK _ ?_; clear hK K) | (apply Exists.intro; refine ⟨fun w' hw' => ?_, hK _ ?_⟩; ((have hx := hbw.trans (Below.mono hw' hbw.size)); (try go_simp); first | (go_at_call 95; exact grow_call (v := .int .i64 (many g (gi (oddsL g) k))) hw' (many_s _ _ _ _ (hP0.below hx)) (fun e w'' h => ⟨h.1, h.2⟩)) | (go_at_call 68; exact grow_call_s hw' (l1In_any _ _ _ _) k2) | rfl | exact ⟨rfl, rfl⟩); clear hK K))
            refine wpQuiet_nil ?_
            intro w5 hww5
            have hbw5 : Below wr.heap.size wr w5 := hww5
            clear gb0_0 gb0_1 gb0_2 gq1 gq5
            replace b0_0 := cell_b b0_0 hbw5
            replace b0_1 := cell_b b0_1 hbw5
            replace b0_2 := cell_b b0_2 hbw5
            replace q1 := cell_b q1 hbw5
            replace q5 := cell_b q5 hbw5
            replace hbw : Below w.heap.size w w5 := hbw.trans (hbw5.mono hbw.size)
            clear hww5
            clear hwr htn
            go_wp2_with fail
            first
            | (go_ret
               exact ⟨ret_bool (tf_false (fun h => by
                 rcases h with h | h
                 · exact HNM.out h
                 · exact y2.out (h.2.2 k (by rw [HN.out]; exact hlt)))).symm, hbw⟩)
            | (go_roundw
               case rel => exact ⟨k + 1, by omega, by go_num, fun j hj => by
                 by_cases e : j = k
                 · rw [e]; exact y2.out
                 · exact HS.out j (by omega), hb.trans (hbw5.mono hb.size)⟩
               case measure => simp [intOf]; omega)
        · go_wp2_with fail
          go_ret
          exact ⟨ret_bool (tf_true (show MsrOk g m from Or.inr ⟨by rw [H4.out, HN.out]; exact HnN.out, x3.out, fun i hi => HS.out i (by rw [HN.out] at hi; omega)⟩)).symm, hbw⟩
def MsrIs (g : Pa) (m : List Int) : Prop := Small g ∧ MsrOk g m
set_option maxRecDepth 100000 in
set_option maxHeartbeats 2000000 in
theorem measureOk_s (v u : Value) (g : Pa) (m : List Int) (w : World) (hP : IsP w v g) (hm : IsI w u m) : Calls Try.prog 64 #[v, u] w (Bb w (tf (MsrIs g m))) := by
  have hP0 := hP
  obtain ⟨_, _, _, rfl, ⟨s1, n1, c1, rfl, h1⟩, ⟨s2, n2, c2, rfl, h2⟩, ⟨s3, n3, c3, rfl, h3⟩⟩ := hP
  have hm0 := hm
  obtain ⟨s4, n4, c4, rfl, h4⟩ := hm
  rcases tf_cases (Small g) with ⟨k1, x1⟩ | ⟨k1, x1⟩
  · rw [tf_congr (show MsrIs g m ↔ MsrOk g m from ⟨fun h => h.2, fun h => ⟨x1.out, h⟩⟩)]
    go_enter Try.func64, Try.ntmps64
    go_wp2_with fail
    generalize hqw1 : w.alloc (.cells #[.slice s1 n1 c1, .slice s2 n2 c2, .slice s3 n3 c3] 33) = w1
    have hbw : Below w.heap.size w w1 := by rw [← hqw1]; exact (by repeat' (first | (with_reducible exact Below.refl _ _) | (with_reducible apply Below.alloc) | (with_reducible apply Below.drew) | (with_reducible apply below_drawn) | omega | (simp only [World.size_alloc, World.size_setCell, World.size_drew]; omega)))
    have hew1 := Lib.hid (show w1.heap.size = w.heap.size + 1 by rw [← hqw1]; simp)
    have hsw : w.heap.size + 1 ≤ w1.heap.size := by rw [← hqw1]; simp only [World.size_alloc]; omega
    have hswa : w.heap.size < w1.heap.size := by omega
    have HQw1_0 : Blk w1 (w.heap.size) [.slice s1 n1 c1, .slice s2 n2 c2, .slice s3 n3 c3] 33 := by rw [← hqw1]; have hnew := blk_new w [.slice s1 n1 c1, .slice s2 n2 c2, .slice s3 n3 c3] 33; (try simp only [World.size_alloc] at hnew); exact hnew
    have b0_0 : w1.cell? ⟨w.heap.size, 0, none⟩ = some (.slice s1 n1 c1) := HQw1_0.cell 0 rfl
    have b0_1 : w1.cell? ⟨w.heap.size, 1, none⟩ = some (.slice s2 n2 c2) := HQw1_0.cell 1 rfl
    have b0_2 : w1.cell? ⟨w.heap.size, 2, none⟩ = some (.slice s3 n3 c3) := HQw1_0.cell 2 rfl
    have HRw1 := Lib.hid HQw1_0
    clear HQw1_0
    clear hqw1
    clear HRw1
    go_region_held3 (fun w' => w'.cell? ⟨w.heap.size, 0, none⟩ = some (.slice s1 n1 c1) ∧ w'.cell? ⟨w.heap.size, 1, none⟩ = some (.slice s2 n2 c2) ∧ w'.cell? ⟨w.heap.size, 2, none⟩ = some (.slice s3 n3 c3)) (first | exact ⟨b0_0, b0_1, b0_2⟩ | go_keep)
      (first
      | (go_at_call 57; refine (small_s _ _ _ ((hP0.below hbw).drew)).mono ?_; rw [k1.out]; rintro e w2 ⟨rfl, hbw2⟩; replace hbw2 := drew_trans hbw2; replace b0_0 := cell_b b0_0 hbw2; replace b0_1 := cell_b b0_1 hbw2; replace b0_2 := cell_b b0_2 hbw2; replace hbw : Below w.heap.size w w2 := hbw.trans (hbw2.mono hbw.size))
      | (go_at_call 58; refine (odds_s _ _ _ (hP0.below hbw)).mono ?_; rintro e w3 ⟨s5, n5, c5, rfl, ho5, hbw3⟩; replace b0_0 := cell_b b0_0 hbw3; replace b0_1 := cell_b b0_1 hbw3; replace b0_2 := cell_b b0_2 hbw3; replace hbw : Below w.heap.size w w3 := hbw.trans (hbw3.mono hbw.size))
      | (go_at_call 59; refine (good_s _ _ _ _ _ _ (hP0.below hbw) ho5.is (hm0.below hbw)).mono ?_; rintro e w4 ⟨rfl, hbw4⟩; replace b0_0 := cell_b b0_0 hbw4; replace b0_1 := cell_b b0_1 hbw4; replace b0_2 := cell_b b0_2 hbw4; replace hbw : Below w.heap.size w w4 := hbw.trans (hbw4.mono hbw.size)))
    go_wp2_with fail
    go_ret
    exact ⟨rfl, hbw⟩
  · rw [tf_false (show ¬ MsrIs g m from fun h => x1.out h.1)]
    go_enter Try.func64, Try.ntmps64
    go_wp2_with fail
    generalize hqw1 : w.alloc (.cells #[.slice s1 n1 c1, .slice s2 n2 c2, .slice s3 n3 c3] 33) = w1
    have hbw : Below w.heap.size w w1 := by rw [← hqw1]; exact (by repeat' (first | (with_reducible exact Below.refl _ _) | (with_reducible apply Below.alloc) | (with_reducible apply Below.drew) | (with_reducible apply below_drawn) | omega | (simp only [World.size_alloc, World.size_setCell, World.size_drew]; omega)))
    have hew1 := Lib.hid (show w1.heap.size = w.heap.size + 1 by rw [← hqw1]; simp)
    have hsw : w.heap.size + 1 ≤ w1.heap.size := by rw [← hqw1]; simp only [World.size_alloc]; omega
    have hswa : w.heap.size < w1.heap.size := by omega
    have HQw1_0 : Blk w1 (w.heap.size) [.slice s1 n1 c1, .slice s2 n2 c2, .slice s3 n3 c3] 33 := by rw [← hqw1]; have hnew := blk_new w [.slice s1 n1 c1, .slice s2 n2 c2, .slice s3 n3 c3] 33; (try simp only [World.size_alloc] at hnew); exact hnew
    have b0_0 : w1.cell? ⟨w.heap.size, 0, none⟩ = some (.slice s1 n1 c1) := HQw1_0.cell 0 rfl
    have b0_1 : w1.cell? ⟨w.heap.size, 1, none⟩ = some (.slice s2 n2 c2) := HQw1_0.cell 1 rfl
    have b0_2 : w1.cell? ⟨w.heap.size, 2, none⟩ = some (.slice s3 n3 c3) := HQw1_0.cell 2 rfl
    have HRw1 := Lib.hid HQw1_0
    clear HQw1_0
    clear hqw1
    clear HRw1
    have gb0_0 := grow_cell b0_0
    have gb0_1 := grow_cell b0_1
    have gb0_2 := grow_cell b0_2
    refine wp_region_grow (by kernel_rfl) (by kernel_rfl) ?_
    repeat ((with_reducible refine wpQuiet_step (fun K hK => ?_)); go_simp; first | (refine hK _ ?_; clear hK K) | (apply Exists.intro; refine ⟨fun w' hw' => ?_, hK _ ?_⟩; ((have hx := hbw.trans (Below.mono hw' hbw.size)); (try go_simp); first | (go_at_call 57; exact grow_call_b hw' (small_s _ _ _ (hP0.below hx)) k1) | rfl | exact ⟨rfl, rfl⟩); clear hK K))
    refine wpQuiet_nil ?_
    intro w2 hww2
    have hbw2 : Below w1.heap.size w1 w2 := hww2
    clear gb0_0 gb0_1 gb0_2
    replace b0_0 := cell_b b0_0 hbw2
    replace b0_1 := cell_b b0_1 hbw2
    replace b0_2 := cell_b b0_2 hbw2
    replace hbw : Below w.heap.size w w2 := hbw.trans (hbw2.mono hbw.size)
    clear hww2
    go_wp2_with fail
    go_ret
    exact ⟨rfl, hbw⟩
end Go.Proofs.Ytfkiloibifigfaa
