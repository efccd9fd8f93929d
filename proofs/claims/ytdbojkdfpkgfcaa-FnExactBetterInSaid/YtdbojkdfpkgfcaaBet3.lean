/-
  The order of worths: the program's.
-/
import Derived.Test.YtdbojkdfpkgfcaaBet2
namespace Go.Proofs.Ytdbojkdfpkgfcaa
set_option linter.unusedVariables false
set_option linter.unusedSimpArgs false
open Go.RowKit
attribute [local go_sem ↓] Go.wp_at_zero Go.wp_at_succ

set_option maxRecDepth 100000 in
set_option maxHeartbeats 8000000 in
theorem better_i (v va vb : Value) (g : Pa) (a b : Wo) (w : World) (hP : IsP w v g) (hA : IsW w va a) (hB : IsW w vb b) (hg : PaOk g) (ha : Vert g.prio.length a.head) (hb : Vert g.prio.length b.head) : Calls Try.prog 85 #[v, va, vb] w (Bb w (tf (Bet g a b))) := by
  have hP0 := hP
  obtain ⟨_, _, _, rfl, ⟨s1, n1, c1, rfl, h1⟩, ⟨s2, n2, c2, rfl, h2⟩, ⟨s3, n3, c3, rfl, h3⟩⟩ := hP
  have hAr : IsA w (.agg #[.slice s1 n1 c1, .slice s2 n2 c2]) g.ar := ⟨_, _, rfl, h1.is, h2.is⟩
  obtain ⟨p0, s4, n4, c4, p1, rfl⟩ := hA.form
  obtain ⟨r0, s5, n5, c5, r1, rfl⟩ := hB.form
  obtain ⟨rfl, h4, rfl⟩ := hA.parts
  obtain ⟨rfl, h5, rfl⟩ := hB.parts
  obtain ⟨a0, a1⟩ := ha
  obtain ⟨b0, b1⟩ := hb
  obtain ⟨x, hx⟩ := Int.eq_ofNat_of_zero_le a0
  obtain ⟨y, hy⟩ := Int.eq_ofNat_of_zero_le b0
  obtain ⟨u0, u1⟩ := unl_bd g a.over b.over g.prio.length
  have hm3 := h3.max
  have hle : g.prio.length ≤ 256 := by have := hg.ar.le; have := hg.len; omega
  have HL := Lib.hid hg.len
  have hln : n3 ≤ 256 := by rw [← h3.1]; exact hle
  have H3 := Lib.hid h3.1
  have hxn : a.head.toNat < n3 := by have := h3.1; omega
  have hyn : b.head.toNat < n3 := by have := h3.1; omega
  obtain ⟨bp, op, rfl, hbp, hcp⟩ := h3.get hxn
  have q1 := hcp _ hxn
  have q2 := hcp _ hyn
  have hp1 := (hg.prio a.head.toNat (by have := h3.1; omega)).1
  have hp2 := (hg.prio b.head.toNat (by have := h3.1; omega)).1
  have a1' : a.head < (n3 : Int) := by have := h3.1; omega
  have b1' : b.head < (n3 : Int) := by have := h3.1; omega
  have G := Lib.hid hg
  have A1 := Lib.hid a1
  have B1 := Lib.hid b1
  have U1 := Lib.hid u1
  clear hg a1 b1 u1 hA hB hx hy hcp
  have E1 : ∀ z : Int, gi g.prio a.head.toNat % 2 = z → (Ev g a.head ↔ z = 0) := fun z hz => by unfold Ev; omega
  have E2 : ∀ z : Int, gi g.prio b.head.toNat % 2 = z → (Ev g b.head ↔ z = 0) := fun z hz => by unfold Ev; omega
  have HE1 := Lib.hid E1
  have HE2 := Lib.hid E2
  clear E1 E2
  rcases ne_cases a.head b.head with ⟨d1, d2, x1⟩ | ⟨d1, d2, x1⟩
  · obtain ⟨eA, hEA⟩ : ∃ eA : Bool, ((gi g.prio a.head.toNat).tmod 2 == 0) = eA := ⟨_, rfl⟩
    obtain ⟨eB, hEB⟩ : ∃ eB : Bool, ((gi g.prio b.head.toNat).tmod 2 == 0) = eB := ⟨_, rfl⟩
    have F1 : Hid (Ev g a.head ↔ eA = true) := by
      show _ ↔ _
      rw [← hEA]
      rcases par_cases hp1 with ⟨m1, m1'⟩ | ⟨m1, m1'⟩
      · rw [HE1.out _ m1', m1]; simp
      · rw [HE1.out _ m1', m1]; simp
    clear HE1 HE2
    focus
      go_enter Try.func85, Try.ntmps85
      go_wp2_with fail
      generalize hqw1 : ((w.alloc (.cells #[.slice s1 n1 c1, .slice s2 n2 c2, .slice (some ⟨bp, op, none⟩) n3 c3] 32)).alloc (.cells #[.int .i64 a.head, .slice s4 n4 c4, .int .i64 a.way] 42)).alloc (.cells #[.int .i64 b.head, .slice s5 n5 c5, .int .i64 b.way] 42) = w1
      have hbw : Below w.heap.size w w1 := by rw [← hqw1]; exact (by repeat' (first | (with_reducible exact Below.refl _ _) | (with_reducible apply Below.alloc) | (with_reducible apply Below.drew) | (with_reducible apply below_drawn) | omega | (simp only [World.size_alloc, World.size_setCell, World.size_drew]; omega)))
      have hew1 := Lib.hid (show w1.heap.size = w.heap.size + 1 + 1 + 1 by rw [← hqw1]; simp)
      have hsw : w.heap.size + 3 ≤ w1.heap.size := by rw [← hqw1]; simp only [World.size_alloc]; omega
      have hswa : w.heap.size < w1.heap.size := by omega
      have hswb : w.heap.size + 1 < w1.heap.size := by omega
      have hswc : w.heap.size + 1 + 1 < w1.heap.size := by omega
      have HQw1_0 : Blk w1 (w.heap.size) [.slice s1 n1 c1, .slice s2 n2 c2, .slice (some ⟨bp, op, none⟩) n3 c3] 32 := by rw [← hqw1]; have hnew := blk_new w [.slice s1 n1 c1, .slice s2 n2 c2, .slice (some ⟨bp, op, none⟩) n3 c3] 32; (try simp only [World.size_alloc] at hnew); exact (Blk.alloc (Blk.alloc hnew _) _)
      have b0_0 : w1.cell? ⟨w.heap.size, 0, none⟩ = some (.slice s1 n1 c1) := HQw1_0.cell 0 rfl
      have b0_1 : w1.cell? ⟨w.heap.size, 1, none⟩ = some (.slice s2 n2 c2) := HQw1_0.cell 1 rfl
      have b0_2 : w1.cell? ⟨w.heap.size, 2, none⟩ = some (.slice (some ⟨bp, op, none⟩) n3 c3) := HQw1_0.cell 2 rfl
      clear HQw1_0
      have HQw1_1 : Blk w1 (w.heap.size + 1) [.int .i64 a.head, .slice s4 n4 c4, .int .i64 a.way] 42 := by rw [← hqw1]; have hnew := blk_new (w.alloc (.cells #[.slice s1 n1 c1, .slice s2 n2 c2, .slice (some ⟨bp, op, none⟩) n3 c3] 32)) [.int .i64 a.head, .slice s4 n4 c4, .int .i64 a.way] 42; (try simp only [World.size_alloc] at hnew); exact (Blk.alloc hnew _)
      have b1_0 : w1.cell? ⟨w.heap.size + 1, 0, none⟩ = some (.int .i64 a.head) := HQw1_1.cell 0 rfl
      have b1_1 : w1.cell? ⟨w.heap.size + 1, 1, none⟩ = some (.slice s4 n4 c4) := HQw1_1.cell 1 rfl
      have b1_2 : w1.cell? ⟨w.heap.size + 1, 2, none⟩ = some (.int .i64 a.way) := HQw1_1.cell 2 rfl
      clear HQw1_1
      have HQw1_2 : Blk w1 (w.heap.size + 1 + 1) [.int .i64 b.head, .slice s5 n5 c5, .int .i64 b.way] 42 := by rw [← hqw1]; have hnew := blk_new ((w.alloc (.cells #[.slice s1 n1 c1, .slice s2 n2 c2, .slice (some ⟨bp, op, none⟩) n3 c3] 32)).alloc (.cells #[.int .i64 a.head, .slice s4 n4 c4, .int .i64 a.way] 42)) [.int .i64 b.head, .slice s5 n5 c5, .int .i64 b.way] 42; (try simp only [World.size_alloc] at hnew); exact hnew
      have b2_0 : w1.cell? ⟨w.heap.size + 1 + 1, 0, none⟩ = some (.int .i64 b.head) := HQw1_2.cell 0 rfl
      have b2_1 : w1.cell? ⟨w.heap.size + 1 + 1, 1, none⟩ = some (.slice s5 n5 c5) := HQw1_2.cell 1 rfl
      have b2_2 : w1.cell? ⟨w.heap.size + 1 + 1, 2, none⟩ = some (.int .i64 b.way) := HQw1_2.cell 2 rfl
      have HRw1 := Lib.hid HQw1_2
      clear HQw1_2
      clear hqw1
      clear HRw1
      replace q1 := cell_b q1 hbw
      replace q2 := cell_b q2 hbw
      have gb0_0 := grow_cell b0_0
      have gb0_1 := grow_cell b0_1
      have gb0_2 := grow_cell b0_2
      have gb1_0 := grow_cell b1_0
      have gb1_1 := grow_cell b1_1
      have gb1_2 := grow_cell b1_2
      have gb2_0 := grow_cell b2_0
      have gb2_1 := grow_cell b2_1
      have gb2_2 := grow_cell b2_2
      have gq1 := grow_cell q1
      have gq2 := grow_cell q2
      refine wp_region_grow (by kernel_rfl) (by kernel_rfl) ?_
      repeat ((with_reducible refine wpQuiet_step (fun K hK => ?_)); go_simp; first | (refine hK _ ?_; clear hK K) | (apply Exists.intro; refine ⟨fun w' hw' => ?_, hK _ ?_⟩; ((have hx := hbw.trans (Below.mono hw' hbw.size)); (try go_simp); first | rfl | exact ⟨rfl, rfl⟩); clear hK K))
      refine wpQuiet_nil ?_
      intro w2 hww2
      have hbw2 : Below w1.heap.size w1 w2 := hww2
      clear gb0_0 gb0_1 gb0_2 gb1_0 gb1_1 gb1_2 gb2_0 gb2_1 gb2_2 gq1 gq2
      replace b0_0 := cell_b b0_0 hbw2
      replace b0_1 := cell_b b0_1 hbw2
      replace b0_2 := cell_b b0_2 hbw2
      replace b1_0 := cell_b b1_0 hbw2
      replace b1_1 := cell_b b1_1 hbw2
      replace b1_2 := cell_b b1_2 hbw2
      replace b2_0 := cell_b b2_0 hbw2
      replace b2_1 := cell_b b2_1 hbw2
      replace b2_2 := cell_b b2_2 hbw2
      replace q1 := cell_b q1 hbw2
      replace q2 := cell_b q2 hbw2
      replace hbw : Below w.heap.size w w2 := hbw.trans (hbw2.mono hbw.size)
      clear hww2
      go_wp2_with fail
      refine (size_i _ _ _ (hAr.below hbw)).mono ?_
      rw [← HL.out]
      rintro e w3 ⟨rfl, hb3⟩
      replace b0_0 := cell_b b0_0 hb3
      replace b0_1 := cell_b b0_1 hb3
      replace b0_2 := cell_b b0_2 hb3
      replace b1_0 := cell_b b1_0 hb3
      replace b1_1 := cell_b b1_1 hb3
      replace b1_2 := cell_b b1_2 hb3
      replace b2_0 := cell_b b2_0 hb3
      replace b2_1 := cell_b b2_1 hb3
      replace b2_2 := cell_b b2_2 hb3
      replace hbw := hbw.trans (hb3.mono hbw.size)
      go_wp2_with fail
      go_loopw [9, 10, 57] (fun x q i wr => ∃ (k : Nat) (β : Bool), k ≤ g.prio.length ∧ i = .int .i64 k ∧ x = .int .i64 (unl g a.over b.over k) ∧ q = .bool β ∧ (0 ≤ unl g a.over b.over k → β = tf (unl g a.over b.over k ∈ a.over)) ∧ Below w3.heap.size w3 wr) (fun _ _ i _ => g.prio.length - (intOf i).toNat)
      case atStart => exact ⟨0, false, by omega, rfl, rfl, rfl, fun h => by simp [unl] at h, Below.refl _ _⟩
      case round =>
        obtain ⟨k, β, hk, rfl, rfl, rfl, hβ, hb⟩ := hrel
        have HB := Lib.hid hβ
        clear hβ
        have hBwr : Below w3.heap.size w3 (wr) := (by repeat' (first | (with_reducible exact Below.refl _ _) | (with_reducible assumption) | (with_reducible apply below_set) | (with_reducible apply Below.alloc) | (with_reducible apply Below.drew) | (with_reducible apply below_drawn) | (with_reducible refine Below.trans ?_ (Below.mono (by assumption) ?_)) | omega | (simp only [World.size_alloc, World.size_setCell, World.size_drew]; omega)))
        replace b0_0 := cell_b b0_0 hBwr
        replace b0_1 := cell_b b0_1 hBwr
        replace b0_2 := cell_b b0_2 hBwr
        replace b1_0 := cell_b b1_0 hBwr
        replace b1_1 := cell_b b1_1 hBwr
        replace b1_2 := cell_b b1_2 hBwr
        replace b2_0 := cell_b b2_0 hBwr
        replace b2_1 := cell_b b2_1 hBwr
        replace b2_2 := cell_b b2_2 hBwr
        replace hbw : Below w.heap.size w (wr) := hbw.trans (hBwr.mono hbw.size)
        clear hBwr
        by_cases hlt : k < g.prio.length
        · obtain ⟨u0, u1⟩ := unl_bd g a.over b.over k
          have e1 : (0 : Int) ≤ k := by omega
          have e2 : (k : Int) < g.prio.length := by omega
          have e4 : unl g a.over b.over k < g.prio.length := by omega
          rcases tf_cases ((k : Int) ∈ a.over) with ⟨k1, y1⟩ | ⟨k1, y1⟩
          · rcases tf_cases ((k : Int) ∈ b.over) with ⟨k2, y2⟩ | ⟨k2, y2⟩
            · have HU := Lib.hid (unl_no (show ¬ UnStep g a.over b.over k (unl g a.over b.over k) from fun h => h.1 ⟨fun _ => y2.out, fun _ => y1.out⟩))
              go_wp2_with fail
              have gb0_0 := grow_cell b0_0
              have gb0_1 := grow_cell b0_1
              have gb0_2 := grow_cell b0_2
              have gb1_0 := grow_cell b1_0
              have gb1_1 := grow_cell b1_1
              have gb1_2 := grow_cell b1_2
              have gb2_0 := grow_cell b2_0
              have gb2_1 := grow_cell b2_1
              have gb2_2 := grow_cell b2_2
              refine wp_region_grow (by kernel_rfl) (by kernel_rfl) ?_
              repeat ((with_reducible refine wpQuiet_step (fun K hK => ?_)); go_simp; first | (refine hK _ ?_; clear hK K) | (apply Exists.intro; refine ⟨fun w' hw' => ?_, hK _ ?_⟩; ((have hx := hbw.trans (Below.mono hw' hbw.size)); (try go_simp); first | (go_at_call 110; exact grow_call_s hw' (contains_any _ _ _ _ _ _ (h4.below hx)) k1) | (go_at_call 110; exact grow_call_s hw' (contains_any _ _ _ _ _ _ (h5.below hx)) k2) | rfl | exact ⟨rfl, rfl⟩); clear hK K))
              refine wpQuiet_nil ?_
              intro w5 hww5
              have hbw5 : Below wr.heap.size wr w5 := hww5
              clear gb0_0 gb0_1 gb0_2 gb1_0 gb1_1 gb1_2 gb2_0 gb2_1 gb2_2
              replace b0_0 := cell_b b0_0 hbw5
              replace b0_1 := cell_b b0_1 hbw5
              replace b0_2 := cell_b b0_2 hbw5
              replace b1_0 := cell_b b1_0 hbw5
              replace b1_1 := cell_b b1_1 hbw5
              replace b1_2 := cell_b b1_2 hbw5
              replace b2_0 := cell_b b2_0 hbw5
              replace b2_1 := cell_b b2_1 hbw5
              replace b2_2 := cell_b b2_2 hbw5
              replace hbw : Below w.heap.size w w5 := hbw.trans (hbw5.mono hbw.size)
              clear hww5
              go_wp2_with fail
              go_roundw
              case rel => exact ⟨k + 1, _, by omega, by go_num, by rw [HU.out], rfl, by rw [HU.out]; exact HB.out, hb.trans (hbw5.mono hb.size)⟩
              case measure => simp [intOf]; omega
            · rcases dec_cases (unl g a.over b.over k < 0) with ⟨d3, y3⟩ | ⟨d3, y3⟩
              · have HU := Lib.hid (unl_yes (show UnStep g a.over b.over k (unl g a.over b.over k) from ⟨fun h => y2.out (h.1 y1.out), Or.inl y3⟩))
                go_wp2_with fail
                have gb0_0 := grow_cell b0_0
                have gb0_1 := grow_cell b0_1
                have gb0_2 := grow_cell b0_2
                have gb1_0 := grow_cell b1_0
                have gb1_1 := grow_cell b1_1
                have gb1_2 := grow_cell b1_2
                have gb2_0 := grow_cell b2_0
                have gb2_1 := grow_cell b2_1
                have gb2_2 := grow_cell b2_2
                refine wp_region_grow (by kernel_rfl) (by kernel_rfl) ?_
                repeat ((with_reducible refine wpQuiet_step (fun K hK => ?_)); go_simp; first | (refine hK _ ?_; clear hK K) | (apply Exists.intro; refine ⟨fun w' hw' => ?_, hK _ ?_⟩; ((have hx := hbw.trans (Below.mono hw' hbw.size)); (try go_simp); first | (go_at_call 110; exact grow_call_s hw' (contains_any _ _ _ _ _ _ (h4.below hx)) k1) | (go_at_call 110; exact grow_call_s hw' (contains_any _ _ _ _ _ _ (h5.below hx)) k2) | rfl | exact ⟨rfl, rfl⟩); clear hK K))
                refine wpQuiet_nil ?_
                intro w5 hww5
                have hbw5 : Below wr.heap.size wr w5 := hww5
                clear gb0_0 gb0_1 gb0_2 gb1_0 gb1_1 gb1_2 gb2_0 gb2_1 gb2_2
                replace b0_0 := cell_b b0_0 hbw5
                replace b0_1 := cell_b b0_1 hbw5
                replace b0_2 := cell_b b0_2 hbw5
                replace b1_0 := cell_b b1_0 hbw5
                replace b1_1 := cell_b b1_1 hbw5
                replace b1_2 := cell_b b1_2 hbw5
                replace b2_0 := cell_b b2_0 hbw5
                replace b2_1 := cell_b b2_1 hbw5
                replace b2_2 := cell_b b2_2 hbw5
                replace hbw : Below w.heap.size w w5 := hbw.trans (hbw5.mono hbw.size)
                clear hww5
                go_wp2_with fail
                go_roundw
                case rel => exact ⟨k + 1, _, by omega, by go_num, by rw [HU.out], rfl, by rw [HU.out]; exact fun _ => k1.out.symm, hb.trans (hbw5.mono hb.size)⟩
                case measure => simp [intOf]; omega
              · rcases tf_cases (Heavy g (k : Int).toNat (unl g a.over b.over k).toNat) with ⟨k4, y4⟩ | ⟨k4, y4⟩
                · have HU := Lib.hid (unl_yes (show UnStep g a.over b.over k (unl g a.over b.over k) from ⟨fun h => y2.out (h.1 y1.out), Or.inr y4.out⟩))
                  go_wp2_with fail
                  have gb0_0 := grow_cell b0_0
                  have gb0_1 := grow_cell b0_1
                  have gb0_2 := grow_cell b0_2
                  have gb1_0 := grow_cell b1_0
                  have gb1_1 := grow_cell b1_1
                  have gb1_2 := grow_cell b1_2
                  have gb2_0 := grow_cell b2_0
                  have gb2_1 := grow_cell b2_1
                  have gb2_2 := grow_cell b2_2
                  refine wp_region_grow (by kernel_rfl) (by kernel_rfl) ?_
                  repeat ((with_reducible refine wpQuiet_step (fun K hK => ?_)); go_simp; first | (refine hK _ ?_; clear hK K) | (apply Exists.intro; refine ⟨fun w' hw' => ?_, hK _ ?_⟩; ((have hx := hbw.trans (Below.mono hw' hbw.size)); (try go_simp); first | (go_at_call 110; exact grow_call_s hw' (contains_any _ _ _ _ _ _ (h4.below hx)) k1) | (go_at_call 110; exact grow_call_s hw' (contains_any _ _ _ _ _ _ (h5.below hx)) k2) | rfl | exact ⟨rfl, rfl⟩); clear hK K))
                  refine wpQuiet_nil ?_
                  intro w5 hww5
                  have hbw5 : Below wr.heap.size wr w5 := hww5
                  clear gb0_0 gb0_1 gb0_2 gb1_0 gb1_1 gb1_2 gb2_0 gb2_1 gb2_2
                  replace b0_0 := cell_b b0_0 hbw5
                  replace b0_1 := cell_b b0_1 hbw5
                  replace b0_2 := cell_b b0_2 hbw5
                  replace b1_0 := cell_b b1_0 hbw5
                  replace b1_1 := cell_b b1_1 hbw5
                  replace b1_2 := cell_b b1_2 hbw5
                  replace b2_0 := cell_b b2_0 hbw5
                  replace b2_1 := cell_b b2_1 hbw5
                  replace b2_2 := cell_b b2_2 hbw5
                  replace hbw : Below w.heap.size w w5 := hbw.trans (hbw5.mono hbw.size)
                  clear hww5
                  go_wp2_with fail
                  refine (heavy_i _ _ _ _ _ (hP0.below hbw) e1 e2 (by omega) e4).mono ?_
                  rw [k4.out]
                  rintro e w6 ⟨rfl, hb6⟩
                  go_wp2_with fail
                  go_roundw
                  case rel => exact ⟨k + 1, _, by omega, by go_num, by rw [HU.out], rfl, by rw [HU.out]; exact fun _ => k1.out.symm, (hb.trans (hbw5.mono hb.size)).trans (hb6.mono (hb.trans (hbw5.mono hb.size)).size)⟩
                  case measure => simp [intOf]; omega
                · have HU := Lib.hid (unl_no (show ¬ UnStep g a.over b.over k (unl g a.over b.over k) from fun h => h.2.elim y3 y4.out))
                  go_wp2_with fail
                  have gb0_0 := grow_cell b0_0
                  have gb0_1 := grow_cell b0_1
                  have gb0_2 := grow_cell b0_2
                  have gb1_0 := grow_cell b1_0
                  have gb1_1 := grow_cell b1_1
                  have gb1_2 := grow_cell b1_2
                  have gb2_0 := grow_cell b2_0
                  have gb2_1 := grow_cell b2_1
                  have gb2_2 := grow_cell b2_2
                  refine wp_region_grow (by kernel_rfl) (by kernel_rfl) ?_
                  repeat ((with_reducible refine wpQuiet_step (fun K hK => ?_)); go_simp; first | (refine hK _ ?_; clear hK K) | (apply Exists.intro; refine ⟨fun w' hw' => ?_, hK _ ?_⟩; ((have hx := hbw.trans (Below.mono hw' hbw.size)); (try go_simp); first | (go_at_call 110; exact grow_call_s hw' (contains_any _ _ _ _ _ _ (h4.below hx)) k1) | (go_at_call 110; exact grow_call_s hw' (contains_any _ _ _ _ _ _ (h5.below hx)) k2) | rfl | exact ⟨rfl, rfl⟩); clear hK K))
                  refine wpQuiet_nil ?_
                  intro w5 hww5
                  have hbw5 : Below wr.heap.size wr w5 := hww5
                  clear gb0_0 gb0_1 gb0_2 gb1_0 gb1_1 gb1_2 gb2_0 gb2_1 gb2_2
                  replace b0_0 := cell_b b0_0 hbw5
                  replace b0_1 := cell_b b0_1 hbw5
                  replace b0_2 := cell_b b0_2 hbw5
                  replace b1_0 := cell_b b1_0 hbw5
                  replace b1_1 := cell_b b1_1 hbw5
                  replace b1_2 := cell_b b1_2 hbw5
                  replace b2_0 := cell_b b2_0 hbw5
                  replace b2_1 := cell_b b2_1 hbw5
                  replace b2_2 := cell_b b2_2 hbw5
                  replace hbw : Below w.heap.size w w5 := hbw.trans (hbw5.mono hbw.size)
                  clear hww5
                  go_wp2_with fail
                  refine (heavy_i _ _ _ _ _ (hP0.below hbw) e1 e2 (by omega) e4).mono ?_
                  rw [k4.out]
                  rintro e w6 ⟨rfl, hb6⟩
                  go_wp2_with fail
                  go_roundw
                  case rel => exact ⟨k + 1, _, by omega, by go_num, by rw [HU.out], rfl, by rw [HU.out]; exact HB.out, (hb.trans (hbw5.mono hb.size)).trans (hb6.mono (hb.trans (hbw5.mono hb.size)).size)⟩
                  case measure => simp [intOf]; omega
          · rcases tf_cases ((k : Int) ∈ b.over) with ⟨k2, y2⟩ | ⟨k2, y2⟩
            · rcases dec_cases (unl g a.over b.over k < 0) with ⟨d3, y3⟩ | ⟨d3, y3⟩
              · have HU := Lib.hid (unl_yes (show UnStep g a.over b.over k (unl g a.over b.over k) from ⟨fun h => y1.out (h.2 y2.out), Or.inl y3⟩))
                go_wp2_with fail
                have gb0_0 := grow_cell b0_0
                have gb0_1 := grow_cell b0_1
                have gb0_2 := grow_cell b0_2
                have gb1_0 := grow_cell b1_0
                have gb1_1 := grow_cell b1_1
                have gb1_2 := grow_cell b1_2
                have gb2_0 := grow_cell b2_0
                have gb2_1 := grow_cell b2_1
                have gb2_2 := grow_cell b2_2
                refine wp_region_grow (by kernel_rfl) (by kernel_rfl) ?_
                repeat ((with_reducible refine wpQuiet_step (fun K hK => ?_)); go_simp; first | (refine hK _ ?_; clear hK K) | (apply Exists.intro; refine ⟨fun w' hw' => ?_, hK _ ?_⟩; ((have hx := hbw.trans (Below.mono hw' hbw.size)); (try go_simp); first | (go_at_call 110; exact grow_call_s hw' (contains_any _ _ _ _ _ _ (h4.below hx)) k1) | (go_at_call 110; exact grow_call_s hw' (contains_any _ _ _ _ _ _ (h5.below hx)) k2) | rfl | exact ⟨rfl, rfl⟩); clear hK K))
                refine wpQuiet_nil ?_
                intro w5 hww5
                have hbw5 : Below wr.heap.size wr w5 := hww5
                clear gb0_0 gb0_1 gb0_2 gb1_0 gb1_1 gb1_2 gb2_0 gb2_1 gb2_2
                replace b0_0 := cell_b b0_0 hbw5
                replace b0_1 := cell_b b0_1 hbw5
                replace b0_2 := cell_b b0_2 hbw5
                replace b1_0 := cell_b b1_0 hbw5
                replace b1_1 := cell_b b1_1 hbw5
                replace b1_2 := cell_b b1_2 hbw5
                replace b2_0 := cell_b b2_0 hbw5
                replace b2_1 := cell_b b2_1 hbw5
                replace b2_2 := cell_b b2_2 hbw5
                replace hbw : Below w.heap.size w w5 := hbw.trans (hbw5.mono hbw.size)
                clear hww5
                go_wp2_with fail
                go_roundw
                case rel => exact ⟨k + 1, _, by omega, by go_num, by rw [HU.out], rfl, by rw [HU.out]; exact fun _ => k1.out.symm, hb.trans (hbw5.mono hb.size)⟩
                case measure => simp [intOf]; omega
              · rcases tf_cases (Heavy g (k : Int).toNat (unl g a.over b.over k).toNat) with ⟨k4, y4⟩ | ⟨k4, y4⟩
                · have HU := Lib.hid (unl_yes (show UnStep g a.over b.over k (unl g a.over b.over k) from ⟨fun h => y1.out (h.2 y2.out), Or.inr y4.out⟩))
                  go_wp2_with fail
                  have gb0_0 := grow_cell b0_0
                  have gb0_1 := grow_cell b0_1
                  have gb0_2 := grow_cell b0_2
                  have gb1_0 := grow_cell b1_0
                  have gb1_1 := grow_cell b1_1
                  have gb1_2 := grow_cell b1_2
                  have gb2_0 := grow_cell b2_0
                  have gb2_1 := grow_cell b2_1
                  have gb2_2 := grow_cell b2_2
                  refine wp_region_grow (by kernel_rfl) (by kernel_rfl) ?_
                  repeat ((with_reducible refine wpQuiet_step (fun K hK => ?_)); go_simp; first | (refine hK _ ?_; clear hK K) | (apply Exists.intro; refine ⟨fun w' hw' => ?_, hK _ ?_⟩; ((have hx := hbw.trans (Below.mono hw' hbw.size)); (try go_simp); first | (go_at_call 110; exact grow_call_s hw' (contains_any _ _ _ _ _ _ (h4.below hx)) k1) | (go_at_call 110; exact grow_call_s hw' (contains_any _ _ _ _ _ _ (h5.below hx)) k2) | rfl | exact ⟨rfl, rfl⟩); clear hK K))
                  refine wpQuiet_nil ?_
                  intro w5 hww5
                  have hbw5 : Below wr.heap.size wr w5 := hww5
                  clear gb0_0 gb0_1 gb0_2 gb1_0 gb1_1 gb1_2 gb2_0 gb2_1 gb2_2
                  replace b0_0 := cell_b b0_0 hbw5
                  replace b0_1 := cell_b b0_1 hbw5
                  replace b0_2 := cell_b b0_2 hbw5
                  replace b1_0 := cell_b b1_0 hbw5
                  replace b1_1 := cell_b b1_1 hbw5
                  replace b1_2 := cell_b b1_2 hbw5
                  replace b2_0 := cell_b b2_0 hbw5
                  replace b2_1 := cell_b b2_1 hbw5
                  replace b2_2 := cell_b b2_2 hbw5
                  replace hbw : Below w.heap.size w w5 := hbw.trans (hbw5.mono hbw.size)
                  clear hww5
                  go_wp2_with fail
                  refine (heavy_i _ _ _ _ _ (hP0.below hbw) e1 e2 (by omega) e4).mono ?_
                  rw [k4.out]
                  rintro e w6 ⟨rfl, hb6⟩
                  go_wp2_with fail
                  go_roundw
                  case rel => exact ⟨k + 1, _, by omega, by go_num, by rw [HU.out], rfl, by rw [HU.out]; exact fun _ => k1.out.symm, (hb.trans (hbw5.mono hb.size)).trans (hb6.mono (hb.trans (hbw5.mono hb.size)).size)⟩
                  case measure => simp [intOf]; omega
                · have HU := Lib.hid (unl_no (show ¬ UnStep g a.over b.over k (unl g a.over b.over k) from fun h => h.2.elim y3 y4.out))
                  go_wp2_with fail
                  have gb0_0 := grow_cell b0_0
                  have gb0_1 := grow_cell b0_1
                  have gb0_2 := grow_cell b0_2
                  have gb1_0 := grow_cell b1_0
                  have gb1_1 := grow_cell b1_1
                  have gb1_2 := grow_cell b1_2
                  have gb2_0 := grow_cell b2_0
                  have gb2_1 := grow_cell b2_1
                  have gb2_2 := grow_cell b2_2
                  refine wp_region_grow (by kernel_rfl) (by kernel_rfl) ?_
                  repeat ((with_reducible refine wpQuiet_step (fun K hK => ?_)); go_simp; first | (refine hK _ ?_; clear hK K) | (apply Exists.intro; refine ⟨fun w' hw' => ?_, hK _ ?_⟩; ((have hx := hbw.trans (Below.mono hw' hbw.size)); (try go_simp); first | (go_at_call 110; exact grow_call_s hw' (contains_any _ _ _ _ _ _ (h4.below hx)) k1) | (go_at_call 110; exact grow_call_s hw' (contains_any _ _ _ _ _ _ (h5.below hx)) k2) | rfl | exact ⟨rfl, rfl⟩); clear hK K))
                  refine wpQuiet_nil ?_
                  intro w5 hww5
                  have hbw5 : Below wr.heap.size wr w5 := hww5
                  clear gb0_0 gb0_1 gb0_2 gb1_0 gb1_1 gb1_2 gb2_0 gb2_1 gb2_2
                  replace b0_0 := cell_b b0_0 hbw5
                  replace b0_1 := cell_b b0_1 hbw5
                  replace b0_2 := cell_b b0_2 hbw5
                  replace b1_0 := cell_b b1_0 hbw5
                  replace b1_1 := cell_b b1_1 hbw5
                  replace b1_2 := cell_b b1_2 hbw5
                  replace b2_0 := cell_b b2_0 hbw5
                  replace b2_1 := cell_b b2_1 hbw5
                  replace b2_2 := cell_b b2_2 hbw5
                  replace hbw : Below w.heap.size w w5 := hbw.trans (hbw5.mono hbw.size)
                  clear hww5
                  go_wp2_with fail
                  refine (heavy_i _ _ _ _ _ (hP0.below hbw) e1 e2 (by omega) e4).mono ?_
                  rw [k4.out]
                  rintro e w6 ⟨rfl, hb6⟩
                  go_wp2_with fail
                  go_roundw
                  case rel => exact ⟨k + 1, _, by omega, by go_num, by rw [HU.out], rfl, by rw [HU.out]; exact HB.out, (hb.trans (hbw5.mono hb.size)).trans (hb6.mono (hb.trans (hbw5.mono hb.size)).size)⟩
                  case measure => simp [intOf]; omega
            · have HU := Lib.hid (unl_no (show ¬ UnStep g a.over b.over k (unl g a.over b.over k) from fun h => h.1 ⟨fun h => absurd h y1.out, fun h => absurd h y2.out⟩))
              go_wp2_with fail
              have gb0_0 := grow_cell b0_0
              have gb0_1 := grow_cell b0_1
              have gb0_2 := grow_cell b0_2
              have gb1_0 := grow_cell b1_0
              have gb1_1 := grow_cell b1_1
              have gb1_2 := grow_cell b1_2
              have gb2_0 := grow_cell b2_0
              have gb2_1 := grow_cell b2_1
              have gb2_2 := grow_cell b2_2
              refine wp_region_grow (by kernel_rfl) (by kernel_rfl) ?_
              repeat ((with_reducible refine wpQuiet_step (fun K hK => ?_)); go_simp; first | (refine hK _ ?_; clear hK K) | (apply Exists.intro; refine ⟨fun w' hw' => ?_, hK _ ?_⟩; ((have hx := hbw.trans (Below.mono hw' hbw.size)); (try go_simp); first | (go_at_call 110; exact grow_call_s hw' (contains_any _ _ _ _ _ _ (h4.below hx)) k1) | (go_at_call 110; exact grow_call_s hw' (contains_any _ _ _ _ _ _ (h5.below hx)) k2) | rfl | exact ⟨rfl, rfl⟩); clear hK K))
              refine wpQuiet_nil ?_
              intro w5 hww5
              have hbw5 : Below wr.heap.size wr w5 := hww5
              clear gb0_0 gb0_1 gb0_2 gb1_0 gb1_1 gb1_2 gb2_0 gb2_1 gb2_2
              replace b0_0 := cell_b b0_0 hbw5
              replace b0_1 := cell_b b0_1 hbw5
              replace b0_2 := cell_b b0_2 hbw5
              replace b1_0 := cell_b b1_0 hbw5
              replace b1_1 := cell_b b1_1 hbw5
              replace b1_2 := cell_b b1_2 hbw5
              replace b2_0 := cell_b b2_0 hbw5
              replace b2_1 := cell_b b2_1 hbw5
              replace b2_2 := cell_b b2_2 hbw5
              replace hbw : Below w.heap.size w w5 := hbw.trans (hbw5.mono hbw.size)
              clear hww5
              go_wp2_with fail
              go_roundw
              case rel => exact ⟨k + 1, _, by omega, by go_num, by rw [HU.out], rfl, by rw [HU.out]; exact HB.out, hb.trans (hbw5.mono hb.size)⟩
              case measure => simp [intOf]; omega
        · have e : k = g.prio.length := by omega
          subst e
          obtain ⟨u0, u1⟩ := unl_bd g a.over b.over g.prio.length
          rcases dec_cases (0 ≤ unl g a.over b.over g.prio.length) with ⟨d3, x3⟩ | ⟨d3, x3⟩
          · have hun : (unl g a.over b.over g.prio.length).toNat < n3 := by have := H3.out; omega
            obtain ⟨bq, oq, eq, hbq, hcq⟩ := (h3.below hbw).get hun
            injection eq with eq
            injection eq with eq1 eq2
            subst eq1 eq2
            have q5 := hcq _ hun
            have hp5 := (G.out.prio (unl g a.over b.over g.prio.length).toNat (by have := H3.out; omega)).1
            have u1' : unl g a.over b.over g.prio.length < (n3 : Int) := by have := H3.out; omega
            clear hcq u1
            rcases par_cases hp5 with ⟨m5, m5'⟩ | ⟨m5, m5'⟩
            all_goals rcases tf_cases (unl g a.over b.over g.prio.length ∈ a.over) with ⟨k6, x6⟩ | ⟨k6, x6⟩
            all_goals
              have hβ := HB.out x3
              rw [k6.out] at hβ
              subst hβ
              have F5 := Lib.hid (show Ev g (unl g a.over b.over g.prio.length) ↔ _ from by unfold Ev; rw [m5'])
              go_wp2_with fail
              go_ret
              refine ⟨ret_bool (Eq.symm ?_), hbw⟩
              rw [tf_congr (bet_set x1.out x3)]
              first
              | (refine tf_true ?_; simp [F5.out, x6.out]; done)
              | (refine tf_false ?_; simp [F5.out, x6.out]; done)
          · rcases dec_cases (a.way < b.way) with ⟨d6, x6⟩ | ⟨d6, x6⟩
            all_goals rcases dec_cases (b.way < a.way) with ⟨d7, x7⟩ | ⟨d7, x7⟩
            all_goals first | (exfalso; omega) | skip
            all_goals cases eA
            all_goals
              go_wp2_with fail
              go_ret
              refine ⟨ret_bool (Eq.symm ?_), hbw⟩
              rw [tf_congr (bet_way x1.out (by omega))]
              first
              | (refine tf_true ?_; simp [F1.out, x6, x7]; done)
              | (refine tf_false ?_; simp [F1.out, x6, x7]; done)
  · rw [tf_congr (bet_head x1.out)]
    rcases par_cases hp1 with ⟨m1, m1'⟩ | ⟨m1, m1'⟩
    all_goals rcases par_cases hp2 with ⟨m2, m2'⟩ | ⟨m2, m2'⟩
    all_goals have F1 := Lib.hid (HE1.out _ m1')
    all_goals have F2 := Lib.hid (HE2.out _ m2')
    all_goals clear m1' m2' HE1 HE2
    all_goals rcases tf_cases (Heavy g a.head.toNat b.head.toNat) with ⟨k7, x7⟩ | ⟨k7, x7⟩
    all_goals first
      | (have k8 := Lib.hid (tf_false (fun h => (heavy_tot a0 b0 x1.out).1 h x7.out)))
      | (have k8 := Lib.hid (tf_true ((heavy_tot a0 b0 x1.out).2 x7.out)))
    all_goals
      go_enter Try.func85, Try.ntmps85
      go_wp2_with fail
      generalize hqw1 : ((w.alloc (.cells #[.slice s1 n1 c1, .slice s2 n2 c2, .slice (some ⟨bp, op, none⟩) n3 c3] 32)).alloc (.cells #[.int .i64 a.head, .slice s4 n4 c4, .int .i64 a.way] 42)).alloc (.cells #[.int .i64 b.head, .slice s5 n5 c5, .int .i64 b.way] 42) = w1
      have hbw : Below w.heap.size w w1 := by rw [← hqw1]; exact (by repeat' (first | (with_reducible exact Below.refl _ _) | (with_reducible apply Below.alloc) | (with_reducible apply Below.drew) | (with_reducible apply below_drawn) | omega | (simp only [World.size_alloc, World.size_setCell, World.size_drew]; omega)))
      have hew1 := Lib.hid (show w1.heap.size = w.heap.size + 1 + 1 + 1 by rw [← hqw1]; simp)
      have hsw : w.heap.size + 3 ≤ w1.heap.size := by rw [← hqw1]; simp only [World.size_alloc]; omega
      have hswa : w.heap.size < w1.heap.size := by omega
      have hswb : w.heap.size + 1 < w1.heap.size := by omega
      have hswc : w.heap.size + 1 + 1 < w1.heap.size := by omega
      have HQw1_0 : Blk w1 (w.heap.size) [.slice s1 n1 c1, .slice s2 n2 c2, .slice (some ⟨bp, op, none⟩) n3 c3] 32 := by rw [← hqw1]; have hnew := blk_new w [.slice s1 n1 c1, .slice s2 n2 c2, .slice (some ⟨bp, op, none⟩) n3 c3] 32; (try simp only [World.size_alloc] at hnew); exact (Blk.alloc (Blk.alloc hnew _) _)
      have b0_0 : w1.cell? ⟨w.heap.size, 0, none⟩ = some (.slice s1 n1 c1) := HQw1_0.cell 0 rfl
      have b0_1 : w1.cell? ⟨w.heap.size, 1, none⟩ = some (.slice s2 n2 c2) := HQw1_0.cell 1 rfl
      have b0_2 : w1.cell? ⟨w.heap.size, 2, none⟩ = some (.slice (some ⟨bp, op, none⟩) n3 c3) := HQw1_0.cell 2 rfl
      clear HQw1_0
      have HQw1_1 : Blk w1 (w.heap.size + 1) [.int .i64 a.head, .slice s4 n4 c4, .int .i64 a.way] 42 := by rw [← hqw1]; have hnew := blk_new (w.alloc (.cells #[.slice s1 n1 c1, .slice s2 n2 c2, .slice (some ⟨bp, op, none⟩) n3 c3] 32)) [.int .i64 a.head, .slice s4 n4 c4, .int .i64 a.way] 42; (try simp only [World.size_alloc] at hnew); exact (Blk.alloc hnew _)
      have b1_0 : w1.cell? ⟨w.heap.size + 1, 0, none⟩ = some (.int .i64 a.head) := HQw1_1.cell 0 rfl
      have b1_1 : w1.cell? ⟨w.heap.size + 1, 1, none⟩ = some (.slice s4 n4 c4) := HQw1_1.cell 1 rfl
      have b1_2 : w1.cell? ⟨w.heap.size + 1, 2, none⟩ = some (.int .i64 a.way) := HQw1_1.cell 2 rfl
      clear HQw1_1
      have HQw1_2 : Blk w1 (w.heap.size + 1 + 1) [.int .i64 b.head, .slice s5 n5 c5, .int .i64 b.way] 42 := by rw [← hqw1]; have hnew := blk_new ((w.alloc (.cells #[.slice s1 n1 c1, .slice s2 n2 c2, .slice (some ⟨bp, op, none⟩) n3 c3] 32)).alloc (.cells #[.int .i64 a.head, .slice s4 n4 c4, .int .i64 a.way] 42)) [.int .i64 b.head, .slice s5 n5 c5, .int .i64 b.way] 42; (try simp only [World.size_alloc] at hnew); exact hnew
      have b2_0 : w1.cell? ⟨w.heap.size + 1 + 1, 0, none⟩ = some (.int .i64 b.head) := HQw1_2.cell 0 rfl
      have b2_1 : w1.cell? ⟨w.heap.size + 1 + 1, 1, none⟩ = some (.slice s5 n5 c5) := HQw1_2.cell 1 rfl
      have b2_2 : w1.cell? ⟨w.heap.size + 1 + 1, 2, none⟩ = some (.int .i64 b.way) := HQw1_2.cell 2 rfl
      have HRw1 := Lib.hid HQw1_2
      clear HQw1_2
      clear hqw1
      clear HRw1
      replace q1 := cell_b q1 hbw
      replace q2 := cell_b q2 hbw
      have gb0_0 := grow_cell b0_0
      have gb0_1 := grow_cell b0_1
      have gb0_2 := grow_cell b0_2
      have gb1_0 := grow_cell b1_0
      have gb1_1 := grow_cell b1_1
      have gb1_2 := grow_cell b1_2
      have gb2_0 := grow_cell b2_0
      have gb2_1 := grow_cell b2_1
      have gb2_2 := grow_cell b2_2
      have gq1 := grow_cell q1
      have gq2 := grow_cell q2
      refine wp_region_grow (by kernel_rfl) (by kernel_rfl) ?_
      repeat ((with_reducible refine wpQuiet_step (fun K hK => ?_)); go_simp; first | (refine hK _ ?_; clear hK K) | (apply Exists.intro; refine ⟨fun w' hw' => ?_, hK _ ?_⟩; ((have hx := hbw.trans (Below.mono hw' hbw.size)); (try go_simp); first | rfl | exact ⟨rfl, rfl⟩); clear hK K))
      refine wpQuiet_nil ?_
      intro w2 hww2
      have hbw2 : Below w1.heap.size w1 w2 := hww2
      clear gb0_0 gb0_1 gb0_2 gb1_0 gb1_1 gb1_2 gb2_0 gb2_1 gb2_2 gq1 gq2
      replace b0_0 := cell_b b0_0 hbw2
      replace b0_1 := cell_b b0_1 hbw2
      replace b0_2 := cell_b b0_2 hbw2
      replace b1_0 := cell_b b1_0 hbw2
      replace b1_1 := cell_b b1_1 hbw2
      replace b1_2 := cell_b b1_2 hbw2
      replace b2_0 := cell_b b2_0 hbw2
      replace b2_1 := cell_b b2_1 hbw2
      replace b2_2 := cell_b b2_2 hbw2
      replace q1 := cell_b q1 hbw2
      replace q2 := cell_b q2 hbw2
      replace hbw : Below w.heap.size w w2 := hbw.trans (hbw2.mono hbw.size)
      clear hww2
      go_wp2_with fail
      first
      | ((with_reducible refine (heavy_i _ _ _ _ _ (hP0.below hbw) a0 A1.out b0 B1.out).mono ?_); rw [k7.out]; rintro e w3 ⟨rfl, hb3⟩; replace hbw := hbw.trans (hb3.mono hbw.size); go_wp2_with fail)
      | ((with_reducible refine (heavy_i _ _ _ _ _ (hP0.below hbw) b0 B1.out a0 A1.out).mono ?_); rw [k8.out]; rintro e w3 ⟨rfl, hb3⟩; replace hbw := hbw.trans (hb3.mono hbw.size); go_wp2_with fail)
      | skip
      go_ret
      refine ⟨ret_bool (Eq.symm ?_), hbw⟩
      first
      | (refine tf_true ?_; simp [F1.out, F2.out, x7.out]; done)
      | (refine tf_false ?_; simp [F1.out, F2.out, x7.out]; done)
end Go.Proofs.Ytdbojkdfpkgfcaa
