/-
  EdgesIn: the program's and the reference's.
-/
import Derived.Test.YtdbojkdfpkgfcaaPok
import Derived.Test.YtdbojkdfpkgfcaaLaw
import Derived.Test.YtdbojkdfpkgfcaaLawX
namespace Go.Proofs.Ytdbojkdfpkgfcaa
set_option linter.unusedVariables false
set_option linter.unusedSimpArgs false
open Go.RowKit


noncomputable def edges (g : Pa) : Int := @ite Int (PaOk g) (Classical.propDecidable _) (psum g.ar.nxt g.ar.nxt.length : Nat) 0
theorem edges_ok {g : Pa} (h : PaOk g) : edges g = (psum g.ar.nxt g.ar.nxt.length : Nat) := by unfold edges; rw [if_pos h]
theorem edges_no {g : Pa} (h : ¬ PaOk g) : edges g = 0 := by unfold edges; rw [if_neg h]
theorem psum_le {g : Pa} (h : PaOk g) : ∀ k, k ≤ g.ar.own.length → psum g.ar.nxt k ≤ 16 * k := by
  intro k
  induction k with
  | zero => intro _; simp [psum]
  | succ k ih => intro hk; have := ih (by omega); have := (h.ar.vert k (by omega)).2.2.2.1; simp only [psum]; omega

set_option maxHeartbeats 400000 in
theorem edges_i (v : Value) (g : Pa) (w : World) (hP : IsP w v g) : Calls Try.prog 18 #[v] w (Bi w (edges g)) := by
  have hP0 := hP
  obtain ⟨_, _, _, rfl, ⟨s1, n1, c1, rfl, h1⟩, ⟨s2, n2, c2, rfl, h2⟩, ⟨s3, n3, c3, rfl, h3⟩⟩ := hP
  have hm2 := h2.max
  have H1 := Lib.hid h1.1
  have H2 := Lib.hid h2.len
  by_cases hg : PaOk g
  · have k1 := tf_true hg
    have hps := psum_le hg
    have hn : n2 = n1 := by have := hg.ar.len; have := H1.out; have := H2.out; omega
    have hle : n1 ≤ 256 := by have := hg.ar.le; have := H1.out; omega
    have HPS := Lib.hid hps
    have G := Lib.hid hg
    clear hps hg
    subst hn
    go_enter Try.func18, Try.ntmps18
    go_wp2_with (go_at_call 62; refine (paOk_i _ _ _ (hP0.below (by repeat' (first | (with_reducible exact Below.refl _ _) | (with_reducible assumption) | (with_reducible apply below_set) | (with_reducible apply Below.alloc) | (with_reducible apply Below.drew) | (with_reducible apply below_drawn) | (with_reducible refine Below.trans ?_ (Below.mono (by assumption) ?_)) | omega | (simp only [World.size_alloc, World.size_setCell, World.size_drew]; omega))))).mono ?_; rw [k1]; rintro e w2 ⟨rfl, hb2⟩; have hcf := bcell hb2; obtain ⟨hcell2, hfr2⟩ := hcf)
    go_loop [3, 13] (fun s i => ∃ k : Nat, k ≤ n2 ∧ i = .int .i64 k ∧ s = .int .i64 (psum g.ar.nxt k)) (fun _ i => n2 - (intOf i).toNat)
    case atStart => exact ⟨0, by omega, rfl, rfl⟩
    case round =>
      obtain ⟨k, hk, rfl, rfl⟩ := hrel
      by_cases hlt : k < n2
      · obtain ⟨b, o, rfl, hbl, A, L, C, hc⟩ := (h2.below (w' := w2) (by repeat' (first | (with_reducible exact Below.refl _ _) | (with_reducible assumption) | (with_reducible apply below_set) | (with_reducible apply Below.alloc) | (with_reducible apply Below.drew) | (with_reducible apply below_drawn) | (with_reducible refine Below.trans ?_ (Below.mono (by assumption) ?_)) | omega | (simp only [World.size_alloc, World.size_setCell, World.size_drew]; omega)))).get hlt
        obtain ⟨hck, hI⟩ := hc k hlt
        have HL := Lib.hid hI.1
        have hlm : L k ≤ 16 := by have := (G.out.ar.vert k (by rw [H1.out]; exact hlt)).2.2.2.1; have := HL.out; omega
        have hpk := HPS.out k (by rw [H1.out]; omega)
        have HS := Lib.hid (show psum g.ar.nxt (k + 1) = psum g.ar.nxt k + L k by simp only [psum]; rw [HL.out])
        generalize hq : psum g.ar.nxt k = q at *
        have HQ := Lib.hid hq
        clear hq hc
        go_wp2
        go_round
        case rel => exact ⟨k + 1, by omega, by go_num, by rw [HS.out]; congr 1⟩
        case measure => simp [intOf]; omega
      · go_wp2
        go_ret
        have e : k = n2 := by omega
        subst e
        exact ⟨ret_int (by rw [edges_ok G.out, H2.out]), (by repeat' (first | (with_reducible exact Below.refl _ _) | (with_reducible assumption) | (with_reducible apply below_set) | (with_reducible apply Below.alloc) | (with_reducible apply Below.drew) | (with_reducible apply below_drawn) | (with_reducible refine Below.trans ?_ (Below.mono (by assumption) ?_)) | omega | (simp only [World.size_alloc, World.size_setCell, World.size_drew]; omega)))⟩
  · have k1 := tf_false hg
    have G := Lib.hid hg
    clear hg
    go_enter Try.func18, Try.ntmps18
    go_wp2_with (go_at_call 62; refine (paOk_i _ _ _ (hP0.below (by repeat' (first | (with_reducible exact Below.refl _ _) | (with_reducible assumption) | (with_reducible apply below_set) | (with_reducible apply Below.alloc) | (with_reducible apply Below.drew) | (with_reducible apply below_drawn) | (with_reducible refine Below.trans ?_ (Below.mono (by assumption) ?_)) | omega | (simp only [World.size_alloc, World.size_setCell, World.size_drew]; omega))))).mono ?_; rw [k1]; rintro e w2 ⟨rfl, hb2⟩; have hcf := bcell hb2; obtain ⟨hcell2, hfr2⟩ := hcf)
    go_ret
    exact ⟨ret_int (edges_no G.out).symm, (by repeat' (first | (with_reducible exact Below.refl _ _) | (with_reducible assumption) | (with_reducible apply below_set) | (with_reducible apply Below.alloc) | (with_reducible apply Below.drew) | (with_reducible apply below_drawn) | (with_reducible refine Below.trans ?_ (Below.mono (by assumption) ?_)) | omega | (simp only [World.size_alloc, World.size_setCell, World.size_drew]; omega)))⟩

set_option maxHeartbeats 1000000 in
theorem edges_s (v : Value) (g : Pa) (w : World) (hP : IsP w v g) : Calls Try.prog 16 #[v] w (Bi w (edges g)) := by
  have hP0 := hP
  obtain ⟨_, _, _, rfl, ⟨s1, n1, c1, rfl, h1⟩, ⟨s2, n2, c2, rfl, h2⟩, ⟨s3, n3, c3, rfl, h3⟩⟩ := hP
  have hm2 := h2.max
  have H1 := Lib.hid h1.1
  have H2 := Lib.hid h2.len
  have H3 := Lib.hid h3.1
  by_cases hg : PaOk g
  · have k1 := tf_true hg
    have hps := psum_le hg
    have hn : n2 = n1 := by have := hg.ar.len; have := H1.out; have := H2.out; omega
    have hn3 : n3 = n1 := by have := hg.len; have := H1.out; have := H3.out; omega
    have hle : n1 ≤ 256 := by have := hg.ar.le; have := H1.out; omega
    have HPS := Lib.hid hps
    have G := Lib.hid hg
    clear hps hg
    subst hn hn3
    obtain ⟨W0, hW0⟩ : ∃ W0, W0 = w.alloc (.cells #[.slice s1 n3 c1, .slice s2 n3 c2, .slice s3 n3 c3] 32) := ⟨_, rfl⟩
    have HW := Lib.hid hW0
    have hbx0 : W0.cell? ⟨w.heap.size, 0, none⟩ = some (.slice s1 n3 c1) := by rw [hW0]; simp
    have hbx1 : W0.cell? ⟨w.heap.size, 1, none⟩ = some (.slice s2 n3 c2) := by rw [hW0]; simp
    have hbx2 : W0.cell? ⟨w.heap.size, 2, none⟩ = some (.slice s3 n3 c3) := by rw [hW0]; simp
    have hsz : w.heap.size < W0.heap.size := by rw [hW0]; simp
    have hbw : Below w.heap.size w W0 := by rw [hW0]; exact below_alloc _ _
    go_enter Try.func16, Try.ntmps16
    go_wp2_with fail
    rw [← hW0]
    clear hW0
    go_loopw [3, 4] (fun s i wr => ∃ k : Nat, k ≤ n3 ∧ i = .int .i64 k ∧ s = .int .i64 (psum g.ar.nxt k) ∧ Below W0.heap.size W0 wr) (fun _ i _ => n3 - (intOf i).toNat)
    case atStart => exact ⟨0, by omega, rfl, rfl, Below.refl _ _⟩
    case round =>
      obtain ⟨k, hk, rfl, rfl, hb⟩ := hrel
      have hcf0 := bcell hb
      obtain ⟨hcell0, hfr0⟩ := hcf0
      have hx0 := hcell0 _ 0 hsz
      have hx1 := hcell0 _ 1 hsz
      have hx2 := hcell0 _ 2 hsz
      rw [hbx0] at hx0
      rw [hbx1] at hx1
      rw [hbx2] at hx2
      have hbx : Below w.heap.size w wr := hbw.trans (hb.mono hbw.size)
      have hszr : w.heap.size < wr.heap.size := Nat.lt_of_lt_of_le hsz hb.size
      clear hcell0 hfr0 hbx0 hbx1 hbx2
      by_cases hlt : k < n3
      · obtain ⟨b, o, rfl, hbl, A, L, C, hc⟩ := (h2.below hbx).get hlt
        obtain ⟨hck, hI⟩ := hc k hlt
        have HL := Lib.hid hI.1
        have hlm : L k ≤ 16 := by have := (G.out.ar.vert k (by rw [H1.out]; exact hlt)).2.2.2.1; have := HL.out; omega
        have hpk := HPS.out k (by rw [H1.out]; omega)
        have HS := Lib.hid (show psum g.ar.nxt (k + 1) = psum g.ar.nxt k + L k by simp only [psum]; rw [HL.out])
        generalize hq : psum g.ar.nxt k = q at *
        have HQ := Lib.hid hq
        clear hq hc
        go_wp2_with (go_at_call 60; refine (paOk_s _ _ _ (hP0.below hbx)).mono ?_; rw [k1]; rintro e w2 ⟨rfl, hb2⟩; have hcf := bcell hb2; obtain ⟨hcell2, hfr2⟩ := hcf)
        go_roundw
        case rel => exact ⟨k + 1, by omega, by go_num, by rw [HS.out]; congr 1, hb.trans (hb2.mono hb.size)⟩
        case measure => simp [intOf]; omega
      · go_wp2_with (go_at_call 60; refine (paOk_s _ _ _ (hP0.below hbx)).mono ?_; rw [k1]; rintro e w2 ⟨rfl, hb2⟩; have hcf := bcell hb2; obtain ⟨hcell2, hfr2⟩ := hcf)
        go_ret
        have e : k = n3 := by omega
        subst e
        exact ⟨ret_int (by rw [edges_ok G.out, H2.out]), hbx.trans (hb2.mono hbx.size)⟩
  · have k1 := tf_false hg
    have G := Lib.hid hg
    clear hg
    go_enter Try.func16, Try.ntmps16
    go_wp2_with fail
    refine wp_loop_once ?_
    go_wp2_with (go_at_call 60; refine (paOk_s _ _ _ (hP0.below (by repeat' (first | (with_reducible exact Below.refl _ _) | (with_reducible assumption) | (with_reducible apply below_set) | (with_reducible apply Below.alloc) | (with_reducible apply Below.drew) | (with_reducible apply below_drawn) | (with_reducible refine Below.trans ?_ (Below.mono (by assumption) ?_)) | omega | (simp only [World.size_alloc, World.size_setCell, World.size_drew]; omega))))).mono ?_; rw [k1]; rintro e w2 ⟨rfl, hb2⟩; have hcf := bcell hb2; obtain ⟨hcell2, hfr2⟩ := hcf)
    go_ret
    exact ⟨ret_int (edges_no G.out).symm, (by repeat' (first | (with_reducible exact Below.refl _ _) | (with_reducible assumption) | (with_reducible apply below_set) | (with_reducible apply Below.alloc) | (with_reducible apply Below.drew) | (with_reducible apply below_drawn) | (with_reducible refine Below.trans ?_ (Below.mono (by assumption) ?_)) | omega | (simp only [World.size_alloc, World.size_setCell, World.size_drew]; omega)))⟩
end Go.Proofs.Ytdbojkdfpkgfcaa
