/-
  RepliesIn.
-/
import Derived.Test.YtdbojkdfpkgfcaaHeavy
namespace Go.Proofs.Ytdbojkdfpkgfcaa
set_option linter.unusedVariables false
set_option linter.unusedSimpArgs false
open Go.RowKit

/-- How many choices the vertices of player 1 before k have together. -/
def prodTo (a : Ar) : Nat → Nat
  | 0 => 1
  | k + 1 => if gi a.own k = 1 then prodTo a k * (gr a.nxt k).length else prodTo a k
theorem prodTo_one {a : Ar} {k : Nat} (h : gi a.own k = 1) : prodTo a (k + 1) = prodTo a k * (gr a.nxt k).length := by simp only [prodTo, if_pos h]
theorem prodTo_not {a : Ar} {k : Nat} (h : ¬ gi a.own k = 1) : prodTo a (k + 1) = prodTo a k := by simp only [prodTo, if_neg h]
theorem prodTo_pos {a : Ar} (h : ArOk a) : ∀ k, k ≤ a.own.length → 1 ≤ prodTo a k := by
  intro k
  induction k with
  | zero => intro _; simp [prodTo]
  | succ k ih =>
    intro hk
    have h1 := ih (by omega)
    have h2 := (h.vert k (by omega)).2.2.1
    by_cases e : gi a.own k = 1
    · rw [prodTo_one e]; exact Nat.le_trans (by omega : 1 ≤ 1 * 1) (Nat.mul_le_mul h1 h2)
    · rw [prodTo_not e]; exact h1
theorem prodTo_mono {a : Ar} (h : ArOk a) : ∀ k j, j ≤ k → k ≤ a.own.length → prodTo a j ≤ prodTo a k := by
  intro k
  induction k with
  | zero => intro j hj _; have : j = 0 := by omega
            subst this; exact Nat.le_refl _
  | succ k ih =>
    intro j hj hk
    by_cases e : j = k + 1
    · subst e; exact Nat.le_refl _
    · refine Nat.le_trans (ih j (by omega) (by omega)) ?_
      by_cases e : gi a.own k = 1
      · rw [prodTo_one e]
        have h2 := (h.vert k (by omega)).2.2.1
        exact Nat.le_mul_of_pos_right _ (by omega)
      · rw [prodTo_not e]; exact Nat.le_refl _
/-- The number of full plans of player 1; -1: too many. -/
def repl (a : Ar) : Int := if prodTo a a.own.length ≤ 4096 then (prodTo a a.own.length : Nat) else -1
theorem repl_no {a : Ar} (h : ArOk a) {k : Nat} (hk : k ≤ a.own.length) (hp : 4096 < prodTo a k) : repl a = -1 := by
  have := prodTo_mono h a.own.length k hk (Nat.le_refl _)
  unfold repl
  rw [if_neg (by omega)]
theorem repl_ok {a : Ar} (hp : prodTo a a.own.length ≤ 4096) : repl a = (prodTo a a.own.length : Nat) := by unfold repl; rw [if_pos hp]

set_option maxHeartbeats 1000000 in
theorem repl_i (v : Value) (g : Pa) (w : World) (hP : IsP w v g) (hg : PaOk g) : Calls Try.prog 71 #[v] w (Bi w (repl g.ar)) := by
  obtain ⟨_, _, _, rfl, ⟨s1, n1, c1, rfl, h1⟩, ⟨s2, n2, c2, rfl, h2⟩, ⟨s3, n3, c3, rfl, h3⟩⟩ := hP
  have H1 := Lib.hid h1.1
  have H2 := Lib.hid h2.len
  have hn : n2 = n1 := by have := hg.ar.len; have := H1.out; have := H2.out; omega
  have hle : n1 ≤ 256 := by have := hg.ar.le; have := H1.out; omega
  subst hn
  have G := Lib.hid hg
  clear hg
  go_enter Try.func71, Try.ntmps71
  go_wp2
  go_loop [3, 10] (fun s i => ∃ k : Nat, k ≤ n2 ∧ i = .int .i64 k ∧ s = .int .i64 (prodTo g.ar k) ∧ prodTo g.ar k ≤ 4096) (fun _ i => n2 - (intOf i).toNat)
  case atStart => exact ⟨0, by omega, rfl, rfl, by simp [prodTo]⟩
  case round =>
    obtain ⟨k, hk, rfl, rfl, hp⟩ := hrel
    by_cases hlt : k < n2
    · obtain ⟨b1, o1, rfl, hb1, hc1⟩ := h1.get hlt
      obtain ⟨b2, o2, rfl, hb2, A, L, C, hc2⟩ := h2.get hlt
      have q1 := hc1 k hlt
      obtain ⟨q2, hI⟩ := hc2 k hlt
      have HL := Lib.hid hI.1
      have hlm : L k ≤ 16 := by have := (G.out.ar.vert k (by rw [H1.out]; exact hlt)).2.2.2.1; have := HL.out; omega
      by_cases ho : gi g.ar.own k = 1
      · have hb : (gi g.ar.own k == 1) = true := by simp [ho]
        have HS := Lib.hid (prodTo_one ho)
        clear hc1 hc2 ho
        generalize hq : prodTo g.ar k = q at *
        have HQ := Lib.hid hq
        have hm : (q : Int) * (L k : Int) = ((q * L k : Nat) : Int) := by simp
        have hm2 : q * L k ≤ 4096 * 16 := Nat.mul_le_mul hp hlm
        have hm3 : (0 : Int) ≤ (q : Int) * (L k : Int) := by rw [hm]; omega
        have hm4 : (q : Int) * (L k : Int) ≤ 65536 := by rw [hm]; omega
        have hw : IntKind.i64.wrap ((q : Int) * (L k : Int)) = (q : Int) * (L k : Int) := IntWalk.i64_in _ ⟨by omega, by omega⟩
        have HM := Lib.hid hm
        clear hq hm
        by_cases hbig : 4096 < q * L k
        · have hd : decide ((4096 : Int) < (q : Int) * (L k : Int)) = true := by rw [HM.out]; simp; omega
          go_wp2
          all_goals first
            | (go_ret; exact ⟨ret_int (repl_no G.out.ar (k := k + 1) (by rw [H1.out]; omega) (by rw [HS.out, HL.out]; exact hbig)).symm, below_alloc _ _⟩)
            | (exfalso; have := HM.out; omega)
        · have hd : decide ((4096 : Int) < (q : Int) * (L k : Int)) = false := by rw [HM.out]; simp; omega
          go_wp2
          all_goals first
            | (exfalso; have := HM.out; omega)
            | (go_round
               case rel => exact ⟨k + 1, by omega, by go_num, by rw [HS.out, HL.out, HM.out], by rw [HS.out, HL.out]; omega⟩
               case measure => simp [intOf]; omega)
      · have hb : (gi g.ar.own k == 1) = false := by simp [ho]
        have HS := Lib.hid (prodTo_not ho)
        clear hc1 hc2 ho
        go_wp2
        go_round
        case rel => exact ⟨k + 1, by omega, by go_num, by rw [HS.out], by rw [HS.out]; exact hp⟩
        case measure => simp [intOf]; omega
    · go_wp2
      go_ret
      have e : k = n2 := by omega
      subst e
      exact ⟨ret_int (by rw [repl_ok (by rw [H1.out]; exact hp), H1.out]), below_alloc _ _⟩

set_option maxHeartbeats 1000000 in
theorem repl_s (v : Value) (g : Pa) (w : World) (hP : IsP w v g) (hg : PaOk g) : Calls Try.prog 70 #[v] w (Bi w (repl g.ar)) := by
  obtain ⟨_, _, _, rfl, ⟨s1, n1, c1, rfl, h1⟩, ⟨s2, n2, c2, rfl, h2⟩, ⟨s3, n3, c3, rfl, h3⟩⟩ := hP
  have H1 := Lib.hid h1.1
  have H2 := Lib.hid h2.len
  have H3 := Lib.hid h3.1
  have hn : n2 = n1 := by have := hg.ar.len; have := H1.out; have := H2.out; omega
  have hn3 : n3 = n1 := by have := hg.len; have := H1.out; have := H3.out; omega
  have hle : n1 ≤ 256 := by have := hg.ar.le; have := H1.out; omega
  subst hn hn3
  have G := Lib.hid hg
  clear hg
  go_enter Try.func70, Try.ntmps70
  go_wp2
  go_loop [3, 4] (fun s i => ∃ k : Nat, k ≤ n3 ∧ i = .int .i64 k ∧ s = .int .i64 (prodTo g.ar k) ∧ prodTo g.ar k ≤ 4096) (fun _ i => n3 - (intOf i).toNat)
  case atStart => exact ⟨0, by omega, rfl, rfl, by simp [prodTo]⟩
  case round =>
    obtain ⟨k, hk, rfl, rfl, hp⟩ := hrel
    by_cases hlt : k < n3
    · obtain ⟨b1, o1, rfl, hb1, hc1⟩ := h1.get hlt
      obtain ⟨b2, o2, rfl, hb2, A, L, C, hc2⟩ := h2.get hlt
      have q1 := hc1 k hlt
      obtain ⟨q2, hI⟩ := hc2 k hlt
      have HL := Lib.hid hI.1
      have hlm : L k ≤ 16 := by have := (G.out.ar.vert k (by rw [H1.out]; exact hlt)).2.2.2.1; have := HL.out; omega
      by_cases ho : gi g.ar.own k = 1
      · have hb : (gi g.ar.own k == 1) = true := by simp [ho]
        have HS := Lib.hid (prodTo_one ho)
        clear hc1 hc2 ho
        generalize hq : prodTo g.ar k = q at *
        have HQ := Lib.hid hq
        have hm : (q : Int) * (L k : Int) = ((q * L k : Nat) : Int) := by simp
        have hm2 : q * L k ≤ 4096 * 16 := Nat.mul_le_mul hp hlm
        have hm3 : (0 : Int) ≤ (q : Int) * (L k : Int) := by rw [hm]; omega
        have hm4 : (q : Int) * (L k : Int) ≤ 65536 := by rw [hm]; omega
        have hw : IntKind.i64.wrap ((q : Int) * (L k : Int)) = (q : Int) * (L k : Int) := IntWalk.i64_in _ ⟨by omega, by omega⟩
        have HM := Lib.hid hm
        clear hq hm
        by_cases hbig : 4096 < q * L k
        · have hd : decide ((4096 : Int) < (q : Int) * (L k : Int)) = true := by rw [HM.out]; simp; omega
          go_wp2
          all_goals first
            | (go_ret; exact ⟨ret_int (repl_no G.out.ar (k := k + 1) (by rw [H1.out]; omega) (by rw [HS.out, HL.out]; exact hbig)).symm, below_alloc _ _⟩)
            | (exfalso; have := HM.out; omega)
        · have hd : decide ((4096 : Int) < (q : Int) * (L k : Int)) = false := by rw [HM.out]; simp; omega
          go_wp2
          all_goals first
            | (exfalso; have := HM.out; omega)
            | (go_round
               case rel => exact ⟨k + 1, by omega, by go_num, by rw [HS.out, HL.out, HM.out], by rw [HS.out, HL.out]; omega⟩
               case measure => simp [intOf]; omega)
      · have hb : (gi g.ar.own k == 1) = false := by simp [ho]
        have HS := Lib.hid (prodTo_not ho)
        have hd : decide ((4096 : Int) < (prodTo g.ar k : Int)) = false := by simp; omega
        clear hc1 hc2 ho
        go_wp2
        all_goals first
          | (exfalso; omega)
          | (go_round
             case rel => exact ⟨k + 1, by omega, by go_num, by rw [HS.out], by rw [HS.out]; exact hp⟩
             case measure => simp [intOf]; omega)
    · go_wp2
      go_ret
      have e : k = n3 := by omega
      subst e
      exact ⟨ret_int (by rw [repl_ok (by rw [H1.out]; exact hp), H1.out]), below_alloc _ _⟩

noncomputable def replies (g : Pa) : Int := @ite Int (Small g) (Classical.propDecidable _) (repl g.ar) (-1)
theorem replies_ok {g : Pa} (h : Small g) : replies g = repl g.ar := by unfold replies; rw [if_pos h]
theorem replies_no {g : Pa} (h : ¬ Small g) : replies g = -1 := by unfold replies; rw [if_neg h]

theorem replies_i (v : Value) (g : Pa) (w : World) (hP : IsP w v g) : Calls Try.prog 23 #[v] w (Bi w (replies g)) := by
  have hP0 := hP
  obtain ⟨_, _, _, rfl, ⟨s1, n1, c1, rfl, h1⟩, ⟨s2, n2, c2, rfl, h2⟩, ⟨s3, n3, c3, rfl, h3⟩⟩ := hP
  by_cases hg : Small g
  · have k1 := Lib.hid (tf_true hg)
    rw [replies_ok hg]
    have G := Lib.hid hg
    clear hg
    go_enter Try.func23, Try.ntmps23
    go_wp2_with (first
      | (go_at_call 67; refine (small_i _ _ _ (hP0.below (by repeat' (first | (with_reducible exact Below.refl _ _) | (with_reducible assumption) | (with_reducible apply below_set) | (with_reducible apply Below.alloc) | (with_reducible apply Below.drew) | (with_reducible apply below_drawn) | (with_reducible refine Below.trans ?_ (Below.mono (by assumption) ?_)) | omega | (simp only [World.size_alloc, World.size_setCell, World.size_drew]; omega))))).mono ?_; rw [k1.out]; rintro e w2 ⟨rfl, hb2⟩; have hcf2 := bcell hb2; obtain ⟨hcell2, hfr2⟩ := hcf2; have hz2 := hb2.size; (try simp only [World.size_alloc, World.size_setCell, World.size_drew] at hz2); have hz2a : w.heap.size < w2.heap.size := (by omega))
      | (go_at_call 71; refine (repl_i _ _ _ (hP0.below (by repeat' (first | (with_reducible exact Below.refl _ _) | (with_reducible assumption) | (with_reducible apply below_set) | (with_reducible apply Below.alloc) | (with_reducible apply Below.drew) | (with_reducible apply below_drawn) | (with_reducible refine Below.trans ?_ (Below.mono (by assumption) ?_)) | omega | (simp only [World.size_alloc, World.size_setCell, World.size_drew]; omega)))) G.out.1).mono ?_; rintro e w3 ⟨rfl, hb3⟩; have hcf3 := bcell hb3; obtain ⟨hcell3, hfr3⟩ := hcf3; have hz3 := hb3.size; (try simp only [World.size_alloc, World.size_setCell, World.size_drew] at hz3); have hz3a : w.heap.size < w3.heap.size := (by omega)))
    go_ret
    exact ⟨rfl, (by repeat' (first | (with_reducible exact Below.refl _ _) | (with_reducible assumption) | (with_reducible apply below_set) | (with_reducible apply Below.alloc) | (with_reducible apply Below.drew) | (with_reducible apply below_drawn) | (with_reducible refine Below.trans ?_ (Below.mono (by assumption) ?_)) | omega | (simp only [World.size_alloc, World.size_setCell, World.size_drew]; omega)))⟩
  · have k1 := Lib.hid (tf_false hg)
    rw [replies_no hg]
    clear hg
    go_enter Try.func23, Try.ntmps23
    go_wp2_with (go_at_call 67; refine (small_i _ _ _ (hP0.below (by repeat' (first | (with_reducible exact Below.refl _ _) | (with_reducible assumption) | (with_reducible apply below_set) | (with_reducible apply Below.alloc) | (with_reducible apply Below.drew) | (with_reducible apply below_drawn) | (with_reducible refine Below.trans ?_ (Below.mono (by assumption) ?_)) | omega | (simp only [World.size_alloc, World.size_setCell, World.size_drew]; omega))))).mono ?_; rw [k1.out]; rintro e w2 ⟨rfl, hb2⟩; have hcf2 := bcell hb2; obtain ⟨hcell2, hfr2⟩ := hcf2; have hz2 := hb2.size; (try simp only [World.size_alloc, World.size_setCell, World.size_drew] at hz2); have hz2a : w.heap.size < w2.heap.size := (by omega))
    go_ret
    exact ⟨rfl, (by repeat' (first | (with_reducible exact Below.refl _ _) | (with_reducible assumption) | (with_reducible apply below_set) | (with_reducible apply Below.alloc) | (with_reducible apply Below.drew) | (with_reducible apply below_drawn) | (with_reducible refine Below.trans ?_ (Below.mono (by assumption) ?_)) | omega | (simp only [World.size_alloc, World.size_setCell, World.size_drew]; omega)))⟩

theorem replies_s (v : Value) (g : Pa) (w : World) (hP : IsP w v g) : Calls Try.prog 22 #[v] w (Bi w (replies g)) := by
  have hP0 := hP
  obtain ⟨_, _, _, rfl, ⟨s1, n1, c1, rfl, h1⟩, ⟨s2, n2, c2, rfl, h2⟩, ⟨s3, n3, c3, rfl, h3⟩⟩ := hP
  by_cases hg : Small g
  · have k1 := Lib.hid (tf_true hg)
    rw [replies_ok hg]
    have G := Lib.hid hg
    clear hg
    go_enter Try.func22, Try.ntmps22
    go_wp2_with (first
      | (go_at_call 64; refine (small_s _ _ _ (hP0.below (by repeat' (first | (with_reducible exact Below.refl _ _) | (with_reducible assumption) | (with_reducible apply below_set) | (with_reducible apply Below.alloc) | (with_reducible apply Below.drew) | (with_reducible apply below_drawn) | (with_reducible refine Below.trans ?_ (Below.mono (by assumption) ?_)) | omega | (simp only [World.size_alloc, World.size_setCell, World.size_drew]; omega))))).mono ?_; rw [k1.out]; rintro e w2 ⟨rfl, hb2⟩; have hcf2 := bcell hb2; obtain ⟨hcell2, hfr2⟩ := hcf2; have hz2 := hb2.size; (try simp only [World.size_alloc, World.size_setCell, World.size_drew] at hz2); have hz2a : w.heap.size < w2.heap.size := (by omega))
      | (go_at_call 70; refine (repl_s _ _ _ (hP0.below (by repeat' (first | (with_reducible exact Below.refl _ _) | (with_reducible assumption) | (with_reducible apply below_set) | (with_reducible apply Below.alloc) | (with_reducible apply Below.drew) | (with_reducible apply below_drawn) | (with_reducible refine Below.trans ?_ (Below.mono (by assumption) ?_)) | omega | (simp only [World.size_alloc, World.size_setCell, World.size_drew]; omega)))) G.out.1).mono ?_; rintro e w3 ⟨rfl, hb3⟩; have hcf3 := bcell hb3; obtain ⟨hcell3, hfr3⟩ := hcf3; have hz3 := hb3.size; (try simp only [World.size_alloc, World.size_setCell, World.size_drew] at hz3); have hz3a : w.heap.size < w3.heap.size := (by omega)))
    go_ret
    exact ⟨rfl, (by repeat' (first | (with_reducible exact Below.refl _ _) | (with_reducible assumption) | (with_reducible apply below_set) | (with_reducible apply Below.alloc) | (with_reducible apply Below.drew) | (with_reducible apply below_drawn) | (with_reducible refine Below.trans ?_ (Below.mono (by assumption) ?_)) | omega | (simp only [World.size_alloc, World.size_setCell, World.size_drew]; omega)))⟩
  · have k1 := Lib.hid (tf_false hg)
    rw [replies_no hg]
    clear hg
    go_enter Try.func22, Try.ntmps22
    go_wp2_with (go_at_call 64; refine (small_s _ _ _ (hP0.below (by repeat' (first | (with_reducible exact Below.refl _ _) | (with_reducible assumption) | (with_reducible apply below_set) | (with_reducible apply Below.alloc) | (with_reducible apply Below.drew) | (with_reducible apply below_drawn) | (with_reducible refine Below.trans ?_ (Below.mono (by assumption) ?_)) | omega | (simp only [World.size_alloc, World.size_setCell, World.size_drew]; omega))))).mono ?_; rw [k1.out]; rintro e w2 ⟨rfl, hb2⟩; have hcf2 := bcell hb2; obtain ⟨hcell2, hfr2⟩ := hcf2; have hz2 := hb2.size; (try simp only [World.size_alloc, World.size_setCell, World.size_drew] at hz2); have hz2a : w.heap.size < w2.heap.size := (by omega))
    go_ret
    exact ⟨rfl, (by repeat' (first | (with_reducible exact Below.refl _ _) | (with_reducible assumption) | (with_reducible apply below_set) | (with_reducible apply Below.alloc) | (with_reducible apply Below.drew) | (with_reducible apply below_drawn) | (with_reducible refine Below.trans ?_ (Below.mono (by assumption) ?_)) | omega | (simp only [World.size_alloc, World.size_setCell, World.size_drew]; omega)))⟩
end Go.Proofs.Ytdbojkdfpkgfcaa
