/-
  Small games; heavier vertices; the number of replies.
-/
import Derived.Test.YtdbojkdfpkgfcaaEdges
namespace Go.Proofs.Ytdbojkdfpkgfcaa
set_option linter.unusedVariables false
set_option linter.unusedSimpArgs false
open Go.RowKit

def Small (g : Pa) : Prop := PaOk g ∧ g.prio.length ≤ 12
def Heavy (g : Pa) (x y : Nat) : Prop := gi g.prio y < gi g.prio x ∨ (gi g.prio x = gi g.prio y ∧ y < x)

theorem small_i (v : Value) (g : Pa) (w : World) (hP : IsP w v g) : Calls Try.prog 67 #[v] w (Bb w (tf (Small g))) := by
  have hP0 := hP
  obtain ⟨_, _, _, rfl, ⟨s1, n1, c1, rfl, h1⟩, ⟨s2, n2, c2, rfl, h2⟩, ⟨s3, n3, c3, rfl, h3⟩⟩ := hP
  have H3 := Lib.hid h3.1
  by_cases hg : PaOk g
  · have k1 := Lib.hid (tf_true hg)
    have G := Lib.hid hg
    clear hg
    by_cases hn : n3 ≤ 12
    · go_enter Try.func67, Try.ntmps67
      go_wp2_with (go_at_call 62; refine (paOk_i _ _ _ (hP0.below (by repeat' (first | (with_reducible exact Below.refl _ _) | (with_reducible assumption) | (with_reducible apply below_set) | (with_reducible apply Below.alloc) | (with_reducible apply Below.drew) | (with_reducible apply below_drawn) | (with_reducible refine Below.trans ?_ (Below.mono (by assumption) ?_)) | omega | (simp only [World.size_alloc, World.size_setCell, World.size_drew]; omega))))).mono ?_; rw [k1.out]; rintro e w2 ⟨rfl, hb2⟩; have hcf2 := bcell hb2; obtain ⟨hcell2, hfr2⟩ := hcf2; have hz2 := hb2.size; (try simp only [World.size_alloc, World.size_setCell, World.size_drew] at hz2); have hz2a : w.heap.size < w2.heap.size := (by omega))
      go_ret
      exact ⟨ret_bool (by rw [tf_true (p := Small g) ⟨G.out, by rw [H3.out]; exact hn⟩]; try (simp; omega)), (by repeat' (first | (with_reducible exact Below.refl _ _) | (with_reducible assumption) | (with_reducible apply below_set) | (with_reducible apply Below.alloc) | (with_reducible apply Below.drew) | (with_reducible apply below_drawn) | (with_reducible refine Below.trans ?_ (Below.mono (by assumption) ?_)) | omega | (simp only [World.size_alloc, World.size_setCell, World.size_drew]; omega)))⟩
    · go_enter Try.func67, Try.ntmps67
      go_wp2_with (go_at_call 62; refine (paOk_i _ _ _ (hP0.below (by repeat' (first | (with_reducible exact Below.refl _ _) | (with_reducible assumption) | (with_reducible apply below_set) | (with_reducible apply Below.alloc) | (with_reducible apply Below.drew) | (with_reducible apply below_drawn) | (with_reducible refine Below.trans ?_ (Below.mono (by assumption) ?_)) | omega | (simp only [World.size_alloc, World.size_setCell, World.size_drew]; omega))))).mono ?_; rw [k1.out]; rintro e w2 ⟨rfl, hb2⟩; have hcf2 := bcell hb2; obtain ⟨hcell2, hfr2⟩ := hcf2; have hz2 := hb2.size; (try simp only [World.size_alloc, World.size_setCell, World.size_drew] at hz2); have hz2a : w.heap.size < w2.heap.size := (by omega))
      go_ret
      exact ⟨ret_bool (by rw [tf_false (p := Small g) (fun h => by have := h.2; rw [H3.out] at this; omega)]; try (simp; omega)), (by repeat' (first | (with_reducible exact Below.refl _ _) | (with_reducible assumption) | (with_reducible apply below_set) | (with_reducible apply Below.alloc) | (with_reducible apply Below.drew) | (with_reducible apply below_drawn) | (with_reducible refine Below.trans ?_ (Below.mono (by assumption) ?_)) | omega | (simp only [World.size_alloc, World.size_setCell, World.size_drew]; omega)))⟩
  · have k1 := Lib.hid (tf_false hg)
    have G := Lib.hid hg
    clear hg
    go_enter Try.func67, Try.ntmps67
    go_wp2_with (go_at_call 62; refine (paOk_i _ _ _ (hP0.below (by repeat' (first | (with_reducible exact Below.refl _ _) | (with_reducible assumption) | (with_reducible apply below_set) | (with_reducible apply Below.alloc) | (with_reducible apply Below.drew) | (with_reducible apply below_drawn) | (with_reducible refine Below.trans ?_ (Below.mono (by assumption) ?_)) | omega | (simp only [World.size_alloc, World.size_setCell, World.size_drew]; omega))))).mono ?_; rw [k1.out]; rintro e w2 ⟨rfl, hb2⟩; have hcf2 := bcell hb2; obtain ⟨hcell2, hfr2⟩ := hcf2; have hz2 := hb2.size; (try simp only [World.size_alloc, World.size_setCell, World.size_drew] at hz2); have hz2a : w.heap.size < w2.heap.size := (by omega))
    go_ret
    exact ⟨ret_bool (tf_false (fun h => G.out h.1)).symm, (by repeat' (first | (with_reducible exact Below.refl _ _) | (with_reducible assumption) | (with_reducible apply below_set) | (with_reducible apply Below.alloc) | (with_reducible apply Below.drew) | (with_reducible apply below_drawn) | (with_reducible refine Below.trans ?_ (Below.mono (by assumption) ?_)) | omega | (simp only [World.size_alloc, World.size_setCell, World.size_drew]; omega)))⟩

theorem small_s (v : Value) (g : Pa) (w : World) (hP : IsP w v g) : Calls Try.prog 64 #[v] w (Bb w (tf (Small g))) := by
  have hP0 := hP
  obtain ⟨_, _, _, rfl, ⟨s1, n1, c1, rfl, h1⟩, ⟨s2, n2, c2, rfl, h2⟩, ⟨s3, n3, c3, rfl, h3⟩⟩ := hP
  have H3 := Lib.hid h3.1
  by_cases hn : n3 ≤ 12
  · by_cases hg : PaOk g
    · have k1 := Lib.hid (tf_true hg)
      have G := Lib.hid hg
      clear hg
      go_enter Try.func64, Try.ntmps64
      go_wp2_with (go_at_call 60; refine (paOk_s _ _ _ (hP0.below (by repeat' (first | (with_reducible exact Below.refl _ _) | (with_reducible assumption) | (with_reducible apply below_set) | (with_reducible apply Below.alloc) | (with_reducible apply Below.drew) | (with_reducible apply below_drawn) | (with_reducible refine Below.trans ?_ (Below.mono (by assumption) ?_)) | omega | (simp only [World.size_alloc, World.size_setCell, World.size_drew]; omega))))).mono ?_; rw [k1.out]; rintro e w2 ⟨rfl, hb2⟩; have hcf2 := bcell hb2; obtain ⟨hcell2, hfr2⟩ := hcf2; have hz2 := hb2.size; (try simp only [World.size_alloc, World.size_setCell, World.size_drew] at hz2); have hz2a : w.heap.size < w2.heap.size := (by omega))
      go_ret
      exact ⟨ret_bool (by rw [tf_true (p := Small g) ⟨G.out, by rw [H3.out]; exact hn⟩]; try (simp; omega)), (by repeat' (first | (with_reducible exact Below.refl _ _) | (with_reducible assumption) | (with_reducible apply below_set) | (with_reducible apply Below.alloc) | (with_reducible apply Below.drew) | (with_reducible apply below_drawn) | (with_reducible refine Below.trans ?_ (Below.mono (by assumption) ?_)) | omega | (simp only [World.size_alloc, World.size_setCell, World.size_drew]; omega)))⟩
    · have k1 := Lib.hid (tf_false hg)
      have G := Lib.hid hg
      clear hg
      go_enter Try.func64, Try.ntmps64
      go_wp2_with (go_at_call 60; refine (paOk_s _ _ _ (hP0.below (by repeat' (first | (with_reducible exact Below.refl _ _) | (with_reducible assumption) | (with_reducible apply below_set) | (with_reducible apply Below.alloc) | (with_reducible apply Below.drew) | (with_reducible apply below_drawn) | (with_reducible refine Below.trans ?_ (Below.mono (by assumption) ?_)) | omega | (simp only [World.size_alloc, World.size_setCell, World.size_drew]; omega))))).mono ?_; rw [k1.out]; rintro e w2 ⟨rfl, hb2⟩; have hcf2 := bcell hb2; obtain ⟨hcell2, hfr2⟩ := hcf2; have hz2 := hb2.size; (try simp only [World.size_alloc, World.size_setCell, World.size_drew] at hz2); have hz2a : w.heap.size < w2.heap.size := (by omega))
      go_ret
      exact ⟨ret_bool (tf_false (fun h => G.out h.1)).symm, (by repeat' (first | (with_reducible exact Below.refl _ _) | (with_reducible assumption) | (with_reducible apply below_set) | (with_reducible apply Below.alloc) | (with_reducible apply Below.drew) | (with_reducible apply below_drawn) | (with_reducible refine Below.trans ?_ (Below.mono (by assumption) ?_)) | omega | (simp only [World.size_alloc, World.size_setCell, World.size_drew]; omega)))⟩
  · go_enter Try.func64, Try.ntmps64
    go_wp2_with fail
    go_ret
    exact ⟨ret_bool (by rw [tf_false (p := Small g) (fun h => by have := h.2; rw [H3.out] at this; omega)]; try (simp; omega)), (by repeat' (first | (with_reducible exact Below.refl _ _) | (with_reducible assumption) | (with_reducible apply below_set) | (with_reducible apply Below.alloc) | (with_reducible apply Below.drew) | (with_reducible apply below_drawn) | (with_reducible refine Below.trans ?_ (Below.mono (by assumption) ?_)) | omega | (simp only [World.size_alloc, World.size_setCell, World.size_drew]; omega)))⟩

def Vert (n : Nat) (x : Int) : Prop := 0 ≤ x ∧ x < n

theorem hasV_i (v : Value) (a : Ar) (x : Int) (w : World) (hA : IsA w v a) : Calls Try.prog 68 #[v, .int .i64 x] w (Bb w (tf (Vert a.own.length x))) := by
  obtain ⟨_, _, rfl, ⟨s1, n1, c1, rfl, h1⟩, ⟨s2, n2, c2, rfl, h2⟩⟩ := hA
  have H1 := Lib.hid h1.1
  have hm := h1.max
  by_cases h0 : 0 ≤ x
  · by_cases hn : x < n1
    · go_enter Try.func68, Try.ntmps68
      go_wp2
      go_ret
      exact ⟨ret_bool (by rw [tf_true (p := Vert a.own.length x) ⟨h0, by rw [H1.out]; exact hn⟩]; try (simp; omega)), (by repeat' (first | (with_reducible exact Below.refl _ _) | (with_reducible assumption) | (with_reducible apply below_set) | (with_reducible apply Below.alloc) | (with_reducible apply Below.drew) | (with_reducible apply below_drawn) | (with_reducible refine Below.trans ?_ (Below.mono (by assumption) ?_)) | omega | (simp only [World.size_alloc, World.size_setCell, World.size_drew]; omega)))⟩
    · go_enter Try.func68, Try.ntmps68
      go_wp2
      go_ret
      exact ⟨ret_bool (by rw [tf_false (p := Vert a.own.length x) (fun h => by have := h.2; rw [H1.out] at this; omega)]; try (simp; omega)), (by repeat' (first | (with_reducible exact Below.refl _ _) | (with_reducible assumption) | (with_reducible apply below_set) | (with_reducible apply Below.alloc) | (with_reducible apply Below.drew) | (with_reducible apply below_drawn) | (with_reducible refine Below.trans ?_ (Below.mono (by assumption) ?_)) | omega | (simp only [World.size_alloc, World.size_setCell, World.size_drew]; omega)))⟩
  · go_enter Try.func68, Try.ntmps68
    go_wp2
    go_ret
    exact ⟨ret_bool (tf_false (fun h => by have := h.1; omega)).symm, (by repeat' (first | (with_reducible exact Below.refl _ _) | (with_reducible assumption) | (with_reducible apply below_set) | (with_reducible apply Below.alloc) | (with_reducible apply Below.drew) | (with_reducible apply below_drawn) | (with_reducible refine Below.trans ?_ (Below.mono (by assumption) ?_)) | omega | (simp only [World.size_alloc, World.size_setCell, World.size_drew]; omega)))⟩

theorem vert_s (v : Value) (g : Pa) (x : Int) (w : World) (hP : IsP w v g) : Calls Try.prog 65 #[v, .int .i64 x] w (Bb w (tf (Vert g.prio.length x))) := by
  obtain ⟨_, _, _, rfl, ⟨s1, n1, c1, rfl, h1⟩, ⟨s2, n2, c2, rfl, h2⟩, ⟨s3, n3, c3, rfl, h3⟩⟩ := hP
  have H3 := Lib.hid h3.1
  have hm := h3.max
  have e : tf (Vert g.prio.length x) = tf (0 ≤ x ∧ x ≤ (n3 : Int) - 1) := tf_congr ⟨fun h => ⟨h.1, by have := h.2; rw [H3.out] at this; omega⟩, fun h => ⟨h.1, by rw [H3.out]; omega⟩⟩
  rw [e]
  clear e
  have k1 := Lib.hid (show ∀ w, _ from l1In_any x 0 ((n3 : Int) - 1))
  go_enter Try.func65, Try.ntmps65
  go_wp2_with (go_at_call 73; refine (k1.out _).mono ?_; rintro e w2 ⟨rfl, rfl⟩)
  go_ret
  exact ⟨rfl, (by repeat' (first | (with_reducible exact Below.refl _ _) | (with_reducible assumption) | (with_reducible apply below_set) | (with_reducible apply Below.alloc) | (with_reducible apply Below.drew) | (with_reducible apply below_drawn) | (with_reducible refine Below.trans ?_ (Below.mono (by assumption) ?_)) | omega | (simp only [World.size_alloc, World.size_setCell, World.size_drew]; omega)))⟩

set_option maxHeartbeats 1000000 in
theorem heavy_i (v : Value) (g : Pa) (x y : Int) (w : World) (hP : IsP w v g) (hx0 : 0 ≤ x) (hx : x < g.prio.length) (hy0 : 0 ≤ y) (hy : y < g.prio.length) :
    Calls Try.prog 69 #[v, .int .i64 x, .int .i64 y] w (Bb w (tf (Heavy g x.toNat y.toNat))) := by
  obtain ⟨_, _, _, rfl, ⟨s1, n1, c1, rfl, h1⟩, ⟨s2, n2, c2, rfl, h2⟩, ⟨s3, n3, c3, rfl, h3⟩⟩ := hP
  obtain ⟨x, rfl⟩ := Int.eq_ofNat_of_zero_le hx0
  obtain ⟨y, rfl⟩ := Int.eq_ofNat_of_zero_le hy0
  rw [Int.toNat_natCast, Int.toNat_natCast]
  rw [h3.1] at hx hy
  have hm := h3.max
  have hxn : x < n3 := by omega
  have hyn : y < n3 := by omega
  obtain ⟨b, o, rfl, hbl, hc⟩ := h3.get hxn
  have q1 := hc x hxn
  have q2 := hc y hyn
  clear hc
  by_cases c1 : gi g.prio y < gi g.prio x
  · have d1 : decide (gi g.prio y < gi g.prio x) = true := by simp; omega
    rw [tf_true (show Heavy g x y from Or.inl c1)]
    clear c1
    go_enter Try.func69, Try.ntmps69
    go_wp2
    go_quiet (fail)
    go_wp2
    go_ret
    exact ⟨rfl, (by repeat' (first | (with_reducible exact Below.refl _ _) | (with_reducible assumption) | (with_reducible apply below_set) | (with_reducible apply Below.alloc) | (with_reducible apply Below.drew) | (with_reducible apply below_drawn) | (with_reducible refine Below.trans ?_ (Below.mono (by assumption) ?_)) | omega | (simp only [World.size_alloc, World.size_setCell, World.size_drew]; omega)))⟩
  · have d1 : decide (gi g.prio y < gi g.prio x) = false := by simp; omega
    by_cases c2 : gi g.prio x = gi g.prio y
    · have d2 : (gi g.prio x == gi g.prio y) = true := by simp [c2]
      by_cases c3 : y < x
      · rw [tf_true (show Heavy g x y from Or.inr ⟨c2, c3⟩)]
        have d3 : decide ((y : Int) < (x : Int)) = true := by simp; omega
        clear c1 c2
        go_enter Try.func69, Try.ntmps69
        go_wp2
        go_quiet (fail)
        go_wp2
        go_ret
        exact ⟨rfl, (by repeat' (first | (with_reducible exact Below.refl _ _) | (with_reducible assumption) | (with_reducible apply below_set) | (with_reducible apply Below.alloc) | (with_reducible apply Below.drew) | (with_reducible apply below_drawn) | (with_reducible refine Below.trans ?_ (Below.mono (by assumption) ?_)) | omega | (simp only [World.size_alloc, World.size_setCell, World.size_drew]; omega)))⟩
      · rw [tf_false (show ¬ Heavy g x y from fun h => h.elim c1 (fun h => c3 h.2))]
        have d3 : decide ((y : Int) < (x : Int)) = false := by simp; omega
        clear c1 c2
        go_enter Try.func69, Try.ntmps69
        go_wp2
        go_quiet (fail)
        go_wp2
        go_ret
        exact ⟨rfl, (by repeat' (first | (with_reducible exact Below.refl _ _) | (with_reducible assumption) | (with_reducible apply below_set) | (with_reducible apply Below.alloc) | (with_reducible apply Below.drew) | (with_reducible apply below_drawn) | (with_reducible refine Below.trans ?_ (Below.mono (by assumption) ?_)) | omega | (simp only [World.size_alloc, World.size_setCell, World.size_drew]; omega)))⟩
    · have d2 : (gi g.prio x == gi g.prio y) = false := by simp [c2]
      rw [tf_false (show ¬ Heavy g x y from fun h => h.elim c1 (fun h => c2 h.1))]
      clear c1 c2
      go_enter Try.func69, Try.ntmps69
      go_wp2
      go_quiet (fail)
      go_wp2
      go_ret
      exact ⟨rfl, (by repeat' (first | (with_reducible exact Below.refl _ _) | (with_reducible assumption) | (with_reducible apply below_set) | (with_reducible apply Below.alloc) | (with_reducible apply Below.drew) | (with_reducible apply below_drawn) | (with_reducible refine Below.trans ?_ (Below.mono (by assumption) ?_)) | omega | (simp only [World.size_alloc, World.size_setCell, World.size_drew]; omega)))⟩

set_option maxHeartbeats 1000000 in
theorem heavy_s (v : Value) (g : Pa) (x y : Int) (w : World) (hP : IsP w v g) (hx0 : 0 ≤ x) (hx : x < g.prio.length) (hy0 : 0 ≤ y) (hy : y < g.prio.length) :
    Calls Try.prog 66 #[v, .int .i64 x, .int .i64 y] w (Bb w (tf (Heavy g x.toNat y.toNat))) := by
  obtain ⟨_, _, _, rfl, ⟨s1, n1, c1, rfl, h1⟩, ⟨s2, n2, c2, rfl, h2⟩, ⟨s3, n3, c3, rfl, h3⟩⟩ := hP
  obtain ⟨x, rfl⟩ := Int.eq_ofNat_of_zero_le hx0
  obtain ⟨y, rfl⟩ := Int.eq_ofNat_of_zero_le hy0
  rw [Int.toNat_natCast, Int.toNat_natCast]
  rw [h3.1] at hx hy
  have hm := h3.max
  have hxn : x < n3 := by omega
  have hyn : y < n3 := by omega
  obtain ⟨b, o, rfl, hbl, hc⟩ := h3.get hxn
  have q1 := hc x hxn
  have q2 := hc y hyn
  clear hc
  by_cases c1 : gi g.prio y < gi g.prio x
  · have d1 : decide (gi g.prio y < gi g.prio x) = true := by simp; omega
    rw [tf_true (show Heavy g x y from Or.inl c1)]
    clear c1
    go_enter Try.func66, Try.ntmps66
    go_wp2
    go_quiet (fail)
    go_wp2
    go_ret
    exact ⟨rfl, (by repeat' (first | (with_reducible exact Below.refl _ _) | (with_reducible assumption) | (with_reducible apply below_set) | (with_reducible apply Below.alloc) | (with_reducible apply Below.drew) | (with_reducible apply below_drawn) | (with_reducible refine Below.trans ?_ (Below.mono (by assumption) ?_)) | omega | (simp only [World.size_alloc, World.size_setCell, World.size_drew]; omega)))⟩
  · have d1 : decide (gi g.prio y < gi g.prio x) = false := by simp; omega
    by_cases c2 : gi g.prio x = gi g.prio y
    · have d2 : (gi g.prio x == gi g.prio y) = true := by simp [c2]
      by_cases c3 : y < x
      · rw [tf_true (show Heavy g x y from Or.inr ⟨c2, c3⟩)]
        have d3 : decide ((y : Int) < (x : Int)) = true := by simp; omega
        clear c1 c2
        go_enter Try.func66, Try.ntmps66
        go_wp2
        go_quiet (fail)
        go_wp2
        go_ret
        exact ⟨rfl, (by repeat' (first | (with_reducible exact Below.refl _ _) | (with_reducible assumption) | (with_reducible apply below_set) | (with_reducible apply Below.alloc) | (with_reducible apply Below.drew) | (with_reducible apply below_drawn) | (with_reducible refine Below.trans ?_ (Below.mono (by assumption) ?_)) | omega | (simp only [World.size_alloc, World.size_setCell, World.size_drew]; omega)))⟩
      · rw [tf_false (show ¬ Heavy g x y from fun h => h.elim c1 (fun h => c3 h.2))]
        have d3 : decide ((y : Int) < (x : Int)) = false := by simp; omega
        clear c1 c2
        go_enter Try.func66, Try.ntmps66
        go_wp2
        go_quiet (fail)
        go_wp2
        go_ret
        exact ⟨rfl, (by repeat' (first | (with_reducible exact Below.refl _ _) | (with_reducible assumption) | (with_reducible apply below_set) | (with_reducible apply Below.alloc) | (with_reducible apply Below.drew) | (with_reducible apply below_drawn) | (with_reducible refine Below.trans ?_ (Below.mono (by assumption) ?_)) | omega | (simp only [World.size_alloc, World.size_setCell, World.size_drew]; omega)))⟩
    · have d2 : (gi g.prio x == gi g.prio y) = false := by simp [c2]
      rw [tf_false (show ¬ Heavy g x y from fun h => h.elim c1 (fun h => c2 h.1))]
      clear c1 c2
      go_enter Try.func66, Try.ntmps66
      go_wp2
      go_quiet (fail)
      go_wp2
      go_ret
      exact ⟨rfl, (by repeat' (first | (with_reducible exact Below.refl _ _) | (with_reducible assumption) | (with_reducible apply below_set) | (with_reducible apply Below.alloc) | (with_reducible apply Below.drew) | (with_reducible apply below_drawn) | (with_reducible refine Below.trans ?_ (Below.mono (by assumption) ?_)) | omega | (simp only [World.size_alloc, World.size_setCell, World.size_drew]; omega)))⟩
end Go.Proofs.Ytdbojkdfpkgfcaa
