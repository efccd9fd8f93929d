/-
  Valid games; sizes.
-/
import Derived.Test.YthdioaeekhkgcaaOk2
import Derived.Test.YthdioaeekhkgcaaOk3
namespace Go.Proofs.Ythdioaeekhkgcaa
set_option linter.unusedVariables false
set_option linter.unusedSimpArgs false
open Go.RowKit

set_option maxHeartbeats 1000000 in
theorem paOk_i (v : Value) (g : Pa) (w : World) (hP : IsP w v g) :
    Calls Try.prog 69 #[v] w (Bb w (tf (PaOk g))) := by
  obtain ⟨_, _, _, rfl, ⟨s1, n1, c1, rfl, h1⟩, ⟨s2, n2, c2, rfl, h2⟩, ⟨s3, n3, c3, rfl, h3⟩⟩ := hP
  have hA : IsA w (.agg #[.slice s1 n1 c1, .slice s2 n2 c2]) g.ar := ⟨_, _, rfl, h1.is, h2.is⟩
  have hm3 := h3.max
  have H1 := Lib.hid h1.1
  have H3 := Lib.hid h3.1
  by_cases ha : ArOk g.ar
  · have ka : tf (ArOk g.ar) = true := tf_true ha
    have KA := Lib.hid ha
    clear ha
    by_cases he : n3 = n1
    · subst he
      go_enter Try.func69, Try.ntmps69
      go_wp2_with (go_at_call 137; refine (arOk_i _ _ _ (hA.below (by repeat' (first | (with_reducible exact Below.refl _ _) | (with_reducible assumption) | (with_reducible apply below_set) | (with_reducible apply Below.alloc) | (with_reducible apply Below.drew) | (with_reducible apply below_drawn) | (with_reducible refine Below.trans ?_ (Below.mono (by assumption) ?_)) | omega | (simp only [World.size_alloc, World.size_setCell, World.size_drew]; omega))))).mono ?_; rw [ka]; rintro e w2 ⟨rfl, hb2⟩; have hcf := bcell hb2; obtain ⟨hcell2, hfr2⟩ := hcf)
      go_loop [22] (fun i => ∃ k : Nat, k ≤ n3 ∧ i = .int .i64 k ∧ ∀ v, v < k → 0 ≤ gi g.prio v ∧ gi g.prio v ≤ 40) (fun i => n3 - (intOf i).toNat)
      case atStart => exact ⟨0, by omega, rfl, fun j hj => by omega⟩
      case round =>
        obtain ⟨k, hk, rfl, hS⟩ := hrel
        have HS := Lib.hid hS
        clear hS
        by_cases hlt : k < n3
        · obtain ⟨b, o, rfl, hbl, hc⟩ := (h3.below (w' := w2) (by repeat' (first | (with_reducible exact Below.refl _ _) | (with_reducible assumption) | (with_reducible apply below_set) | (with_reducible apply Below.alloc) | (with_reducible apply Below.drew) | (with_reducible apply below_drawn) | (with_reducible refine Below.trans ?_ (Below.mono (by assumption) ?_)) | omega | (simp only [World.size_alloc, World.size_setCell, World.size_drew]; omega)))).get hlt
          have hck := hc k hlt
          clear hc
          go_wp2
          all_goals first
            | (go_ret; exact ⟨ret_bool (tf_false (fun h => by have := h.prio k (by rw [H3.out]; exact hlt); omega)).symm, (by repeat' (first | (with_reducible exact Below.refl _ _) | (with_reducible assumption) | (with_reducible apply below_set) | (with_reducible apply Below.alloc) | (with_reducible apply Below.drew) | (with_reducible apply below_drawn) | (with_reducible refine Below.trans ?_ (Below.mono (by assumption) ?_)) | omega | (simp only [World.size_alloc, World.size_setCell, World.size_drew]; omega)))⟩)
            | (go_round
               case rel => exact ⟨k + 1, by omega, by go_num, fun j hj => by
                  by_cases e : j = k
                  · rw [e]; omega
                  · exact HS.out j (by omega)⟩
               case measure => simp [intOf]; omega)
        · go_wp2
          go_ret
          exact ⟨ret_bool (tf_true ⟨KA.out, by rw [H3.out, H1.out], fun v hv => HS.out v (by rw [H3.out] at hv; omega)⟩).symm, (by repeat' (first | (with_reducible exact Below.refl _ _) | (with_reducible assumption) | (with_reducible apply below_set) | (with_reducible apply Below.alloc) | (with_reducible apply Below.drew) | (with_reducible apply below_drawn) | (with_reducible refine Below.trans ?_ (Below.mono (by assumption) ?_)) | omega | (simp only [World.size_alloc, World.size_setCell, World.size_drew]; omega)))⟩
    · have hb1 : (n3 != n1) = true := by simp [he]
      have hb3 : ((n3 : Int) != (n1 : Int)) = true := by simp; omega
      go_enter Try.func69, Try.ntmps69
      go_wp2_with (go_at_call 137; refine (arOk_i _ _ _ (hA.below (by repeat' (first | (with_reducible exact Below.refl _ _) | (with_reducible assumption) | (with_reducible apply below_set) | (with_reducible apply Below.alloc) | (with_reducible apply Below.drew) | (with_reducible apply below_drawn) | (with_reducible refine Below.trans ?_ (Below.mono (by assumption) ?_)) | omega | (simp only [World.size_alloc, World.size_setCell, World.size_drew]; omega))))).mono ?_; rw [ka]; rintro e w2 ⟨rfl, hb2⟩; have hcf := bcell hb2; obtain ⟨hcell2, hfr2⟩ := hcf)
      go_ret
      exact ⟨ret_bool (tf_false (fun h => by have := h.len; have := H1.out; have := H3.out; omega)).symm, (by repeat' (first | (with_reducible exact Below.refl _ _) | (with_reducible assumption) | (with_reducible apply below_set) | (with_reducible apply Below.alloc) | (with_reducible apply Below.drew) | (with_reducible apply below_drawn) | (with_reducible refine Below.trans ?_ (Below.mono (by assumption) ?_)) | omega | (simp only [World.size_alloc, World.size_setCell, World.size_drew]; omega)))⟩
  · have ka : tf (ArOk g.ar) = false := tf_false ha
    have KA := Lib.hid ha
    clear ha
    go_enter Try.func69, Try.ntmps69
    go_wp2_with (go_at_call 137; refine (arOk_i _ _ _ (hA.below (by repeat' (first | (with_reducible exact Below.refl _ _) | (with_reducible assumption) | (with_reducible apply below_set) | (with_reducible apply Below.alloc) | (with_reducible apply Below.drew) | (with_reducible apply below_drawn) | (with_reducible refine Below.trans ?_ (Below.mono (by assumption) ?_)) | omega | (simp only [World.size_alloc, World.size_setCell, World.size_drew]; omega))))).mono ?_; rw [ka]; rintro e w2 ⟨rfl, hb2⟩; have hcf := bcell hb2; obtain ⟨hcell2, hfr2⟩ := hcf)
    go_ret
    exact ⟨ret_bool (tf_false (fun h => KA.out h.ar)).symm, (by repeat' (first | (with_reducible exact Below.refl _ _) | (with_reducible assumption) | (with_reducible apply below_set) | (with_reducible apply Below.alloc) | (with_reducible apply Below.drew) | (with_reducible apply below_drawn) | (with_reducible refine Below.trans ?_ (Below.mono (by assumption) ?_)) | omega | (simp only [World.size_alloc, World.size_setCell, World.size_drew]; omega)))⟩

set_option maxHeartbeats 1000000 in
theorem paOk_s (v : Value) (g : Pa) (w : World) (hP : IsP w v g) :
    Calls Try.prog 65 #[v] w (Bb w (tf (PaOk g))) := by
  obtain ⟨_, _, _, rfl, ⟨s1, n1, c1, rfl, h1⟩, ⟨s2, n2, c2, rfl, h2⟩, ⟨s3, n3, c3, rfl, h3⟩⟩ := hP
  have hA : IsA w (.agg #[.slice s1 n1 c1, .slice s2 n2 c2]) g.ar := ⟨_, _, rfl, h1.is, h2.is⟩
  have hm3 := h3.max
  have H1 := Lib.hid h1.1
  have H3 := Lib.hid h3.1
  by_cases ha : ArOk g.ar
  · have ka : tf (ArOk g.ar) = true := tf_true ha
    have KA := Lib.hid ha
    clear ha
    by_cases he : n3 = n1
    · subst he
      go_enter Try.func65, Try.ntmps65
      go_wp2_with (go_at_call 125; refine (arOk_s _ _ _ (hA.below (by repeat' (first | (with_reducible exact Below.refl _ _) | (with_reducible assumption) | (with_reducible apply below_set) | (with_reducible apply Below.alloc) | (with_reducible apply Below.drew) | (with_reducible apply below_drawn) | (with_reducible refine Below.trans ?_ (Below.mono (by assumption) ?_)) | omega | (simp only [World.size_alloc, World.size_setCell, World.size_drew]; omega))))).mono ?_; rw [ka]; rintro e w2 ⟨rfl, hb2⟩; have hcf := bcell hb2; obtain ⟨hcell2, hfr2⟩ := hcf)
      go_loop [3] (fun i => ∃ k : Nat, k ≤ n3 ∧ i = .int .i64 k ∧ ∀ v, v < k → 0 ≤ gi g.prio v ∧ gi g.prio v ≤ 40) (fun i => n3 - (intOf i).toNat)
      case atStart => exact ⟨0, by omega, rfl, fun j hj => by omega⟩
      case round =>
        obtain ⟨k, hk, rfl, hS⟩ := hrel
        have HS := Lib.hid hS
        clear hS
        by_cases hlt : k < n3
        · obtain ⟨b, o, rfl, hbl, hc⟩ := (h3.below (w' := w2) (by repeat' (first | (with_reducible exact Below.refl _ _) | (with_reducible assumption) | (with_reducible apply below_set) | (with_reducible apply Below.alloc) | (with_reducible apply Below.drew) | (with_reducible apply below_drawn) | (with_reducible refine Below.trans ?_ (Below.mono (by assumption) ?_)) | omega | (simp only [World.size_alloc, World.size_setCell, World.size_drew]; omega)))).get hlt
          have hck := hc k hlt
          clear hc
          by_cases hp : 0 ≤ gi g.prio k ∧ gi g.prio k ≤ 40
          · have k2 := Lib.hid (tf_true hp)
            have HP := Lib.hid hp
            clear hp
            go_wp2_with (go_at_call 74; refine (l1In_is _ _ _ _ k2.out _).mono ?_; rintro e w3 ⟨rfl, rfl⟩)
            go_round
            case rel => exact ⟨k + 1, by omega, by go_num, fun j hj => by
              by_cases e : j = k
              · rw [e]; exact HP.out
              · exact HS.out j (by omega)⟩
            case measure => simp [intOf]; omega
          · have k2 := Lib.hid (tf_false hp)
            have HP := Lib.hid hp
            clear hp
            go_wp2_with (go_at_call 74; refine (l1In_is _ _ _ _ k2.out _).mono ?_; rintro e w3 ⟨rfl, rfl⟩)
            go_ret
            exact ⟨ret_bool (tf_false (fun h => HP.out (h.prio k (by rw [H3.out]; exact hlt)))).symm, (by repeat' (first | (with_reducible exact Below.refl _ _) | (with_reducible assumption) | (with_reducible apply below_set) | (with_reducible apply Below.alloc) | (with_reducible apply Below.drew) | (with_reducible apply below_drawn) | (with_reducible refine Below.trans ?_ (Below.mono (by assumption) ?_)) | omega | (simp only [World.size_alloc, World.size_setCell, World.size_drew]; omega)))⟩
        · go_wp2
          go_ret
          exact ⟨ret_bool (tf_true ⟨KA.out, by rw [H3.out, H1.out], fun v hv => HS.out v (by rw [H3.out] at hv; omega)⟩).symm, (by repeat' (first | (with_reducible exact Below.refl _ _) | (with_reducible assumption) | (with_reducible apply below_set) | (with_reducible apply Below.alloc) | (with_reducible apply Below.drew) | (with_reducible apply below_drawn) | (with_reducible refine Below.trans ?_ (Below.mono (by assumption) ?_)) | omega | (simp only [World.size_alloc, World.size_setCell, World.size_drew]; omega)))⟩
    · have hb1 : (n3 != n1) = true := by simp [he]
      have hb3 : ((n3 : Int) != (n1 : Int)) = true := by simp; omega
      go_enter Try.func65, Try.ntmps65
      go_wp2_with (go_at_call 125; refine (arOk_s _ _ _ (hA.below (by repeat' (first | (with_reducible exact Below.refl _ _) | (with_reducible assumption) | (with_reducible apply below_set) | (with_reducible apply Below.alloc) | (with_reducible apply Below.drew) | (with_reducible apply below_drawn) | (with_reducible refine Below.trans ?_ (Below.mono (by assumption) ?_)) | omega | (simp only [World.size_alloc, World.size_setCell, World.size_drew]; omega))))).mono ?_; rw [ka]; rintro e w2 ⟨rfl, hb2⟩; have hcf := bcell hb2; obtain ⟨hcell2, hfr2⟩ := hcf)
      go_ret
      exact ⟨ret_bool (tf_false (fun h => by have := h.len; have := H1.out; have := H3.out; omega)).symm, (by repeat' (first | (with_reducible exact Below.refl _ _) | (with_reducible assumption) | (with_reducible apply below_set) | (with_reducible apply Below.alloc) | (with_reducible apply Below.drew) | (with_reducible apply below_drawn) | (with_reducible refine Below.trans ?_ (Below.mono (by assumption) ?_)) | omega | (simp only [World.size_alloc, World.size_setCell, World.size_drew]; omega)))⟩
  · have ka : tf (ArOk g.ar) = false := tf_false ha
    have KA := Lib.hid ha
    clear ha
    go_enter Try.func65, Try.ntmps65
    go_wp2_with (go_at_call 125; refine (arOk_s _ _ _ (hA.below (by repeat' (first | (with_reducible exact Below.refl _ _) | (with_reducible assumption) | (with_reducible apply below_set) | (with_reducible apply Below.alloc) | (with_reducible apply Below.drew) | (with_reducible apply below_drawn) | (with_reducible refine Below.trans ?_ (Below.mono (by assumption) ?_)) | omega | (simp only [World.size_alloc, World.size_setCell, World.size_drew]; omega))))).mono ?_; rw [ka]; rintro e w2 ⟨rfl, hb2⟩; have hcf := bcell hb2; obtain ⟨hcell2, hfr2⟩ := hcf)
    go_ret
    exact ⟨ret_bool (tf_false (fun h => KA.out h.ar)).symm, (by repeat' (first | (with_reducible exact Below.refl _ _) | (with_reducible assumption) | (with_reducible apply below_set) | (with_reducible apply Below.alloc) | (with_reducible apply Below.drew) | (with_reducible apply below_drawn) | (with_reducible refine Below.trans ?_ (Below.mono (by assumption) ?_)) | omega | (simp only [World.size_alloc, World.size_setCell, World.size_drew]; omega)))⟩
end Go.Proofs.Ythdioaeekhkgcaa
