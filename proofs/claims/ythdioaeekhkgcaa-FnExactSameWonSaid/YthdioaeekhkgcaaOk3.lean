/-
  Valid arenas: the reference.
-/
import Derived.Test.YthdioaeekhkgcaaOk
namespace Go.Proofs.Ythdioaeekhkgcaa
set_option linter.unusedVariables false
set_option linter.unusedSimpArgs false
open Go.RowKit

set_option maxHeartbeats 2000000 in
theorem arOk_s (v : Value) (a : Ar) (w : World) (hA : IsA w v a) :
    Calls Try.prog 125 #[v] w (Bb w (tf (ArOk a))) := by
  obtain ⟨_, _, rfl, ⟨s1, n1, c1, rfl, h1⟩, ⟨s2, n2, c2, rfl, h2⟩⟩ := hA
  have hm1 := h1.max
  have hm2 := h2.max
  have H1 := Lib.hid h1.1
  have H2 := Lib.hid h2.len
  by_cases hp0 : 1 ≤ n1 ∧ n1 ≤ 256
  · have k0 := Lib.hid (tf_true (p := (1 : Int) ≤ n1 ∧ (n1 : Int) ≤ 256) (by omega))
    by_cases hp : n2 = n1
    · obtain ⟨hp1, hp2⟩ := hp0
      subst hp
      go_enter Try.func125, Try.ntmps125
      go_wp2_with (go_at_call 74; refine (l1In_is _ _ _ _ k0.out _).mono ?_; rintro e w2 ⟨rfl, rfl⟩)
      go_loopw [4] (fun i wr => ∃ k q : Nat, k ≤ n2 ∧ i = .int .i64 k ∧ VertOk a k ∧ wr = (w.alloc (.cells #[.slice s1 n2 c1, .slice s2 n2 c2] 30)).drewN q) (fun i _ => n2 - (intOf i).toNat)
      case atStart => exact ⟨0, 0, by omega, rfl, fun j hj => by omega, rfl⟩
      case round =>
        obtain ⟨k, q, hk, rfl, hS, rfl⟩ := hrel
        by_cases hlt : k < n2
        · obtain ⟨b1, o1, rfl, hb1, hc1⟩ := h1.get hlt
          obtain ⟨b2, o2, rfl, hb2, A, L, C, hc2⟩ := h2.get hlt
          have q1 := hc1 k hlt
          obtain ⟨q2, hI⟩ := hc2 k hlt
          have hl := Lib.hid hI.1
          have hlm := hI.max
          clear hc1 hc2
          by_cases ho : 0 ≤ gi a.own k ∧ gi a.own k ≤ 1
          · have k2 := Lib.hid (tf_true ho)
            have HO := Lib.hid ho
            clear ho
            by_cases hs : IsSet (gr a.nxt k) n2
            · have k1 : tf (IsSet (gr a.nxt k) n2) = true := tf_true hs
              have K1 := Lib.hid hs
              clear hs
              go_wp2_with (first
                | (go_at_call 74; refine (l1In_is _ _ _ _ k2.out _).mono ?_; rintro e w2 ⟨rfl, rfl⟩)
                | (go_at_call 139; refine (l1Set_any _ _ _ _ _ _ (hI.below (by repeat' (first | (with_reducible exact Below.refl _ _) | (with_reducible assumption) | (with_reducible apply below_set) | (with_reducible apply Below.alloc) | (with_reducible apply Below.drew) | (with_reducible apply below_drawn) | (with_reducible refine Below.trans ?_ (Below.mono (by assumption) ?_)) | omega | (simp only [World.size_alloc, World.size_setCell, World.size_drew]; omega)))) (by omega) (by omega)).mono ?_; rw [k1]; rintro e w2 ⟨rfl, q3, rfl⟩))
              all_goals first
                | (go_ret; exact ⟨ret_bool (tf_false (fun h => by have := h.vert k (by rw [H1.out]; exact hlt); have := hl.out; omega)).symm, (by repeat' (first | (with_reducible exact Below.refl _ _) | (with_reducible assumption) | (with_reducible apply below_set) | (with_reducible apply Below.alloc) | (with_reducible apply Below.drew) | (with_reducible apply below_drawn) | (with_reducible refine Below.trans ?_ (Below.mono (by assumption) ?_)) | omega | (simp only [World.size_alloc, World.size_setCell, World.size_drew]; omega)))⟩)
                | (go_roundw
                   case rel => exact ⟨k + 1, _, by omega, by go_num, hS.next ⟨HO.out.1, HO.out.2, by have := hl.out; omega, by have := hl.out; omega, by rw [H1.out]; exact K1.out⟩, rfl⟩
                   case measure => simp [intOf]; omega)
            · have k1 : tf (IsSet (gr a.nxt k) n2) = false := tf_false hs
              have K1 := Lib.hid hs
              clear hs
              go_wp2_with (first
                | (go_at_call 74; refine (l1In_is _ _ _ _ k2.out _).mono ?_; rintro e w2 ⟨rfl, rfl⟩)
                | (go_at_call 139; refine (l1Set_any _ _ _ _ _ _ (hI.below (by repeat' (first | (with_reducible exact Below.refl _ _) | (with_reducible assumption) | (with_reducible apply below_set) | (with_reducible apply Below.alloc) | (with_reducible apply Below.drew) | (with_reducible apply below_drawn) | (with_reducible refine Below.trans ?_ (Below.mono (by assumption) ?_)) | omega | (simp only [World.size_alloc, World.size_setCell, World.size_drew]; omega)))) (by omega) (by omega)).mono ?_; rw [k1]; rintro e w2 ⟨rfl, q3, rfl⟩))
              all_goals go_ret
              all_goals exact ⟨ret_bool (tf_false (fun h => K1.out (by have := (h.vert k (by rw [H1.out]; exact hlt)).2.2.2.2; rwa [H1.out] at this))).symm, (by repeat' (first | (with_reducible exact Below.refl _ _) | (with_reducible assumption) | (with_reducible apply below_set) | (with_reducible apply Below.alloc) | (with_reducible apply Below.drew) | (with_reducible apply below_drawn) | (with_reducible refine Below.trans ?_ (Below.mono (by assumption) ?_)) | omega | (simp only [World.size_alloc, World.size_setCell, World.size_drew]; omega)))⟩
          · have k2 := Lib.hid (tf_false ho)
            have HO := Lib.hid ho
            clear ho
            go_wp2_with (go_at_call 74; refine (l1In_is _ _ _ _ k2.out _).mono ?_; rintro e w2 ⟨rfl, rfl⟩)
            go_ret
            exact ⟨ret_bool (tf_false (fun h => HO.out (by have := h.vert k (by rw [H1.out]; exact hlt); omega))).symm, (by repeat' (first | (with_reducible exact Below.refl _ _) | (with_reducible assumption) | (with_reducible apply below_set) | (with_reducible apply Below.alloc) | (with_reducible apply Below.drew) | (with_reducible apply below_drawn) | (with_reducible refine Below.trans ?_ (Below.mono (by assumption) ?_)) | omega | (simp only [World.size_alloc, World.size_setCell, World.size_drew]; omega)))⟩
        · go_wp2
          go_ret
          exact ⟨ret_bool (tf_true ⟨by rw [H1.out]; omega, by rw [H1.out]; omega, by rw [H1.out, H2.out], fun v hv => hS v (by rw [H1.out] at hv; omega)⟩).symm, (by repeat' (first | (with_reducible exact Below.refl _ _) | (with_reducible assumption) | (with_reducible apply below_set) | (with_reducible apply Below.alloc) | (with_reducible apply Below.drew) | (with_reducible apply below_drawn) | (with_reducible refine Below.trans ?_ (Below.mono (by assumption) ?_)) | omega | (simp only [World.size_alloc, World.size_setCell, World.size_drew]; omega)))⟩
    · go_enter Try.func125, Try.ntmps125
      go_wp2_with (go_at_call 74; refine (l1In_is _ _ _ _ k0.out _).mono ?_; rintro e w2 ⟨rfl, rfl⟩)
      go_ret
      exact ⟨ret_bool (tf_false (fun h => by have := h.len; have := H1.out; have := H2.out; omega)).symm, (by repeat' (first | (with_reducible exact Below.refl _ _) | (with_reducible assumption) | (with_reducible apply below_set) | (with_reducible apply Below.alloc) | (with_reducible apply Below.drew) | (with_reducible apply below_drawn) | (with_reducible refine Below.trans ?_ (Below.mono (by assumption) ?_)) | omega | (simp only [World.size_alloc, World.size_setCell, World.size_drew]; omega)))⟩
  · have k0 := Lib.hid (tf_false (p := (1 : Int) ≤ n1 ∧ (n1 : Int) ≤ 256) (by omega))
    go_enter Try.func125, Try.ntmps125
    go_wp2_with (go_at_call 74; refine (l1In_is _ _ _ _ k0.out _).mono ?_; rintro e w2 ⟨rfl, rfl⟩)
    go_ret
    exact ⟨ret_bool (tf_false (fun h => by have := h.pos; have := h.le; have := H1.out; omega)).symm, (by repeat' (first | (with_reducible exact Below.refl _ _) | (with_reducible assumption) | (with_reducible apply below_set) | (with_reducible apply Below.alloc) | (with_reducible apply Below.drew) | (with_reducible apply below_drawn) | (with_reducible refine Below.trans ?_ (Below.mono (by assumption) ?_)) | omega | (simp only [World.size_alloc, World.size_setCell, World.size_drew]; omega)))⟩
end Go.Proofs.Ythdioaeekhkgcaa
