/-
  Valid arenas and games: what the program and the reference say, 2.
-/
import Derived.Test.YthdioaeekhkgcaaOk
namespace Go.Proofs.Ythdioaeekhkgcaa
set_option linter.unusedVariables false
set_option linter.unusedSimpArgs false
open Go.RowKit

set_option maxHeartbeats 1000000 in
theorem arOk_i (v : Value) (a : Ar) (w : World) (hA : IsA w v a) :
    Calls Try.prog 137 #[v] w (Bb w (tf (ArOk a))) := by
  obtain ⟨_, _, rfl, ⟨s1, n1, c1, rfl, h1⟩, ⟨s2, n2, c2, rfl, h2⟩⟩ := hA
  have hm1 := h1.max
  have hm2 := h2.max
  have H1 := Lib.hid h1.1
  have H2 := Lib.hid h2.len
  by_cases hp : 1 ≤ n1 ∧ n1 ≤ 256 ∧ n2 = n1
  · obtain ⟨hp1, hp2, rfl⟩ := hp
    go_enter Try.func137, Try.ntmps137
    go_wp2
    go_loop [25] (fun i => ∃ k : Nat, k ≤ n2 ∧ i = .int .i64 k ∧ VertOk a k) (fun i => n2 - (intOf i).toNat)
    case atStart => exact ⟨0, by omega, rfl, fun j hj => by omega⟩
    case round =>
      obtain ⟨k, hk, rfl, hS⟩ := hrel
      by_cases hlt : k < n2
      · obtain ⟨b1, o1, rfl, hb1, hc1⟩ := h1.get hlt
        obtain ⟨b2, o2, rfl, hb2, A, L, C, hc2⟩ := h2.get hlt
        have q1 := hc1 k hlt
        obtain ⟨q2, hI⟩ := hc2 k hlt
        have hl := Lib.hid hI.1
        have hlm := hI.max
        clear hc1 hc2
        by_cases hs : IsSet (gr a.nxt k) n2
        · have k1 : tf (IsSet (gr a.nxt k) n2) = true := tf_true hs
          have K1 := Lib.hid hs
          clear hs
          go_wp2_with (go_at_call 83; refine (isSet_any _ _ _ _ _ _ (hI.alloc _)).mono ?_; rw [k1]; rintro e w2 ⟨rfl, rfl⟩)
          all_goals first
            | (go_ret; exact ⟨ret_bool (tf_false (fun h => by have := h.vert k (by rw [H1.out]; exact hlt); have := hl.out; omega)).symm, below_alloc _ _⟩)
            | (go_round
               case rel => exact ⟨k + 1, by omega, by go_num, hS.next ⟨by omega, by omega, by have := hl.out; omega, by have := hl.out; omega, by rw [H1.out]; exact K1.out⟩⟩
               case measure => simp [intOf]; omega)
        · have k1 : tf (IsSet (gr a.nxt k) n2) = false := tf_false hs
          have K1 := Lib.hid hs
          clear hs
          go_wp2_with (go_at_call 83; refine (isSet_any _ _ _ _ _ _ (hI.alloc _)).mono ?_; rw [k1]; rintro e w2 ⟨rfl, rfl⟩)
          all_goals go_ret
          all_goals exact ⟨ret_bool (tf_false (fun h => K1.out (by have := (h.vert k (by rw [H1.out]; exact hlt)).2.2.2.2; rwa [H1.out] at this))).symm, below_alloc _ _⟩
      · go_wp2
        go_ret
        exact ⟨ret_bool (tf_true ⟨by rw [H1.out]; omega, by rw [H1.out]; omega, by rw [H1.out, H2.out], fun v hv => hS v (by rw [H1.out] at hv; omega)⟩).symm, below_alloc _ _⟩
  · by_cases he : n2 = n1
    · go_enter Try.func137, Try.ntmps137
      go_wp2
      all_goals first
        | (go_ret; exact ⟨ret_bool (tf_false (fun h => by have := h.pos; have := h.le; have := h.len; have := H1.out; have := H2.out; omega)).symm, below_alloc _ _⟩)
        | (exfalso; omega)
    · have hb1 : (n2 != n1) = true := by simp [he]
      have hb2 : ((n2 : Int) != (n1 : Int)) = true := by simp; omega
      go_enter Try.func137, Try.ntmps137
      go_wp2
      all_goals go_ret
      all_goals exact ⟨ret_bool (tf_false (fun h => by have := h.pos; have := h.le; have := h.len; have := H1.out; have := H2.out; omega)).symm, below_alloc _ _⟩

end Go.Proofs.Ythdioaeekhkgcaa
