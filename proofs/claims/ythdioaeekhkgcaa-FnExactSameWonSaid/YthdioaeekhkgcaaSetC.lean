/-
  Small functions of the reference over lists.
-/
import Derived.Test.YthdioaeekhkgcaaSetB
namespace Go.Proofs.Ythdioaeekhkgcaa
set_option linter.unusedVariables false
set_option linter.unusedSimpArgs false
open Go.RowKit
attribute [local go_sem ↓] Go.wp_at_zero Go.wp_at_succ

set_option maxHeartbeats 400000 in
theorem l7HasIn_any (sa : Option Addr) (n c : Nat) (xs : List Int) (x : Int) (w : World) (hI : Ints w sa n c xs) :
    Calls Try.prog 175 #[.slice sa n c, .int .i64 x] w fun e w' => e = .returned (.bool (tf (x ∈ xs))) ∧ w = w' := by
  have hmax := hI.max
  have HL := Lib.hid hI.1
  go_enter Try.func175, Try.ntmps175
  go_wp2
  go_loop [5] (fun i => ∃ k : Nat, k ≤ n ∧ i = .int .i64 k ∧ ∀ j, j < k → gi xs j ≠ x) (fun i => n - (intOf i).toNat)
  case atStart => exact ⟨0, by omega, rfl, fun j hj => by omega⟩
  case round =>
    obtain ⟨k, hk, rfl, hS⟩ := hrel
    have HS := Lib.hid hS; clear hS
    by_cases hlt : k < n
    · obtain ⟨b, o, rfl, hSb, hc⟩ := hI.get hlt
      have hck := hc k hlt
      clear hc
      rcases ne_cases (gi xs k) x with ⟨d1, d2, HE⟩ | ⟨d1, d2, HE⟩
      · go_wp2
        go_ret
        exact ⟨ret_bool (tf_true (by rw [← HE.out]; exact gi_mem (by rw [HL.out]; exact hlt))).symm, rfl⟩
      · go_wp2
        go_round
        case rel => exact ⟨k + 1, by omega, by go_num, fun j hj => by
          by_cases e : j = k
          · rw [e]; exact HE.out
          · exact HS.out j (by omega)⟩
        case measure => simp [intOf]; omega
    · go_wp2
      go_ret
      exact ⟨ret_bool (tf_false (fun h => by obtain ⟨k', h1, h2⟩ := mem_gi h; exact HS.out k' (by rw [HL.out] at h1; omega) h2)).symm, rfl⟩

set_option maxHeartbeats 400000 in
theorem l1Has_any (sa : Option Addr) (n c : Nat) (xs : List Int) (x : Int) (w : World) (hI : Ints w sa n c xs) :
    Calls Try.prog 115 #[.slice sa n c, .int .i64 x] w fun e w' => e = .returned (.bool (tf (x ∈ xs))) ∧ w = w' := by
  have hmax := hI.max
  have HL := Lib.hid hI.1
  go_enter Try.func115, Try.ntmps115
  go_wp2
  go_loop [5] (fun i => ∃ k : Nat, k ≤ n ∧ i = .int .i64 k ∧ ∀ j, j < k → gi xs j ≠ x) (fun i => n - (intOf i).toNat)
  case atStart => exact ⟨0, by omega, rfl, fun j hj => by omega⟩
  case round =>
    obtain ⟨k, hk, rfl, hS⟩ := hrel
    have HS := Lib.hid hS; clear hS
    by_cases hlt : k < n
    · obtain ⟨b, o, rfl, hSb, hc⟩ := hI.get hlt
      have hck := hc k hlt
      clear hc
      rcases ne_cases (gi xs k) x with ⟨d1, d2, HE⟩ | ⟨d1, d2, HE⟩
      · go_wp2
        go_ret
        exact ⟨ret_bool (tf_true (by rw [← HE.out]; exact gi_mem (by rw [HL.out]; exact hlt))).symm, rfl⟩
      · go_wp2
        go_round
        case rel => exact ⟨k + 1, by omega, by go_num, fun j hj => by
          by_cases e : j = k
          · rw [e]; exact HE.out
          · exact HS.out j (by omega)⟩
        case measure => simp [intOf]; omega
    · go_wp2
      go_ret
      exact ⟨ret_bool (tf_false (fun h => by obtain ⟨k', h1, h2⟩ := mem_gi h; exact HS.out k' (by rw [HL.out] at h1; omega) h2)).symm, rfl⟩

theorem l1Copy_any (sa : Option Addr) (n c : Nat) (xs : List Int) (w : World) (hI : Ints w sa n c xs) (hn : n ≤ 1048576) : Calls Try.prog 117 #[.slice sa n c] w (RetI' w xs) := by
  go_enter Try.func117, Try.ntmps117
  go_wp2_with (at_builtin; refine app_ints rfl _ _ rfl rfl (own_nil w.heap.size w 0 (Nat.le_refl _)) rfl (hI.alloc _) (by simp; omega) (by simp) ?_; intro sa' c' w2 ho2 hO2)
  go_ret
  exact ⟨_, _, _, rfl, by simpa using ho2, bel_app (Below.refl _ _) hO2⟩

theorem l1Max_any (x y : Int) (w : World) : Calls Try.prog 119 #[.int .i64 x, .int .i64 y] w fun e w' => e = .returned (.int .i64 (max x y)) ∧ w = w' := by
  go_enter Try.func119, Try.ntmps119
  go_wp2
  all_goals go_ret
  all_goals exact ⟨ret_int (by omega), rfl⟩

set_option maxHeartbeats 400000 in
theorem l7Part_s (u : Value) (n : Nat) (xs : List Int) (w : World) (hx : IsI w u xs) (hB : Bnd xs n) (hn : n ≤ 256) :
    Calls Try.prog 78 #[.int .i64 n, u] w (RetB' w (mks n fun v => (v : Int) ∈ xs)) := by
  obtain ⟨s4, n4, c4, rfl, h4⟩ := hx
  have hm4 := h4.max
  obtain rfl := h4.1
  have HB := Lib.hid hB
  clear hB
  go_enter Try.func78, Try.ntmps78
  go_wp2_with (at_make; refine mk_bools rfl _ _ rfl _ _ _ _ n rfl rfl rfl rfl (by omega) ?_; intro w1 ho1 hb1 hz1)
  go_loopw [6] (fun i wr => ∃ k : Nat, k ≤ xs.length ∧ i = .int .i64 k ∧ OwnB w.heap.size wr.heap.size wr (.slice (some ⟨w.heap.size, 0, none⟩) n n) (mks n fun v => ∃ j, j < k ∧ gi xs j = v) ∧ Below w.heap.size w wr) (fun i _ => xs.length - (intOf i).toNat)
  case atStart => exact ⟨0, by omega, rfl, by
    rwa [show (tabb n fun _ => false) = mks n fun v => ∃ j, j < 0 ∧ gi xs j = v from tabb_congr fun k _ => (tf_false (by rintro ⟨j, h, _⟩; omega)).symm] at ho1, hb1⟩
  case round =>
    obtain ⟨k, hk, rfl, ho, hb⟩ := hrel
    by_cases hlt : k < xs.length
    · obtain ⟨b, o, rfl, hbl, hc⟩ := (h4.below hb).get hlt
      have hck := hc k hlt
      clear hc
      obtain ⟨hb0, hb1⟩ := HB.out k hlt
      have hb2 : (gi xs k).toNat < n := by omega
      obtain ⟨q1, q2, q3, q4⟩ := ho.cell hb2
      go_wp2
      go_roundw
      case rel =>
        refine ⟨k + 1, by omega, by go_num, ?_, below_set hb (by omega) _⟩
        have := (OwnB.set ho (gi xs k).toNat true).top
        unfold mks at this
        rw [tabb_set hb2] at this
        rwa [show mks n (fun v => ∃ j, j < k + 1 ∧ gi xs j = v) = _ from tabb_congr fun i hi => ?_]
        by_cases e : i = (gi xs k).toNat
        · rw [if_pos e]; exact tf_true ⟨k, by omega, by omega⟩
        · rw [if_neg e]; exact tf_congr ⟨fun ⟨j, h1, h2⟩ => ⟨j, by
            by_cases ej : j = k
            · subst ej; omega
            · omega, h2⟩, fun ⟨j, h1, h2⟩ => ⟨j, by omega, h2⟩⟩
      case measure => simp [intOf]; omega
    · go_wp2
      go_ret
      have e : k = xs.length := by omega
      subst e
      refine ⟨_, _, _, rfl, ?_, hb⟩
      rwa [mks_congr (q := fun v => (v : Int) ∈ xs) fun v hv => mem_iff_gi.symm] at ho
end Go.Proofs.Ythdioaeekhkgcaa
