/-
  Valid arenas and games: what the program and the reference say.
-/
import Derived.Test.YthdioaeekhkgcaaEx3
namespace Go.Proofs.Ythdioaeekhkgcaa
set_option linter.unusedVariables false
set_option linter.unusedSimpArgs false
open Go.RowKit

/-- A rising list of numbers from 0 on, below m. -/
def IsSet (xs : List Int) (m : Int) : Prop := ∀ k, k < xs.length → 0 ≤ gi xs k ∧ gi xs k < m ∧ (0 < k → gi xs (k - 1) < gi xs k)
structure ArOk (a : Ar) : Prop where
  pos : 1 ≤ a.own.length
  le : a.own.length ≤ 256
  len : a.nxt.length = a.own.length
  vert : ∀ v, v < a.own.length → 0 ≤ gi a.own v ∧ gi a.own v ≤ 1 ∧ 1 ≤ (gr a.nxt v).length ∧ (gr a.nxt v).length ≤ 16 ∧ IsSet (gr a.nxt v) a.own.length
structure PaOk (g : Pa) : Prop where
  ar : ArOk g.ar
  len : g.prio.length = g.ar.own.length
  prio : ∀ v, v < g.prio.length → 0 ≤ gi g.prio v ∧ gi g.prio v ≤ 40

theorem isSet_ge {xs : List Int} {m : Int} (h : IsSet xs m) : ∀ k, k < xs.length → (k : Int) ≤ gi xs k := by
  intro k
  induction k with
  | zero => intro hk; exact (h 0 hk).1
  | succ k ih => intro hk; have := ih (by omega); have := (h (k + 1) hk).2.2 (by omega); simp only [Nat.add_sub_cancel] at this; omega
theorem isSet_len {xs : List Int} {m : Int} (h : IsSet xs m) (hm : 0 ≤ m) : (xs.length : Int) ≤ m := by
  by_cases hx : xs.length = 0
  · omega
  · have h1 := isSet_ge h (xs.length - 1) (by omega)
    have h2 := (h (xs.length - 1) (by omega)).2.1
    omega

/-! ### isSet -/
set_option maxHeartbeats 400000 in
theorem isSet_any (sa : Option Addr) (n c : Nat) (xs : List Int) (m : Int) (w : World) (hI : Ints w sa n c xs) :
    Calls Try.prog 83 #[.slice sa n c, .int .i64 m] w fun e w' => e = .returned (.bool (tf (IsSet xs m))) ∧ w = w' := by
  have hmax := hI.max
  have HL := Lib.hid hI.1
  go_enter Try.func83, Try.ntmps83
  go_wp2
  go_loop [9] (fun i => ∃ k : Nat, k ≤ n ∧ i = .int .i64 k ∧ ∀ j, j < k → 0 ≤ gi xs j ∧ gi xs j < m ∧ (0 < j → gi xs (j - 1) < gi xs j)) (fun i => n - (intOf i).toNat)
  case atStart => exact ⟨0, by omega, rfl, fun j hj => by omega⟩
  case round =>
    obtain ⟨k, hk, rfl, hS⟩ := hrel
    have HS := Lib.hid hS; clear hS
    by_cases hlt : k < n
    · obtain ⟨b, o, rfl, hSb, hc⟩ := hI.get hlt
      have hck := hc k hlt
      have hcp : 0 < k → w.cell? ⟨b, o + (k - 1), none⟩ = some (.int .i64 (gi xs (k-1))) := fun h => hc (k-1) (by omega)
      clear hc
      go_wp2
      all_goals first
        | (go_ret; exact ⟨ret_bool (tf_false (fun h => by have := h k (by rw [HL.out]; exact hlt); omega)).symm, rfl⟩)
        | (go_round
           case rel => exact ⟨k + 1, by omega, by go_num, fun j hj => by
              by_cases e : j = k
              · rw [e]; omega
              · exact HS.out j (by omega)⟩
           case measure => simp [intOf]; omega)
    · go_wp2
      go_ret
      exact ⟨ret_bool (tf_true (fun j hj => HS.out j (by rw [HL.out] at hj; omega))).symm, rfl⟩

set_option maxHeartbeats 400000 in
theorem l1In_any (x lo hi : Int) (w : World) : Calls Try.prog 74 #[.int .i64 x, .int .i64 lo, .int .i64 hi] w fun e w' => e = .returned (.bool (tf (lo ≤ x ∧ x ≤ hi))) ∧ w = w' := by
  by_cases h1 : lo ≤ x
  · by_cases h2 : x ≤ hi
    · rw [tf_true ⟨h1, h2⟩]
      go_enter Try.func74, Try.ntmps74
      go_wp2
      go_ret
      exact ⟨rfl, rfl⟩
    · rw [tf_false (fun h => h2 h.2)]
      go_enter Try.func74, Try.ntmps74
      go_wp2
      go_ret
      exact ⟨rfl, rfl⟩
  · rw [tf_false (fun h => h1 h.1)]
    go_enter Try.func74, Try.ntmps74
    go_wp2
    go_ret
    exact ⟨rfl, rfl⟩
theorem l1In_is (x lo hi : Int) (b : Bool) (h : tf (lo ≤ x ∧ x ≤ hi) = b) (w : World) : Calls Try.prog 74 #[.int .i64 x, .int .i64 lo, .int .i64 hi] w fun e w' => e = .returned (.bool b) ∧ w = w' := by
  have := l1In_any x lo hi w
  rwa [h] at this
theorem l1In_q (x lo hi : Int) (b : Bool) (h : tf (lo ≤ x ∧ x ≤ hi) = b) (w : World) : Calls Try.prog 74 #[.int .i64 x, .int .i64 lo, .int .i64 hi] w fun e w' => e = .returned (.bool b) ∧ w' = w :=
  (l1In_is x lo hi b h w).mono fun _ _ h => ⟨h.1, h.2.symm⟩

set_option maxHeartbeats 800000 in
theorem l1Rises_any (sa : Option Addr) (n c : Nat) (xs : List Int) (m : Int) (w : World) (hI : Ints w sa n c xs) (h0 : 0 ≤ m) (hm : m ≤ 4611686018427387904) :
    Calls Try.prog 169 #[.slice sa n c, .int .i64 m] w (Qb w (tf (IsSet xs m))) := by
  have hmax := hI.max
  have HL := Lib.hid hI.1
  go_enter Try.func169, Try.ntmps169
  go_wp2
  go_loopw [5] (fun i wr => ∃ k : Nat, k ≤ n ∧ i = .int .i64 k ∧ (∀ j, j < k → 0 ≤ gi xs j ∧ gi xs j < m ∧ (0 < j → gi xs (j - 1) < gi xs j)) ∧ Qt w wr) (fun i _ => n - (intOf i).toNat)
  case atStart => exact ⟨0, by omega, rfl, fun j hj => by omega, Qt.refl w⟩
  case round =>
    obtain ⟨k, hk, rfl, hS, hq⟩ := hrel
    have HS := Lib.hid hS; clear hS
    by_cases hlt : k < n
    · obtain ⟨b, o, rfl, hSb, hc⟩ := (hI.below hq.below).get hlt
      have hck := hc k hlt
      have i0 : (0 : Int) ≤ (k : Int) := by omega
      have i1 : (k : Int) < (n : Int) := by omega
      by_cases h1 : 0 ≤ gi xs k ∧ gi xs k ≤ m - 1
      · have k1 := Lib.hid (tf_true h1)
        have H1 := Lib.hid h1
        clear h1
        by_cases hk0 : 0 < k
        · have d1 : decide ((0 : Int) < (k : Int)) = true := by simp; omega
          have hcp := hc (k - 1) (by omega)
          have i2 : (0 : Int) ≤ (k : Int) - 1 := by omega
          have i3 : (k : Int) - 1 < (n : Int) := by omega
          clear hc
          by_cases h2 : gi xs k ≤ gi xs (k - 1)
          · have d2 : decide (gi xs k ≤ gi xs (k - 1)) = true := by simp; omega
            go_wp2
            go_quiet ((go_at_call 74; exact Calls.quiet_of_same (l1In_q _ _ _ true k1.out _)))
            go_wp2
            go_ret
            exact ⟨ret_bool (tf_false (fun h => by have := (h k (by rw [HL.out]; exact hlt)).2.2 hk0; omega)).symm, hq.drewN _⟩
          · have d2 : decide (gi xs k ≤ gi xs (k - 1)) = false := by simp; omega
            go_wp2
            go_quiet ((go_at_call 74; exact Calls.quiet_of_same (l1In_q _ _ _ true k1.out _)))
            go_wp2
            go_roundw
            case rel => exact ⟨k + 1, by omega, by go_num, fun j hj => by
              by_cases e : j = k
              · rw [e]; have := H1.out; omega
              · exact HS.out j (by omega), hq.drewN _⟩
            case measure => simp [intOf]; omega
        · have d1 : decide ((0 : Int) < (k : Int)) = false := by simp; omega
          clear hc
          go_wp2
          go_quiet ((go_at_call 74; exact Calls.quiet_of_same (l1In_q _ _ _ true k1.out _)))
          go_wp2
          go_roundw
          case rel => exact ⟨k + 1, by omega, by go_num, fun j hj => by
            by_cases e : j = k
            · rw [e]; have := H1.out; omega
            · exact HS.out j (by omega), hq.drewN _⟩
          case measure => simp [intOf]; omega
      · have k1 := Lib.hid (tf_false h1)
        have H1 := Lib.hid h1
        clear h1 hc
        go_wp2
        go_quiet ((go_at_call 74; exact Calls.quiet_of_same (l1In_q _ _ _ false k1.out _)))
        go_wp2
        go_ret
        exact ⟨ret_bool (tf_false (fun h => H1.out (by have := h k (by rw [HL.out]; exact hlt); omega))).symm, hq.drewN _⟩
    · go_wp2
      go_ret
      exact ⟨ret_bool (tf_true (fun j hj => HS.out j (by rw [HL.out] at hj; omega))).symm, hq⟩

set_option maxHeartbeats 400000 in
theorem l1Set_any (sa : Option Addr) (n c : Nat) (xs : List Int) (m : Int) (w : World) (hI : Ints w sa n c xs) (h0 : 0 ≤ m) (hm : m ≤ 4611686018427387904) :
    Calls Try.prog 139 #[.slice sa n c, .int .i64 m] w (Qb w (tf (IsSet xs m))) := by
  have hmax := hI.max
  have HL := Lib.hid hI.1
  by_cases hn : (n : Int) ≤ m
  · by_cases hs : IsSet xs m
    · have k1 := Lib.hid (tf_true hs)
      clear hs
      go_enter Try.func139, Try.ntmps139
      go_wp2_with (go_at_call 169; refine (l1Rises_any _ _ _ _ _ _ hI h0 hm).mono ?_; rw [k1.out]; rintro e w2 ⟨rfl, q, rfl⟩)
      go_ret
      exact ⟨ret_bool k1.out.symm, q, rfl⟩
    · have k1 := Lib.hid (tf_false hs)
      clear hs
      go_enter Try.func139, Try.ntmps139
      go_wp2_with (go_at_call 169; refine (l1Rises_any _ _ _ _ _ _ hI h0 hm).mono ?_; rw [k1.out]; rintro e w2 ⟨rfl, q, rfl⟩)
      go_ret
      exact ⟨ret_bool k1.out.symm, q, rfl⟩
  · go_enter Try.func139, Try.ntmps139
    go_wp2
    go_ret
    exact ⟨ret_bool (tf_false (fun h => by have := isSet_len h h0; have := HL.out; omega)).symm, 0, rfl⟩

/-- The vertices before k are right. -/
def VertOk (a : Ar) (k : Nat) : Prop := ∀ v, v < k → 0 ≤ gi a.own v ∧ gi a.own v ≤ 1 ∧ 1 ≤ (gr a.nxt v).length ∧ (gr a.nxt v).length ≤ 16 ∧ IsSet (gr a.nxt v) a.own.length
theorem VertOk.next {a : Ar} {k : Nat} (h : VertOk a k) (hk : 0 ≤ gi a.own k ∧ gi a.own k ≤ 1 ∧ 1 ≤ (gr a.nxt k).length ∧ (gr a.nxt k).length ≤ 16 ∧ IsSet (gr a.nxt k) a.own.length) : VertOk a (k + 1) := by
  intro v hv
  by_cases e : v = k
  · rw [e]; exact hk
  · exact h v (by omega)

end Go.Proofs.Ythdioaeekhkgcaa
