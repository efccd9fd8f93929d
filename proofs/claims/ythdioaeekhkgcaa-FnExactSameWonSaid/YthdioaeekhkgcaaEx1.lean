/-
  The exact laws' helpers: sizes, copies, comparisons of numbers, lists, arenas, games.
-/
import Derived.Test.YthdioaeekhkgcaaOwn
import Derived.Deep.RegionHeld3
import Derived.Deep.DrawnRows
namespace Go.Proofs.Ythdioaeekhkgcaa
set_option linter.unusedVariables false
set_option linter.unusedSimpArgs false
open Go.RowKit

/-! ### sizes -/
def psum (xss : List (List Int)) : Nat → Nat
  | 0 => 0
  | k + 1 => psum xss k + (gr xss k).length
theorem psum_mono (xss : List (List Int)) {j k : Nat} (h : j ≤ k) : psum xss j ≤ psum xss k := by
  induction k with
  | zero => have : j = 0 := by omega
            subst this; exact Nat.le_refl _
  | succ k ih =>
    by_cases e : j = k + 1
    · subst e; exact Nat.le_refl _
    · have := ih (by omega); simp only [psum]; omega
def szII (xss : List (List Int)) : Nat := xss.length + psum xss xss.length
def szA (a : Ar) : Nat := a.own.length + szII a.nxt
def szP (g : Pa) : Nat := szA g.ar + g.prio.length
/-- What is left, -1: nothing. -/
def lft (l : Int) (n : Nat) : Int := if l < n then -1 else l - n
theorem lft_ok {l : Int} {n : Nat} (h : (n : Int) ≤ l) : lft l n = l - n := if_neg (by omega)
theorem lft_no {l : Int} {n : Nat} (h : l < (n : Int)) : lft l n = -1 := if_pos h

set_option maxHeartbeats 400000 in
theorem szI_any (sa : Option Addr) (n c : Nat) (l : Int) (w : World) (hn : n ≤ 9223372036854775807) (h0 : 0 ≤ l) (hl : l ≤ 1048576) :
    Calls Try.prog 64 #[.slice sa n c, .int .i64 l] w fun e w' => e = .returned (.int .i64 (lft l n)) ∧ w = w' := by
  go_enter Try.func64, Try.ntmps64
  go_wp2
  all_goals go_ret
  all_goals exact ⟨ret_int (by unfold lft; split <;> omega), rfl⟩

set_option maxHeartbeats 400000 in
theorem szII_any (sa : Option Addr) (n c : Nat) (xss : List (List Int)) (l : Int) (w : World) (hR : Rws w sa n c xss) (h0 : 0 ≤ l) (hl : l ≤ 1048576) :
    Calls Try.prog 132 #[.slice sa n c, .int .i64 l] w fun e w' => e = .returned (.int .i64 (lft l (szII xss))) ∧ w = w' := by
  have hmax := hR.max
  have HL := Lib.hid hR.len
  by_cases hn : l < n
  · go_enter Try.func132, Try.ntmps132
    go_wp2
    all_goals go_ret
    all_goals exact ⟨ret_int (by rw [lft_no]; unfold szII; rw [HL.out]; omega), rfl⟩
  · go_enter Try.func132, Try.ntmps132
    go_wp2
    go_loop [1, 5] (fun l' i => ∃ k : Nat, k ≤ n ∧ i = .int .i64 k ∧ (n : Int) + psum xss k ≤ l ∧ l' = .int .i64 (l - n - psum xss k)) (fun _ i => n - (intOf i).toNat)
    case atStart => exact ⟨0, by omega, rfl, by simp only [psum]; omega, by simp only [psum]; congr 1; omega⟩
    case round =>
      obtain ⟨k, hk, rfl, hp, rfl⟩ := hrel
      by_cases hlt : k < n
      · obtain ⟨b, o, rfl, hb, A, L, C, hc⟩ := hR.get hlt
        obtain ⟨hck, hI⟩ := hc k hlt
        have hm := hI.max
        have hs : psum xss (k + 1) = psum xss k + L k := by simp only [psum]; rw [hI.1]
        have HS := Lib.hid hs
        clear hc hs
        generalize hq : psum xss k = q at *
        have HQ := Lib.hid hq
        clear hq
        by_cases hfit : (n : Int) + q + L k ≤ l
        · have hz := lft_ok (l := l - n - q) (n := L k) (by omega)
          go_wp2_with (go_at_call 64; refine (szI_any _ _ _ _ _ hm (by omega) (by omega)).mono ?_; rw [hz]; rintro e w' ⟨rfl, rfl⟩)
          go_round
          case rel => exact ⟨k + 1, by omega, by go_num, by rw [HS.out]; omega, by rw [HS.out]; congr 1; omega⟩
          case measure => simp [intOf]; omega
        · have hz := lft_no (l := l - n - q) (n := L k) (by omega)
          go_wp2_with (go_at_call 64; refine (szI_any _ _ _ _ _ hm (by omega) (by omega)).mono ?_; rw [hz]; rintro e w' ⟨rfl, rfl⟩)
          go_ret
          exact ⟨ret_int (by rw [lft_no]; unfold szII; rw [HL.out]; have := psum_mono xss (j := k + 1) (k := n) (by omega); have := HS.out; omega), rfl⟩
      · go_wp2
        go_ret
        have e : k = n := by omega
        subst e
        exact ⟨ret_int (by rw [lft_ok]; · unfold szII; rw [HL.out]; omega
                           · unfold szII; rw [HL.out]; omega), rfl⟩

set_option maxHeartbeats 400000 in
theorem szA_any (v : Value) (a : Ar) (l : Int) (w : World) (hA : IsA w v a) (h0 : 0 ≤ l) (hl : l ≤ 1048576) :
    Calls Try.prog 63 #[v, .int .i64 l] w fun e w' => e = .returned (.int .i64 (lft l (szA a))) ∧ Below w.heap.size w w' := by
  obtain ⟨_, _, rfl, ⟨s1, n1, c1, rfl, h1⟩, ⟨s2, n2, c2, rfl, h2⟩⟩ := hA
  have hm1 := h1.max
  have HL := Lib.hid h1.1
  by_cases hf : (n1 : Int) ≤ l
  · have hz := lft_ok hf
    by_cases hg : (n1 : Int) + szII a.nxt ≤ l
    · have hz2 := lft_ok (l := l - n1) (n := szII a.nxt) (by omega)
      go_enter Try.func63, Try.ntmps63
      go_wp2_with (first | (go_at_call 64; refine (szI_any _ _ _ _ _ hm1 (by omega) (by omega)).mono ?_; rw [hz]; rintro e w' ⟨rfl, rfl⟩) | (go_at_call 132; refine (szII_any _ _ _ _ _ _ (h2.alloc _) (by omega) (by omega)).mono ?_; rw [hz2]; rintro e w' ⟨rfl, rfl⟩))
      go_ret
      exact ⟨ret_int (by rw [lft_ok]; · unfold szA; rw [HL.out]; omega
                         · unfold szA; rw [HL.out]; omega), below_alloc _ _⟩
    · have hz2 := lft_no (l := l - n1) (n := szII a.nxt) (by omega)
      go_enter Try.func63, Try.ntmps63
      go_wp2_with (first | (go_at_call 64; refine (szI_any _ _ _ _ _ hm1 (by omega) (by omega)).mono ?_; rw [hz]; rintro e w' ⟨rfl, rfl⟩) | (go_at_call 132; refine (szII_any _ _ _ _ _ _ (h2.alloc _) (by omega) (by omega)).mono ?_; rw [hz2]; rintro e w' ⟨rfl, rfl⟩))
      go_ret
      exact ⟨ret_int (by rw [lft_no]; unfold szA; rw [HL.out]; omega), below_alloc _ _⟩
  · have hz := lft_no (l := l) (n := n1) (by omega)
    go_enter Try.func63, Try.ntmps63
    go_wp2_with (go_at_call 64; refine (szI_any _ _ _ _ _ hm1 (by omega) (by omega)).mono ?_; rw [hz]; rintro e w' ⟨rfl, rfl⟩)
    go_ret
    exact ⟨ret_int (by rw [lft_no]; unfold szA; rw [HL.out]; omega), below_alloc _ _⟩
end Go.Proofs.Ythdioaeekhkgcaa
