/-
  The exact laws' marks: numbers written into what came back, and read again.
-/
import Derived.Test.YthdioaeekhkgcaaOps
namespace Go.Proofs.Ythdioaeekhkgcaa
set_option linter.unusedVariables false
set_option linter.unusedSimpArgs false
open Go.RowKit
attribute [local go_sem ↓] Go.wp_at_zero Go.wp_at_succ

theorem grown_set {w wr : World} {g k : Nat} (h : w.grownBy wr (some g)) (u : Value) : w.grownBy (wr.setCell ⟨g, k, none⟩ u) (some g) :=
  ⟨h.os, h.tape, h.output, by rw [World.size_setCell]; exact h.size, fun j hj hne => by rw [Below.heap_setCell _ _ _ _ (fun e => hne (by rw [e]))]; exact h.block j hj hne⟩
theorem grown_mono {w wr w2 : World} {b : Option Nat} (h : w.grownBy wr b) (k : wr.grownBy w2 b) : w.grownBy w2 b :=
  ⟨k.os.trans h.os, k.tape.trans h.tape, k.output.trans h.output, Nat.le_trans h.size k.size, fun j hj hne => (k.block j (Nat.lt_of_lt_of_le hj h.size) hne).trans (h.block j hj hne)⟩
theorem OwnV.grown {e : TypeId} {lo hi : Nat} {w w' : World} {v : Value} {vs : List Value} {b : Option Nat} (h : OwnV e lo hi w v vs) (hg : w.grownBy w' b) (hne : ∀ g, blk v = some g → b ≠ some g) : OwnV e lo hi w' v vs :=
  h.keep fun g hb => hg.block g (h.lt g hb).2.2 (fun e => hne g hb e.symm)
theorem OwnI.grown {lo hi : Nat} {w w' : World} {v : Value} {xs : List Int} {b : Option Nat} (h : OwnI lo hi w v xs) (hg : w.grownBy w' b) (hne : ∀ g, blk v = some g → b ≠ some g) : OwnI lo hi w' v xs := OwnV.grown h hg hne

/-- Some blocks alone are written. -/
structure Touch (B : Nat → Prop) (w w' : World) : Prop where
  os : w'.os = w.os
  tape : w'.tape = w.tape
  output : w'.output = w.output
  size : w.heap.size ≤ w'.heap.size
  block : ∀ k, k < w.heap.size → ¬ B k → w'.heap[k]? = w.heap[k]?
theorem Touch.refl (B : Nat → Prop) (w : World) : Touch B w w := ⟨rfl, rfl, rfl, Nat.le_refl _, fun _ _ _ => rfl⟩
theorem Touch.trans {B : Nat → Prop} {a b c : World} (h : Touch B a b) (k : Touch B b c) : Touch B a c :=
  ⟨k.os.trans h.os, k.tape.trans h.tape, k.output.trans h.output, Nat.le_trans h.size k.size, fun i hi hb => (k.block i (Nat.lt_of_lt_of_le hi h.size) hb).trans (h.block i hi hb)⟩
theorem Touch.mono {B B' : Nat → Prop} {a b : World} (h : Touch B a b) (hB : ∀ g, B g → B' g) : Touch B' a b := ⟨h.os, h.tape, h.output, h.size, fun k hk hb => h.block k hk fun h => hb (hB k h)⟩
theorem Touch.outside {B : Nat → Prop} {lo hi : Nat} {a b : World} (h : Touch B a b) (hB : ∀ g, B g → lo ≤ g ∧ g < hi) : Outside lo hi a b := ⟨h.os, h.tape, h.output, h.size, fun k hk ho => h.block k hk fun h => by have := hB k h; omega⟩
theorem touch_grown {w w' : World} {b : Option Nat} (h : w.grownBy w' b) : Touch (fun g => b = some g) w w' := ⟨h.os, h.tape, h.output, h.size, fun k hk hb => h.block k hk fun e => hb e.symm⟩
theorem touch_below {B : Nat → Prop} {w w' : World} (h : Below w.heap.size w w') : Touch B w w' := ⟨h.os, h.tape, h.output, h.size, fun k hk _ => h.block k hk⟩
theorem OwnV.touch {e : TypeId} {lo hi : Nat} {w w' : World} {v : Value} {vs : List Value} {B : Nat → Prop} (h : OwnV e lo hi w v vs) (hg : Touch B w w') (hne : ∀ g, blk v = some g → ¬ B g) : OwnV e lo hi w' v vs :=
  h.keep fun g hb => hg.block g (h.lt g hb).2.2 (hne g hb)
theorem OwnI.touch {lo hi : Nat} {w w' : World} {v : Value} {xs : List Int} {B : Nat → Prop} (h : OwnI lo hi w v xs) (hg : Touch B w w') (hne : ∀ g, blk v = some g → ¬ B g) : OwnI lo hi w' v xs := OwnV.touch h hg hne
theorem cell_t {B : Nat → Prop} {w w' : World} {b o : Nat} {v : Value} (h : w.cell? ⟨b, o, none⟩ = some v) (hO : Touch B w w') (hb : ¬ B b) : w'.cell? ⟨b, o, none⟩ = some v := by
  have := World.block_lt_of_cell? w _ h
  rw [World.cell?_of_block (w := w) (hO.block b this hb)]; exact h

/-- n numbers from k on. -/
def mkI (n : Nat) (k : Int) : List Int := tab n fun j => k + j
theorem mkI_len (n : Nat) (k : Int) : (mkI n k).length = n := tab_len _ _
theorem gi_mkI {n j : Nat} (k : Int) (h : j < n) : gi (mkI n k) j = k + j := gi_tab _ h

set_option maxHeartbeats 400000 in
theorem markI_any {lo hi : Nat} {w : World} {sa : Option Addr} {n c : Nat} {xs : List Int} (h : OwnI lo hi w (.slice sa n c) xs) (k : Int) (h0 : 0 ≤ k) (h1 : k ≤ 4611686018427387904) (hn : n ≤ 1048576) :
    Calls Try.prog 39 #[.slice sa n c, .int .i64 k] w fun e w' => e = .returned (.int .i64 (k + n)) ∧ OwnI lo hi w' (.slice sa n c) (mkI n k) ∧ w.grownBy w' (blk (.slice sa n c)) := by
  have hl := h.len
  go_enter Try.func39, Try.ntmps39
  go_wp2
  go_loopw [1, 5] (fun q i wr => ∃ j : Nat, j ≤ n ∧ i = .int .i64 j ∧ q = .int .i64 (k + j) ∧ OwnI lo hi wr (.slice sa n c) (tab n fun i => if i < j then k + i else gi xs i) ∧ w.grownBy wr (blk (.slice sa n c))) (fun _ i _ => n - (intOf i).toNat)
  case atStart =>
    refine ⟨0, by omega, rfl, by simp, ?_, World.grownBy.refl _ _⟩
    rw [tab_congr (g := gi xs) (fun j hj => if_neg (by omega))]
    rw [← hl] at h ⊢
    rwa [tab_self]
  case round =>
    obtain ⟨j, hj, rfl, rfl, ho, hg⟩ := hrel
    by_cases hlt : j < n
    · obtain ⟨g, cap, e, _⟩ := ho.at (k := j) (by simpa using hlt)
      injection e with e1 e2 e3
      clear e2
      subst e1 e3
      obtain ⟨q1, q2, q3, q4⟩ := ho.cell hlt
      go_wp2
      go_roundw
      case rel =>
        refine ⟨j + 1, by omega, by go_num, by congr 1; omega, ?_, grown_set hg _⟩
        have := OwnI.set ho j (k + j)
        rwa [tab_fill (f := fun i => k + i) (d := gi xs) hlt] at this
      case measure => simp [intOf]; omega
    · go_wp2
      go_ret
      have e : j = n := by omega
      subst e
      refine ⟨rfl, ?_, hg⟩
      rwa [tab_congr (g := fun i => k + (i : Int)) (fun i hi => if_pos hi)] at ho

set_option maxHeartbeats 400000 in
theorem heldI_any {w : World} {sa : Option Addr} {n c : Nat} (k : Int) (h : IsI w (.slice sa n c) (mkI n k)) (h0 : 0 ≤ k) (h1 : k ≤ 4611686018427387904) (hn : n ≤ 1048576) :
    Calls Try.prog 99 #[.slice sa n c, .int .i64 k] w fun e w' => e = .returned (.int .i64 (k + n)) ∧ w = w' := by
  have hI := h.ints
  clear h
  go_enter Try.func99, Try.ntmps99
  go_wp2
  go_loop [1, 5] (fun q i => ∃ j : Nat, j ≤ n ∧ i = .int .i64 j ∧ q = .int .i64 (k + j)) (fun _ i => n - (intOf i).toNat)
  case atStart => exact ⟨0, by omega, rfl, by simp⟩
  case round =>
    obtain ⟨j, hj, rfl, rfl⟩ := hrel
    by_cases hlt : j < n
    · obtain ⟨b, o, rfl, hbl, hc⟩ := hI.get hlt
      have hck := hc j hlt
      rw [gi_mkI k hlt] at hck
      clear hc
      go_wp2
      go_round
      case rel => exact ⟨j + 1, by omega, by go_num, by congr 1; omega⟩
      case measure => simp [intOf]; omega
    · go_wp2
      go_ret
      have e : j = n := by omega
      subst e
      exact ⟨rfl, rfl⟩

theorem markI_law {lo hi : Nat} {w : World} {sa : Option Addr} {n c : Nat} {xs : List Int} (h : OwnI lo hi w (.slice sa n c) xs) (k : Int) (h0 : 0 ≤ k) (h1 : k ≤ 4611686018427387904) (hn : n ≤ 1048576) :
    Calls Try.prog 39 #[.slice sa n c, .int .i64 k] w fun e w' => e = .returned (.int .i64 (k + n)) ∧ OwnI lo hi w' (.slice sa n c) (mkI n k) ∧ Outside lo hi w w' :=
  (markI_any h k h0 h1 hn).mono fun _ _ ⟨e, h2, h3⟩ => ⟨e, h2, out_of_grown h h3⟩
theorem heldI_law {w : World} {sa : Option Addr} {n c : Nat} (k : Int) (h : IsI w (.slice sa n c) (mkI n k)) (h0 : 0 ≤ k) (h1 : k ≤ 4611686018427387904) (hn : n ≤ 1048576) :
    Calls Try.prog 99 #[.slice sa n c, .int .i64 k] w (Bi w (k + n)) :=
  (heldI_any k h h0 h1 hn).mono fun _ _ ⟨e, h2⟩ => ⟨e, by rw [← h2]; exact Below.refl _ _⟩
end Go.Proofs.Ythdioaeekhkgcaa
