/-
  Words for the exact laws' walks: facts carried from world to world.
-/
import Derived.Test.YtdbojkdfpkgfcaaLaw
import Derived.Deep.RegionHeld3
import Derived.Deep.DrawnRows
namespace Go.Proofs.Ytdbojkdfpkgfcaa
set_option linter.unusedVariables false
set_option linter.unusedSimpArgs false
open Go.RowKit
theorem own : ownKnob Try.prog.godebug = none := by kernel_rfl
theorem laid : laidOutB Try.prog = true := by kernel_rfl

theorem cell_b {w w' : World} {b o : Nat} {v : Value} (h : w.cell? ⟨b, o, none⟩ = some v) (hb : Below w.heap.size w w') : w'.cell? ⟨b, o, none⟩ = some v := by
  rw [hb.cell (World.block_lt_of_cell? w _ h)]; exact h

/-- Outside the blocks from lo on, before hi, the world is as it was. -/
structure Outside (lo hi : Nat) (w w' : World) : Prop where
  os : w'.os = w.os
  tape : w'.tape = w.tape
  output : w'.output = w.output
  size : w.heap.size ≤ w'.heap.size
  block : ∀ k, k < w.heap.size → (k < lo ∨ hi ≤ k) → w'.heap[k]? = w.heap[k]?
theorem Outside.refl (lo hi : Nat) (w : World) : Outside lo hi w w := ⟨rfl, rfl, rfl, Nat.le_refl _, fun _ _ _ => rfl⟩
theorem Outside.trans {lo hi : Nat} {a b c : World} (h : Outside lo hi a b) (k : Outside lo hi b c) : Outside lo hi a c :=
  ⟨k.os.trans h.os, k.tape.trans h.tape, k.output.trans h.output, Nat.le_trans h.size k.size, fun i hi' ho => (k.block i (Nat.lt_of_lt_of_le hi' h.size) ho).trans (h.block i hi' ho)⟩
theorem Outside.mono {lo hi lo' hi' : Nat} {a b : World} (h : Outside lo hi a b) (h1 : lo' ≤ lo) (h2 : hi ≤ hi') : Outside lo' hi' a b :=
  ⟨h.os, h.tape, h.output, h.size, fun k hk ho => h.block k hk (by omega)⟩
theorem Below.outside {a b : World} (h : Below a.heap.size a b) (lo hi : Nat) : Outside lo hi a b := ⟨h.os, h.tape, h.output, h.size, fun k hk _ => h.block k hk⟩
theorem Outside.below {lo hi B : Nat} {a b : World} (h : Outside lo hi a b) (hB : B ≤ lo ∧ B ≤ a.heap.size) : Below B a b := ⟨h.os, h.tape, h.output, h.size, fun k hk => h.block k (by omega) (by omega)⟩
theorem Outside.set {lo hi : Nat} {a w : World} (h : Outside lo hi a w) {g k : Nat} (hg : lo ≤ g ∧ g < hi) (u : Value) : Outside lo hi a (w.setCell ⟨g, k, none⟩ u) :=
  h.trans ⟨rfl, rfl, rfl, by rw [World.size_setCell]; exact Nat.le_refl _, fun i hi' ho => Below.heap_setCell _ _ _ _ (fun e => by simp only at e; omega)⟩
theorem cell_o {lo hi : Nat} {w w' : World} {b o : Nat} {v : Value} (h : w.cell? ⟨b, o, none⟩ = some v) (hO : Outside lo hi w w') (hb : b < lo ∨ hi ≤ b) : w'.cell? ⟨b, o, none⟩ = some v := by
  have := World.block_lt_of_cell? w _ h
  rw [World.cell?_of_block (w := w) (hO.block b this hb)]; exact h
theorem Outside.kept {lo hi lo' hi' : Nat} {w w' : World} (hO : Outside lo hi w w') (hd : hi' ≤ lo ∨ hi ≤ lo') : Kept lo' hi' w w' := ⟨hO.size, fun g h1 h2 h3 => hO.block g h3 (by omega)⟩
theorem OwnI.out {lo hi lo' hi' : Nat} {w w' : World} {v : Value} {x : List Int} (h : OwnI lo' hi' w v x) (hO : Outside lo hi w w') (hd : hi' ≤ lo ∨ hi ≤ lo') : OwnI lo' hi' w' v x := h.kept (hO.kept hd)
theorem OwnP.out {lo hi lo' hi' : Nat} {w w' : World} {v : Value} {x : Pa} (h : OwnP lo' hi' w v x) (hO : Outside lo hi w w') (hd : hi' ≤ lo ∨ hi ≤ lo') : OwnP lo' hi' w' v x := h.kept (hO.kept hd)
theorem OwnII.out {lo hi lo' hi' : Nat} {w w' : World} {v : Value} {x : List (List Int)} (h : OwnII lo' hi' w v x) (hO : Outside lo hi w w') (hd : hi' ≤ lo ∨ hi ≤ lo') : OwnII lo' hi' w' v x := let ⟨vs, h⟩ := h; ⟨vs, h.kept (hO.kept hd)⟩
theorem OwnII.below {lo hi : Nat} {w w' : World} {v : Value} {x : List (List Int)} (h : OwnII lo hi w v x) (hb : Below w.heap.size w w') : OwnII lo hi w' v x := let ⟨vs, h⟩ := h; ⟨vs, h.below hb⟩
theorem OwnII.is {lo hi : Nat} {w : World} {v : Value} {x : List (List Int)} (h : OwnII lo hi w v x) : IsII w v x := let ⟨_, h⟩ := h; h.is

theorem IsP.form {w : World} {v : Value} {g : Pa} (h : IsP w v g) : ∃ s0 n0 c0 s1 n1 c1 s2 n2 c2, v = .agg #[.slice s0 n0 c0, .slice s1 n1 c1, .slice s2 n2 c2] := by
  obtain ⟨_, _, _, rfl, ⟨s1, n1, c1, rfl, _⟩, ⟨s2, n2, c2, rfl, _⟩, ⟨s3, n3, c3, rfl, _⟩⟩ := h
  exact ⟨_, _, _, _, _, _, _, _, _, rfl⟩
theorem IsI.form {w : World} {v : Value} {g : List Int} (h : IsI w v g) : ∃ s0 n0 c0, v = .slice s0 n0 c0 := let ⟨s, n, c, e, _⟩ := h; ⟨s, n, c, e⟩
theorem IsII.form {w : World} {v : Value} {g : List (List Int)} (h : IsII w v g) : ∃ s0 n0 c0, v = .slice s0 n0 c0 := let ⟨s, n, c, e, _⟩ := h; ⟨s, n, c, e⟩
theorem IsI.ints {w : World} {s : Option Addr} {n c : Nat} {g : List Int} (h : IsI w (.slice s n c) g) : Ints w s n c g := by
  obtain ⟨_, _, _, e, h⟩ := h
  simp only [Value.slice.injEq] at e
  obtain ⟨rfl, rfl, rfl⟩ := e
  exact h
theorem IsII.rws {w : World} {s : Option Addr} {n c : Nat} {g : List (List Int)} (h : IsII w (.slice s n c) g) : Rws w s n c g := by
  obtain ⟨_, _, _, e, h⟩ := h
  simp only [Value.slice.injEq] at e
  obtain ⟨rfl, rfl, rfl⟩ := e
  exact h
theorem IsI.len_le {w : World} {s : Option Addr} {n c : Nat} {g : List Int} (h : IsI w (.slice s n c) g) : n ≤ 9223372036854775807 := h.ints.max
theorem IsI.len_eq {w : World} {s : Option Addr} {n c : Nat} {g : List Int} (h : IsI w (.slice s n c) g) : g.length = n := h.ints.1
/-- A copy of a slice of numbers comes back. -/
def RetI' (w : World) (g : List Int) (e : Ending) (w' : World) : Prop := ∃ s n c, e = .returned (.slice s n c) ∧ OwnI w.heap.size w'.heap.size w' (.slice s n c) g ∧ Below w.heap.size w w'
theorem toI_any' {s : Option Addr} {n c : Nat} {g : List Int} {w : World} (h : IsI w (.slice s n c) g) (hn : n ≤ 1048576) : Calls Try.prog 30 #[.slice s n c] w (RetI' w g) :=
  (toI_any _ _ _ _ _ h.ints hn).mono fun _ _ ⟨_, sa, c, e, h1, h2⟩ => ⟨sa, n, c, e, h1, h2⟩
theorem eqI_any' {a b : Value} {x y : List Int} {w : World} (hx : IsI w a x) (hy : IsI w b y) : Calls Try.prog 32 #[a, b] w (Bb w (tf (x = y))) := by
  obtain ⟨_, _, _, rfl, h1⟩ := hx
  obtain ⟨_, _, _, rfl, h2⟩ := hy
  exact (eqI_any _ _ _ _ _ _ _ _ _ h1 h2).mono fun _ _ h => h.bb
end Go.Proofs.Ytdbojkdfpkgfcaa
