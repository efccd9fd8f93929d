/-
  Words for the exact laws' walks: facts carried from world to world.
-/
import Derived.Test.YtdbojkdfpkgfcaaLaw
import Derived.Deep.RegionHeld3
import Derived.Deep.DrawnRows
namespace Go.Proofs.Ytdbojkdfpkgfcaa
set_option linter.unusedVariables false
set_option linter.unusedSimpArgs false
open Go.RowKit
theorem own : ownKnob Try.prog.godebug = none := by kernel_rfl
theorem laid : laidOutB Try.prog = true := by kernel_rfl

theorem cell_b {w w' : World} {b o : Nat} {v : Value} (h : w.cell? ⟨b, o, none⟩ = some v) (hb : Below w.heap.size w w') : w'.cell? ⟨b, o, none⟩ = some v := by
  rw [hb.cell (World.block_lt_of_cell? w _ h)]; exact h

theorem drew_trans {w w' : World} (h : Below w.drew.heap.size w.drew w') : Below w.heap.size w w' := (below_drew w).trans h
/-- Outside the blocks from lo on, before hi, the world is as it was. -/
structure Outside (lo hi : Nat) (w w' : World) : Prop where
  os : w'.os = w.os
  tape : w'.tape = w.tape
  output : w'.output = w.output
  size : w.heap.size ≤ w'.heap.size
  block : ∀ k, k < w.heap.size → (k < lo ∨ hi ≤ k) → w'.heap[k]? = w.heap[k]?
theorem Outside.refl (lo hi : Nat) (w : World) : Outside lo hi w w := ⟨rfl, rfl, rfl, Nat.le_refl _, fun _ _ _ => rfl⟩
theorem Outside.trans {lo hi : Nat} {a b c : World} (h : Outside lo hi a b) (k : Outside lo hi b c) : Outside lo hi a c :=
  ⟨k.os.trans h.os, k.tape.trans h.tape, k.output.trans h.output, Nat.le_trans h.size k.size, fun i hi' ho => (k.block i (Nat.lt_of_lt_of_le hi' h.size) ho).trans (h.block i hi' ho)⟩
theorem Outside.mono {lo hi lo' hi' : Nat} {a b : World} (h : Outside lo hi a b) (h1 : lo' ≤ lo) (h2 : hi ≤ hi') : Outside lo' hi' a b :=
  ⟨h.os, h.tape, h.output, h.size, fun k hk ho => h.block k hk (by omega)⟩
theorem Below.outside {a b : World} (h : Below a.heap.size a b) (lo hi : Nat) : Outside lo hi a b := ⟨h.os, h.tape, h.output, h.size, fun k hk _ => h.block k hk⟩
theorem Outside.below {lo hi B : Nat} {a b : World} (h : Outside lo hi a b) (hB : B ≤ lo ∧ B ≤ a.heap.size) : Below B a b := ⟨h.os, h.tape, h.output, h.size, fun k hk => h.block k (by omega) (by omega)⟩
theorem Outside.set {lo hi : Nat} {a w : World} (h : Outside lo hi a w) {g k : Nat} (hg : lo ≤ g ∧ g < hi) (u : Value) : Outside lo hi a (w.setCell ⟨g, k, none⟩ u) :=
  h.trans ⟨rfl, rfl, rfl, by rw [World.size_setCell]; exact Nat.le_refl _, fun i hi' ho => Below.heap_setCell _ _ _ _ (fun e => by simp only at e; omega)⟩
theorem cell_o {lo hi : Nat} {w w' : World} {b o : Nat} {v : Value} (h : w.cell? ⟨b, o, none⟩ = some v) (hO : Outside lo hi w w') (hb : b < lo ∨ hi ≤ b) : w'.cell? ⟨b, o, none⟩ = some v := by
  have := World.block_lt_of_cell? w _ h
  rw [World.cell?_of_block (w := w) (hO.block b this hb)]; exact h
theorem Outside.kept {lo hi lo' hi' : Nat} {w w' : World} (hO : Outside lo hi w w') (hd : hi' ≤ lo ∨ hi ≤ lo') : Kept lo' hi' w w' := ⟨hO.size, fun g h1 h2 h3 => hO.block g h3 (by omega)⟩
theorem OwnI.out {lo hi lo' hi' : Nat} {w w' : World} {v : Value} {x : List Int} (h : OwnI lo' hi' w v x) (hO : Outside lo hi w w') (hd : hi' ≤ lo ∨ hi ≤ lo') : OwnI lo' hi' w' v x := h.kept (hO.kept hd)
theorem OwnP.out {lo hi lo' hi' : Nat} {w w' : World} {v : Value} {x : Pa} (h : OwnP lo' hi' w v x) (hO : Outside lo hi w w') (hd : hi' ≤ lo ∨ hi ≤ lo') : OwnP lo' hi' w' v x := h.kept (hO.kept hd)
theorem OwnII.out {lo hi lo' hi' : Nat} {w w' : World} {v : Value} {x : List (List Int)} (h : OwnII lo' hi' w v x) (hO : Outside lo hi w w') (hd : hi' ≤ lo ∨ hi ≤ lo') : OwnII lo' hi' w' v x := let ⟨vs, h⟩ := h; ⟨vs, h.kept (hO.kept hd)⟩
theorem OwnII.below {lo hi : Nat} {w w' : World} {v : Value} {x : List (List Int)} (h : OwnII lo hi w v x) (hb : Below w.heap.size w w') : OwnII lo hi w' v x := let ⟨vs, h⟩ := h; ⟨vs, h.below hb⟩
theorem OwnII.is {lo hi : Nat} {w : World} {v : Value} {x : List (List Int)} (h : OwnII lo hi w v x) : IsII w v x := let ⟨_, h⟩ := h; h.is

theorem IsP.form {w : World} {v : Value} {g : Pa} (h : IsP w v g) : ∃ s0 n0 c0 s1 n1 c1 s2 n2 c2, v = .agg #[.slice s0 n0 c0, .slice s1 n1 c1, .slice s2 n2 c2] := by
  obtain ⟨_, _, _, rfl, ⟨s1, n1, c1, rfl, _⟩, ⟨s2, n2, c2, rfl, _⟩, ⟨s3, n3, c3, rfl, _⟩⟩ := h
  exact ⟨_, _, _, _, _, _, _, _, _, rfl⟩
theorem IsI.form {w : World} {v : Value} {g : List Int} (h : IsI w v g) : ∃ s0 n0 c0, v = .slice s0 n0 c0 := let ⟨s, n, c, e, _⟩ := h; ⟨s, n, c, e⟩
theorem IsII.form {w : World} {v : Value} {g : List (List Int)} (h : IsII w v g) : ∃ s0 n0 c0, v = .slice s0 n0 c0 := let ⟨s, n, c, e, _⟩ := h; ⟨s, n, c, e⟩
theorem IsI.ints {w : World} {s : Option Addr} {n c : Nat} {g : List Int} (h : IsI w (.slice s n c) g) : Ints w s n c g := by
  obtain ⟨_, _, _, e, h⟩ := h
  simp only [Value.slice.injEq] at e
  obtain ⟨rfl, rfl, rfl⟩ := e
  exact h
theorem IsII.rws {w : World} {s : Option Addr} {n c : Nat} {g : List (List Int)} (h : IsII w (.slice s n c) g) : Rws w s n c g := by
  obtain ⟨_, _, _, e, h⟩ := h
  simp only [Value.slice.injEq] at e
  obtain ⟨rfl, rfl, rfl⟩ := e
  exact h
theorem IsI.len_le {w : World} {s : Option Addr} {n c : Nat} {g : List Int} (h : IsI w (.slice s n c) g) : n ≤ 9223372036854775807 := h.ints.max
theorem IsI.len_eq {w : World} {s : Option Addr} {n c : Nat} {g : List Int} (h : IsI w (.slice s n c) g) : g.length = n := h.ints.1
/-- A copy of a slice of numbers comes back. -/
def RetI' (w : World) (g : List Int) (e : Ending) (w' : World) : Prop := ∃ s n c, e = .returned (.slice s n c) ∧ OwnI w.heap.size w'.heap.size w' (.slice s n c) g ∧ Below w.heap.size w w'
theorem toI_any' {s : Option Addr} {n c : Nat} {g : List Int} {w : World} (h : IsI w (.slice s n c) g) (hn : n ≤ 1048576) : Calls Try.prog 30 #[.slice s n c] w (RetI' w g) :=
  (toI_any _ _ _ _ _ h.ints hn).mono fun _ _ ⟨_, sa, c, e, h1, h2⟩ => ⟨sa, n, c, e, h1, h2⟩
theorem eqI_any' {a b : Value} {x y : List Int} {w : World} (hx : IsI w a x) (hy : IsI w b y) : Calls Try.prog 32 #[a, b] w (Bb w (tf (x = y))) := by
  obtain ⟨_, _, _, rfl, h1⟩ := hx
  obtain ⟨_, _, _, rfl, h2⟩ := hy
  exact (eqI_any _ _ _ _ _ _ _ _ _ h1 h2).mono fun _ _ h => h.bb

/-! ### A region that draws its order: its operations read old memory, its calls make new blocks alone, and each hands back one value: one walk in the order of the text -/
def Grows (w w' : World) : Prop := Below w.heap.size w w'
theorem Grows.trans {a b c : World} (h : Grows a b) (k : Below b.heap.size b c) : Grows a c := Below.trans h (k.mono h.size)
theorem wp_region_grow {P : Program} {id : Nat} {Q : Exit → Act → World → Prop} {a : Act} {w : World} {l : List Oper} (hm : P.follows .mixedOrders = true) (hB : Region.lexB .any l.toArray = true)
    (h : wpQuiet P l.toArray (Grows w) (fun a' => ∀ w', Grows w w' → Q .normal a' w') l a) : (Code.region id l.toArray true).wp P Q a w :=
  wp_region_quiet (C := Grows w) hm hB (below_drew w) (by simpa using h)
theorem grow_cell {w : World} {b o : Nat} {v : Value} (h : w.cell? ⟨b, o, none⟩ = some v) : ∀ w', Grows w w' → w'.cell? ⟨b, o, none⟩ = some v := fun _ hw => cell_b h hw
theorem grow_call {P : Program} {f : FuncId} {args : Array Value} {W w : World} {v : Value} {R : Ending → World → Prop} (hw : Grows W w) (h : Calls P f args w R) (hr : ∀ e w', R e w' → e = .returned v ∧ Below w.heap.size w w') : Calls P f args w fun e w'' => e = .returned v ∧ Grows W w'' :=
  h.mono fun e w' hR => ⟨(hr e w' hR).1, hw.trans (hr e w' hR).2⟩

/-! ## Case splits inside a walk -/
theorem grow_call_b {P : Program} {f : FuncId} {args : Array Value} {W w : World} {p : Prop} {b : Bool} (hw : Grows W w) (h : Calls P f args w (Bb w (tf p))) (k : Hid (tf p = b)) : Calls P f args w fun e w'' => e = .returned (.bool b) ∧ Grows W w'' :=
  h.mono fun e w' hR => by have k' : tf p = b := k; rw [k'] at hR; exact ⟨hR.1, hw.trans hR.2⟩
theorem grow_call_s {P : Program} {f : FuncId} {args : Array Value} {W w : World} {p : Prop} {b : Bool} (hw : Grows W w) (h : Calls P f args w fun e w' => e = .returned (.bool (tf p)) ∧ w = w') (k : Hid (tf p = b)) : Calls P f args w fun e w'' => e = .returned (.bool b) ∧ Grows W w'' :=
  h.mono fun e w' hR => by have k' : tf p = b := k; rw [k'] at hR; exact ⟨hR.1, hR.2 ▸ hw⟩
theorem tf_cases (p : Prop) : (Hid (tf p = true) ∧ Hid p) ∨ (Hid (tf p = false) ∧ Hid (¬ p)) := by
  by_cases h : p
  · exact Or.inl ⟨tf_true h, h⟩
  · exact Or.inr ⟨tf_false h, h⟩
theorem dec_cases (p : Prop) [Decidable p] : (decide p = true ∧ p) ∨ (decide p = false ∧ ¬ p) := by
  by_cases h : p
  · exact Or.inl ⟨by simp [h], h⟩
  · exact Or.inr ⟨by simp [h], h⟩
theorem mono_split {P : Program} {f : FuncId} {args : Array Value} {w : World} {p : Prop} {G : Bool → Ending → World → Prop} {K : Ending → World → Prop} (h : Calls P f args w (G (tf p))) (ht : Hid p → ∀ e w', G true e w' → K e w') (hf : Hid (¬ p) → ∀ e w', G false e w' → K e w') : Calls P f args w K := by
  by_cases hp : p
  · rw [tf_true hp] at h; exact h.mono (ht hp)
  · rw [tf_false hp] at h; exact h.mono (hf hp)
theorem mono_split_s {P : Program} {f : FuncId} {args : Array Value} {w : World} {p : Prop} {K : Ending → World → Prop} (h : Calls P f args w fun e w' => e = .returned (.bool (tf p)) ∧ w = w') (ht : Hid p → ∀ e w', e = .returned (.bool true) ∧ w = w' → K e w') (hf : Hid (¬ p) → ∀ e w', e = .returned (.bool false) ∧ w = w' → K e w') : Calls P f args w K := by
  by_cases hp : p
  · rw [tf_true hp] at h; exact h.mono (ht hp)
  · rw [tf_false hp] at h; exact h.mono (hf hp)
end Go.Proofs.Ytdbojkdfpkgfcaa
