/-
  Words for all walks: facts carried from world to world; the rules of make and append on a slice of the call's own.
-/
import Derived.Test.YthdioaeekhkgcaaEx3
import Derived.Laws.AppendOwnNone
namespace Go.Proofs.Ythdioaeekhkgcaa
set_option linter.unusedVariables false
set_option linter.unusedSimpArgs false
open Go.RowKit
def Bi (w : World) (x : Int) (e : Ending) (w' : World) : Prop := e = .returned (.int .i64 x) ∧ Below w.heap.size w w'
theorem cell_b {w w' : World} {b o : Nat} {v : Value} (h : w.cell? ⟨b, o, none⟩ = some v) (hb : Below w.heap.size w w') : w'.cell? ⟨b, o, none⟩ = some v := by
  rw [hb.cell (World.block_lt_of_cell? w _ h)]; exact h

theorem cell_l {B : Nat} {w w' : World} {b o : Nat} {v : Value} (h : w.cell? ⟨b, o, none⟩ = some v) (hb : Below B w w') (hl : b < B) : w'.cell? ⟨b, o, none⟩ = some v := by
  rw [hb.cell hl]; exact h
theorem drew_trans {w w' : World} (h : Below w.drew.heap.size w.drew w') : Below w.heap.size w w' := (below_drew w).trans h
/-- Outside the blocks from lo on, before hi, the world is as it was. -/
structure Outside (lo hi : Nat) (w w' : World) : Prop where
  os : w'.os = w.os
  tape : w'.tape = w.tape
  output : w'.output = w.output
  size : w.heap.size ≤ w'.heap.size
  block : ∀ k, k < w.heap.size → (k < lo ∨ hi ≤ k) → w'.heap[k]? = w.heap[k]?
theorem Outside.refl (lo hi : Nat) (w : World) : Outside lo hi w w := ⟨rfl, rfl, rfl, Nat.le_refl _, fun _ _ _ => rfl⟩
theorem Outside.trans {lo hi : Nat} {a b c : World} (h : Outside lo hi a b) (k : Outside lo hi b c) : Outside lo hi a c :=
  ⟨k.os.trans h.os, k.tape.trans h.tape, k.output.trans h.output, Nat.le_trans h.size k.size, fun i hi' ho => (k.block i (Nat.lt_of_lt_of_le hi' h.size) ho).trans (h.block i hi' ho)⟩
theorem Outside.mono {lo hi lo' hi' : Nat} {a b : World} (h : Outside lo hi a b) (h1 : lo' ≤ lo) (h2 : hi ≤ hi') : Outside lo' hi' a b :=
  ⟨h.os, h.tape, h.output, h.size, fun k hk ho => h.block k hk (by omega)⟩
theorem Below.outside {a b : World} (h : Below a.heap.size a b) (lo hi : Nat) : Outside lo hi a b := ⟨h.os, h.tape, h.output, h.size, fun k hk _ => h.block k hk⟩
theorem Outside.below {lo hi B : Nat} {a b : World} (h : Outside lo hi a b) (hB : B ≤ lo ∧ B ≤ a.heap.size) : Below B a b := ⟨h.os, h.tape, h.output, h.size, fun k hk => h.block k (by omega) (by omega)⟩
theorem Outside.set {lo hi : Nat} {a w : World} (h : Outside lo hi a w) {g k : Nat} (hg : lo ≤ g ∧ g < hi) (u : Value) : Outside lo hi a (w.setCell ⟨g, k, none⟩ u) :=
  h.trans ⟨rfl, rfl, rfl, by rw [World.size_setCell]; exact Nat.le_refl _, fun i hi' ho => Below.heap_setCell _ _ _ _ (fun e => by simp only at e; omega)⟩
theorem cell_o {lo hi : Nat} {w w' : World} {b o : Nat} {v : Value} (h : w.cell? ⟨b, o, none⟩ = some v) (hO : Outside lo hi w w') (hb : b < lo ∨ hi ≤ b) : w'.cell? ⟨b, o, none⟩ = some v := by
  have := World.block_lt_of_cell? w _ h
  rw [World.cell?_of_block (w := w) (hO.block b this hb)]; exact h
theorem Outside.kept {lo hi lo' hi' : Nat} {w w' : World} (hO : Outside lo hi w w') (hd : hi' ≤ lo ∨ hi ≤ lo') : Kept lo' hi' w w' := ⟨hO.size, fun g h1 h2 h3 => hO.block g h3 (by omega)⟩
theorem OwnI.out {lo hi lo' hi' : Nat} {w w' : World} {v : Value} {x : List Int} (h : OwnI lo' hi' w v x) (hO : Outside lo hi w w') (hd : hi' ≤ lo ∨ hi ≤ lo') : OwnI lo' hi' w' v x := h.kept (hO.kept hd)
theorem OwnP.out {lo hi lo' hi' : Nat} {w w' : World} {v : Value} {x : Pa} (h : OwnP lo' hi' w v x) (hO : Outside lo hi w w') (hd : hi' ≤ lo ∨ hi ≤ lo') : OwnP lo' hi' w' v x := h.kept (hO.kept hd)
theorem OwnII.out {lo hi lo' hi' : Nat} {w w' : World} {v : Value} {x : List (List Int)} (h : OwnII lo' hi' w v x) (hO : Outside lo hi w w') (hd : hi' ≤ lo ∨ hi ≤ lo') : OwnII lo' hi' w' v x := let ⟨vs, h⟩ := h; ⟨vs, h.kept (hO.kept hd)⟩
theorem OwnII.below {lo hi : Nat} {w w' : World} {v : Value} {x : List (List Int)} (h : OwnII lo hi w v x) (hb : Below w.heap.size w w') : OwnII lo hi w' v x := let ⟨vs, h⟩ := h; ⟨vs, h.below hb⟩
theorem OwnII.is {lo hi : Nat} {w : World} {v : Value} {x : List (List Int)} (h : OwnII lo hi w v x) : IsII w v x := let ⟨_, h⟩ := h; h.is

theorem IsP.form {w : World} {v : Value} {g : Pa} (h : IsP w v g) : ∃ s0 n0 c0 s1 n1 c1 s2 n2 c2, v = .agg #[.slice s0 n0 c0, .slice s1 n1 c1, .slice s2 n2 c2] := by
  obtain ⟨_, _, _, rfl, ⟨s1, n1, c1, rfl, _⟩, ⟨s2, n2, c2, rfl, _⟩, ⟨s3, n3, c3, rfl, _⟩⟩ := h
  exact ⟨_, _, _, _, _, _, _, _, _, rfl⟩
theorem IsI.form {w : World} {v : Value} {g : List Int} (h : IsI w v g) : ∃ s0 n0 c0, v = .slice s0 n0 c0 := let ⟨s, n, c, e, _⟩ := h; ⟨s, n, c, e⟩
theorem IsII.form {w : World} {v : Value} {g : List (List Int)} (h : IsII w v g) : ∃ s0 n0 c0, v = .slice s0 n0 c0 := let ⟨s, n, c, e, _⟩ := h; ⟨s, n, c, e⟩
theorem IsI.ints {w : World} {s : Option Addr} {n c : Nat} {g : List Int} (h : IsI w (.slice s n c) g) : Ints w s n c g := by
  obtain ⟨_, _, _, e, h⟩ := h
  simp only [Value.slice.injEq] at e
  obtain ⟨rfl, rfl, rfl⟩ := e
  exact h
theorem IsII.rws {w : World} {s : Option Addr} {n c : Nat} {g : List (List Int)} (h : IsII w (.slice s n c) g) : Rws w s n c g := by
  obtain ⟨_, _, _, e, h⟩ := h
  simp only [Value.slice.injEq] at e
  obtain ⟨rfl, rfl, rfl⟩ := e
  exact h
theorem IsI.len_le {w : World} {s : Option Addr} {n c : Nat} {g : List Int} (h : IsI w (.slice s n c) g) : n ≤ 9223372036854775807 := h.ints.max
theorem IsI.len_eq {w : World} {s : Option Addr} {n c : Nat} {g : List Int} (h : IsI w (.slice s n c) g) : g.length = n := h.ints.1
/-- A copy of a slice of numbers comes back. -/
def RetI' (w : World) (g : List Int) (e : Ending) (w' : World) : Prop := ∃ s n c, e = .returned (.slice s n c) ∧ OwnI w.heap.size w'.heap.size w' (.slice s n c) g ∧ Below w.heap.size w w'
/-! ### A region that draws its order: its operations read old memory, its calls make new blocks alone, and each hands back one value: one walk in the order of the text -/
def Grows (w w' : World) : Prop := Below w.heap.size w w'
theorem Grows.trans {a b c : World} (h : Grows a b) (k : Below b.heap.size b c) : Grows a c := Below.trans h (k.mono h.size)
theorem wp_region_grow {P : Program} {id : Nat} {Q : Exit → Act → World → Prop} {a : Act} {w : World} {l : List Oper} (hm : P.follows .mixedOrders = true) (hB : Region.lexB .any l.toArray = true)
    (h : wpQuiet P l.toArray (Grows w) (fun a' => ∀ w', Grows w w' → Q .normal a' w') l a) : (Code.region id l.toArray true).wp P Q a w :=
  wp_region_quiet (C := Grows w) hm hB (below_drew w) (by simpa using h)
theorem grow_cell {w : World} {b o : Nat} {v : Value} (h : w.cell? ⟨b, o, none⟩ = some v) : ∀ w', Grows w w' → w'.cell? ⟨b, o, none⟩ = some v := fun _ hw => cell_b h hw
theorem grow_call {P : Program} {f : FuncId} {args : Array Value} {W w : World} {v : Value} {R : Ending → World → Prop} (hw : Grows W w) (h : Calls P f args w R) (hr : ∀ e w', R e w' → e = .returned v ∧ Below w.heap.size w w') : Calls P f args w fun e w'' => e = .returned v ∧ Grows W w'' :=
  h.mono fun e w' hR => ⟨(hr e w' hR).1, hw.trans (hr e w' hR).2⟩

/-! ## Case splits inside a walk -/
theorem grow_call_b {P : Program} {f : FuncId} {args : Array Value} {W w : World} {p : Prop} {b : Bool} (hw : Grows W w) (h : Calls P f args w (Bb w (tf p))) (k : Hid (tf p = b)) : Calls P f args w fun e w'' => e = .returned (.bool b) ∧ Grows W w'' :=
  h.mono fun e w' hR => by have k' : tf p = b := k; rw [k'] at hR; exact ⟨hR.1, hw.trans hR.2⟩
theorem grow_call_s {P : Program} {f : FuncId} {args : Array Value} {W w : World} {p : Prop} {b : Bool} (hw : Grows W w) (h : Calls P f args w fun e w' => e = .returned (.bool (tf p)) ∧ w = w') (k : Hid (tf p = b)) : Calls P f args w fun e w'' => e = .returned (.bool b) ∧ Grows W w'' :=
  h.mono fun e w' hR => by have k' : tf p = b := k; rw [k'] at hR; exact ⟨hR.1, hR.2 ▸ hw⟩
theorem tf_cases (p : Prop) : (Hid (tf p = true) ∧ Hid p) ∨ (Hid (tf p = false) ∧ Hid (¬ p)) := by
  by_cases h : p
  · exact Or.inl ⟨tf_true h, h⟩
  · exact Or.inr ⟨tf_false h, h⟩
theorem dec_cases (p : Prop) [Decidable p] : (decide p = true ∧ p) ∨ (decide p = false ∧ ¬ p) := by
  by_cases h : p
  · exact Or.inl ⟨by simp [h], h⟩
  · exact Or.inr ⟨by simp [h], h⟩
theorem mono_split {P : Program} {f : FuncId} {args : Array Value} {w : World} {p : Prop} {G : Bool → Ending → World → Prop} {K : Ending → World → Prop} (h : Calls P f args w (G (tf p))) (ht : Hid p → ∀ e w', G true e w' → K e w') (hf : Hid (¬ p) → ∀ e w', G false e w' → K e w') : Calls P f args w K := by
  by_cases hp : p
  · rw [tf_true hp] at h; exact h.mono (ht hp)
  · rw [tf_false hp] at h; exact h.mono (hf hp)
theorem mono_split_s {P : Program} {f : FuncId} {args : Array Value} {w : World} {p : Prop} {K : Ending → World → Prop} (h : Calls P f args w fun e w' => e = .returned (.bool (tf p)) ∧ w = w') (ht : Hid p → ∀ e w', e = .returned (.bool true) ∧ w = w' → K e w') (hf : Hid (¬ p) → ∀ e w', e = .returned (.bool false) ∧ w = w' → K e w') : Calls P f args w K := by
  by_cases hp : p
  · rw [tf_true hp] at h; exact h.mono (ht hp)
  · rw [tf_false hp] at h; exact h.mono (hf hp)

/-! ### A block known whole: a local struct -/
def Blk (w : World) (B : Nat) (cs : List Value) (T : TypeId) : Prop := w.heap[B]? = some (.cells cs.toArray T (0, 0))
theorem Blk.cell {w : World} {B : Nat} {cs : List Value} {T : TypeId} (h : Blk w B cs T) (k : Nat) {v : Value} (hv : cs[k]? = some v) : w.cell? ⟨B, k, none⟩ = some v := by
  unfold Blk at h; simp [World.cell?, h, hv]
theorem Blk.free {w : World} {B : Nat} {cs : List Value} {T : TypeId} (h : Blk w B cs T) (k : Nat) : w.frozen? ⟨B, k, none⟩ = false := by
  unfold Blk at h; simp [World.frozen?, h]
theorem Blk.lt {w : World} {B : Nat} {cs : List Value} {T : TypeId} (h : Blk w B cs T) : B < w.heap.size := (Array.getElem?_eq_some_iff.1 h).1
theorem Blk.out {w w' : World} {B lo hi : Nat} {cs : List Value} {T : TypeId} (h : Blk w B cs T) (hO : Outside lo hi w w') (hd : B < lo ∨ hi ≤ B) : Blk w' B cs T := (hO.block B h.lt hd).trans h
theorem Blk.below {w w' : World} {B : Nat} {cs : List Value} {T : TypeId} (h : Blk w B cs T) (hb : Below w.heap.size w w') : Blk w' B cs T := (hb.block B h.lt).trans h
theorem Blk.bel {w w' : World} {B N : Nat} {cs : List Value} {T : TypeId} (h : Blk w B cs T) (hb : Below N w w') (hl : B < N) : Blk w' B cs T := (hb.block B hl).trans h
theorem Blk.alloc {w : World} {B : Nat} {cs : List Value} {T : TypeId} (h : Blk w B cs T) (o : Obj) : Blk (w.alloc o) B cs T := h.below (below_alloc w o)
theorem Blk.drew {w : World} {B : Nat} {cs : List Value} {T : TypeId} (h : Blk w B cs T) : Blk w.drew B cs T := h.below (below_drew w)
theorem Blk.set {w : World} {B : Nat} {cs : List Value} {T : TypeId} (h : Blk w B cs T) (k : Nat) (u : Value) : Blk (w.setCell ⟨B, k, none⟩ u) B (cs.set k u) T := by
  unfold Blk at h ⊢
  simp [World.setCell, Array.getElem?_modify, h]
theorem Blk.other {w : World} {B g : Nat} {cs : List Value} {T : TypeId} (h : Blk w B cs T) (hne : g ≠ B) (k : Nat) (u : Value) : Blk (w.setCell ⟨g, k, none⟩ u) B cs T :=
  (Below.heap_setCell _ _ _ _ (fun e => hne e.symm)).trans h
theorem blk_new (w : World) (cs : List Value) (T : TypeId) : Blk (w.alloc (.cells cs.toArray T)) w.heap.size cs T := heap_alloc_new _ _

/-! ### make, append -/
def RetB' (w : World) (g : List Bool) (e : Ending) (w' : World) : Prop := ∃ s n c, e = .returned (.slice s n c) ∧ OwnB w.heap.size w'.heap.size w' (.slice s n c) g ∧ Below w.heap.size w w'
theorem out_of_grown {e : TypeId} {lo hi : Nat} {w w' : World} {v : Value} {xs : List Value} (h : OwnV e lo hi w v xs) (hg : w.grownBy w' v.ownBlock) : Outside lo hi w w' :=
  ⟨hg.os, hg.tape, hg.output, hg.size, fun k hk ho => hg.block k hk (fun e => by have := h.lt k e.symm; omega)⟩
theorem bel_app {w wr w2 : World} {hi : Nat} {o : Obj} (hb : Below w.heap.size w wr) (hO : Outside w.heap.size hi (wr.alloc o) w2) : Below w.heap.size w w2 :=
  (hb.alloc hb.size o).trans (hO.below ⟨Nat.le_refl _, by have := hb.size; simp; omega⟩)
theorem bel_app2 {B : Nat} {w wr w2 : World} {lo hi : Nat} {o : Obj} (hb : Below B w wr) (hO : Outside lo hi (wr.alloc o) w2) (h1 : B ≤ lo) (h2 : B ≤ wr.heap.size) : Below B w w2 :=
  (hb.alloc h2 o).trans (hO.below ⟨h1, by simp; omega⟩)
theorem OwnI.off {lo hi : Nat} {w : World} {v : Value} {xs : List Int} (h : OwnI lo hi w v xs) {g : Nat} (hg : g < lo) (k : Nat) (u : Value) : OwnI lo hi (w.setCell ⟨g, k, none⟩ u) v xs :=
  OwnV.other h (fun e => by have := (OwnV.lt h _ e).1; omega) k u
theorem OwnB.off {lo hi : Nat} {w : World} {v : Value} {xs : List Bool} (h : OwnB lo hi w v xs) {g : Nat} (hg : g < lo) (k : Nat) (u : Value) : OwnB lo hi (w.setCell ⟨g, k, none⟩ u) v xs :=
  OwnV.other h (fun e => by have := (OwnV.lt h _ e).1; omega) k u
section
variable {w : World} {ops : Array Oper} {rest : List Oper} {o : Oper} {a : Act} {Q : Exit → Act → World → Prop}
theorem mk_ints (hg : o.guard = none) (l c : Operand) (hop : o.op = Op.makeSlice 22 l c) (kl kc : IntKind) (L C : Int) (n : Nat) (hl : a.eval l = .int kl L) (hc : a.eval c = .int kc C) (hL : L = (n : Int)) (hC : C = (n : Int)) (hn : n ≤ 1048576)
    (hK : ∀ w', OwnI w.heap.size w'.heap.size w' (.slice (some ⟨w.heap.size, 0, none⟩) n n) (tab n fun _ => 0) → Below w.heap.size w w' → w.heap.size < w'.heap.size → wpList Try.prog ops Q rest (a.put o.dst (.slice (some ⟨w.heap.size, 0, none⟩) n n)) w') :
    wpList Try.prog ops Q (o :: rest) a w := by
  obtain ⟨i0, hi, hz0, hz1, hz2⟩ := info_parts Try.infoI
  refine wpList_make_full _ hg l c 22 hop w.heap.size 2 i0 (.int .i64 0) 1 Try.underlying22 hi hz0 hz1 kl kc L C n hl hc hL hC (by rw [hz2]; omega) (by unfold maxLen; omega) (Nat.le_refl _) fun w1 hown hgrow => ?_
  rw [Nat.mul_one, show (Value.int .i64 0).cells = #[.int .i64 0] from rfl, made_ints] at hown
  exact hK w1 (ownV_of_row hown) ((Below.refl _ _).grown hgrow (Nat.le_refl _) (fun k h => by cases h)) (hown.lt _ rfl).2
theorem mk_bools (hg : o.guard = none) (l c : Operand) (hop : o.op = Op.makeSlice 89 l c) (kl kc : IntKind) (L C : Int) (n : Nat) (hl : a.eval l = .int kl L) (hc : a.eval c = .int kc C) (hL : L = (n : Int)) (hC : C = (n : Int)) (hn : n ≤ 1048576)
    (hK : ∀ w', OwnB w.heap.size w'.heap.size w' (.slice (some ⟨w.heap.size, 0, none⟩) n n) (tabb n fun _ => false) → Below w.heap.size w w' → w.heap.size < w'.heap.size → wpList Try.prog ops Q rest (a.put o.dst (.slice (some ⟨w.heap.size, 0, none⟩) n n)) w') :
    wpList Try.prog ops Q (o :: rest) a w := by
  obtain ⟨i0, hi, hz0, hz1, hz2⟩ := info_parts Try.infoB
  refine wpList_make_full _ hg l c 89 hop w.heap.size 4 i0 (.bool false) 1 Try.underlying89 hi hz0 hz1 kl kc L C n hl hc hL hC (by rw [hz2]; omega) (by unfold maxLen; omega) (Nat.le_refl _) fun w1 hown hgrow => ?_
  rw [Nat.mul_one, show (Value.bool false).cells = #[.bool false] from rfl, made_bools] at hown
  exact hK w1 (ownV_of_row hown) ((Below.refl _ _).grown hgrow (Nat.le_refl _) (fun k h => by cases h)) (hown.lt _ rfl).2

/-- append(s, x), one number. -/
theorem app_int (hg : o.guard = none) (s x : Operand) (hop : o.op = .call { callee := .builtin .append, args := #[s, x], argTypes := #[22, 22] })
    {lo hi : Nat} {v : Value} {xs : List Int} (hs : a.eval s = v) (hown : OwnI lo hi w v xs) (y : Int) (b c : Nat) (hx : a.eval x = .slice (some ⟨b, 0, none⟩) 1 c) (hcell : w.cell? ⟨b, 0, none⟩ = some (.int .i64 y))
    (hlen : xs.length ≤ 1048576) (hbase : lo ≤ w.heap.size)
    (hK : ∀ sa c' w', OwnI lo w'.heap.size w' (.slice sa (xs.length + 1) c') (xs ++ [y]) → Outside lo hi w w' → wpList Try.prog ops Q rest (a.put o.dst (.slice sa (xs.length + 1) c')) w') :
    wpList Try.prog ops Q (o :: rest) a w := by
  obtain ⟨i0, hi', hz0, hz1, hz2⟩ := info_parts Try.infoI
  refine wpList_append_own _ hg s x 22 hop lo 2 i0 (.int .i64 0) 1 8 Try.underlying22 hi' hz0 hz1 hz2 rfl (by decide) v xs.length (xs.map (.int .i64)) hs (by have := OwnV.row hown; rwa [List.length_map] at this) ⟨b, 0, none⟩ 1 c [.int .i64 y] hx rfl ?_ ?_ (by unfold maxLen; omega) (by omega) hbase ?_
  · intro j u hj
    match j, hj with
    | 0, hj => simp at hj; subst hj; simpa [Addr.add] using hcell
  · intro u hu; simp at hu; subst hu; rfl
  · intro v' w' h1 h2 _
    have h3 : OwnI lo w'.heap.size w' v' (xs ++ [y]) := by
      have := ownV_of_row h1
      rwa [show xs.map (Value.int .i64) ++ [.int .i64 y] = (xs ++ [y]).map (.int .i64) by simp] at this
    obtain ⟨sa, n', c', rfl, hI⟩ := h3.is
    have hn : n' = xs.length + 1 := by have := hI.1; simp at this; omega
    subst hn
    exact hK sa c' w' h3 (out_of_grown hown h2)

/-- append(s, x...), numbers. -/
theorem app_ints (hg : o.guard = none) (s x : Operand) (hop : o.op = .call { callee := .builtin .append, args := #[s, x], argTypes := #[22, 22] })
    {lo hi : Nat} {v : Value} {xs : List Int} (hs : a.eval s = v) (hown : OwnI lo hi w v xs) {sx : Option Addr} {m c : Nat} {ys : List Int} (hx : a.eval x = .slice sx m c) (hI : Ints w sx m c ys)
    (hlen : xs.length + m ≤ 1048576) (hbase : lo ≤ w.heap.size)
    (hK : ∀ sa c' w', OwnI lo w'.heap.size w' (.slice sa (xs.length + m) c') (xs ++ ys) → Outside lo hi w w' → wpList Try.prog ops Q rest (a.put o.dst (.slice sa (xs.length + m) c')) w') :
    wpList Try.prog ops Q (o :: rest) a w := by
  obtain ⟨i0, hi', hz0, hz1, hz2⟩ := info_parts Try.infoI
  have fin : ∀ v' w', w'.ownsRow lo 2 1 v' (xs.length + m) (xs.map (.int .i64) ++ ys.map (.int .i64)) → w.grownBy w' v.ownBlock → wpList Try.prog ops Q rest (a.put o.dst v') w' := by
    intro v' w' h1 h2
    have h3 : OwnI lo w'.heap.size w' v' (xs ++ ys) := by
      have := ownV_of_row h1
      rwa [← List.map_append] at this
    obtain ⟨sa, n', c', rfl, hJ⟩ := h3.is
    have hn : n' = xs.length + m := by have := hJ.1; simp at this; have := hI.1; omega
    subst hn
    exact hK sa c' w' h3 (out_of_grown hown h2)
  cases sx with
  | none =>
    obtain ⟨rfl, rfl⟩ := hI.2.nil rfl
    have hy : ys = [] := List.eq_nil_of_length_eq_zero hI.1
    subst hy
    refine wpList_append_own_none hg s x 22 hop lo 2 i0 1 Try.underlying22 hi' v xs.length (xs.map (.int .i64)) hs (by have := OwnV.row hown; rwa [List.length_map] at this) hx ?_
    have := fin v w (by have := OwnV.row hown; simpa using this) (World.grownBy.refl _ _)
    exact this
  | some ad =>
    refine wpList_append_own _ hg s x 22 hop lo 2 i0 (.int .i64 0) 1 8 Try.underlying22 hi' hz0 hz1 hz2 rfl (by decide) v xs.length (xs.map (.int .i64)) hs (by have := OwnV.row hown; rwa [List.length_map] at this) ad m c (ys.map (.int .i64)) hx (by simp [hI.1]) ?_ ?_ (by unfold maxLen; omega) (by omega) hbase ?_
    · intro j u hj
      have hj' : j < m := by
        rcases Nat.lt_or_ge j m with h | h
        · exact h
        · rw [List.getElem?_eq_none (by simp [hI.1]; omega)] at hj; cases hj
      have hsp := hI.2.spot ad rfl (by omega)
      have hc := hI.2.cell ad rfl j hj'
      have hu : u = .int .i64 (gi ys j) := by
        rw [List.getElem?_map, gi_eq (by rw [hI.1]; exact hj')] at hj
        simpa using hj.symm
      rw [hu]
      obtain ⟨b, off, sp⟩ := ad
      simp only at hsp
      subst hsp
      by_cases e : j = 0
      · subst e; simpa [Addr.add] using hc
      · simpa [Addr.add, e] using hc
    · intro u hu
      obtain ⟨z, _, rfl⟩ := List.mem_map.1 hu
      rfl
    · intro v' w' h1 h2 _
      exact fin v' w' h1 h2
end
theorem ne_cases (a b : Int) : ((a != b) = false ∧ (a == b) = true ∧ Hid (a = b)) ∨ ((a != b) = true ∧ (a == b) = false ∧ Hid (a ≠ b)) := by
  by_cases h : a = b
  · exact Or.inl ⟨by simp [h], by simp [h], h⟩
  · exact Or.inr ⟨by simp [h], by simp [h], h⟩
end Go.Proofs.Ythdioaeekhkgcaa
