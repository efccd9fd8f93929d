/-
  What a call owns: a slice in new memory that reads as a list; append, make, store on it.
-/
import Derived.Test.YthdioaeekhkgcaaBase
namespace Go.Proofs.Ythdioaeekhkgcaa
set_option linter.unusedVariables false
set_option linter.unusedSimpArgs false
open Go.RowKit

theorem Try.infoI : (Try.prog.info? 2).map (fun i => (i.zero, i.size, i.bytes)) = some (some (.int .i64 0), 1, 8) := by kernel_rfl
theorem Try.infoB : (Try.prog.info? 4).map (fun i => (i.zero, i.size, i.bytes)) = some (some (.bool false), 1, 1) := by kernel_rfl
theorem Try.infoS : (Try.prog.info? 22).map (fun i => (i.zero, i.size, i.bytes)) = some (some (.slice none 0 0), 1, 24) := by kernel_rfl

/-- The block of a slice value. -/
abbrev blk (v : Value) : Option Nat := v.ownBlock

/-- v is a slice of cells vs in one block from lo on and before hi, at its head, or nil; it may be written. -/
def OwnV (e : TypeId) (lo hi : Nat) (w : World) (v : Value) (vs : List Value) : Prop :=
  (v = .slice none 0 0 ∧ vs = []) ∨
  ∃ g cap cur, v = .slice (some ⟨g, 0, none⟩) vs.length cap ∧ lo ≤ g ∧ g < hi ∧ w.heap[g]? = some (.cells cur e (0, 0)) ∧ vs.length ≤ cap ∧ cap ≤ maxLen ∧ cur.size = cap ∧ cur.toList.take vs.length = vs

theorem OwnV.row {e : TypeId} {lo hi : Nat} {w : World} {v : Value} {vs : List Value} (h : OwnV e lo hi w v vs) : w.ownsRow lo e 1 v vs.length vs := by
  refine ⟨by omega, ?_⟩
  rcases h with ⟨rfl, rfl⟩ | ⟨g, cap, cur, rfl, h1, _, h2, h3, h4, h5, h6⟩
  · exact .inl ⟨rfl, rfl⟩
  · exact .inr ⟨g, cap, cur, rfl, h1, h2, h3, h4, by omega, by rw [Nat.mul_one]; exact h6⟩

theorem ownV_of_row {e : TypeId} {lo n : Nat} {w : World} {v : Value} {vs : List Value} (h : w.ownsRow lo e 1 v n vs) : OwnV e lo w.heap.size w v vs := by
  obtain ⟨hl, h⟩ := h
  have hl' : vs.length = n := by omega
  subst hl'
  rcases h with ⟨rfl, h0⟩ | ⟨g, cap, cur, rfl, h1, h2, h3, h4, h5, h6⟩
  · exact .inl ⟨rfl, List.eq_nil_of_length_eq_zero h0⟩
  · exact .inr ⟨g, cap, cur, rfl, h1, (Array.getElem?_eq_some_iff.1 h2).1, h2, h3, h4, by omega, by rw [Nat.mul_one] at h6; exact h6⟩

theorem OwnV.keep {e : TypeId} {lo hi : Nat} {w w' : World} {v : Value} {vs : List Value} (h : OwnV e lo hi w v vs) (hk : ∀ g, blk v = some g → w'.heap[g]? = w.heap[g]?) : OwnV e lo hi w' v vs := by
  rcases h with h | ⟨g, cap, cur, rfl, h1, h1', h2, h3⟩
  · exact .inl h
  · exact .inr ⟨g, cap, cur, rfl, h1, h1', (hk g rfl).trans h2, h3⟩
theorem OwnV.lt {e : TypeId} {lo hi : Nat} {w : World} {v : Value} {vs : List Value} (h : OwnV e lo hi w v vs) : ∀ g, blk v = some g → lo ≤ g ∧ g < hi ∧ g < w.heap.size := by
  intro g hg
  rcases h with ⟨rfl, _⟩ | ⟨g', cap, cur, rfl, h1, h1', h2, h3⟩
  · simp [blk, Value.ownBlock] at hg
  · simp [blk, Value.ownBlock] at hg
    subst hg
    exact ⟨h1, h1', (Array.getElem?_eq_some_iff.1 h2).1⟩
theorem OwnV.below {e : TypeId} {lo hi : Nat} {w w' : World} {v : Value} {vs : List Value} (h : OwnV e lo hi w v vs) (hb : Below w.heap.size w w') : OwnV e lo hi w' v vs :=
  h.keep fun g hg => hb.block g (h.lt g hg).2.2
theorem OwnV.mono {e : TypeId} {lo hi lo' hi' : Nat} {w : World} {v : Value} {vs : List Value} (h : OwnV e lo hi w v vs) (hl : lo' ≤ lo) (hh : hi ≤ hi') : OwnV e lo' hi' w v vs := by
  rcases h with h | ⟨g, cap, cur, rfl, h1, h1', h2, h3⟩
  · exact .inl h
  · exact .inr ⟨g, cap, cur, rfl, by omega, by omega, h2, h3⟩
theorem OwnV.top {e : TypeId} {lo hi : Nat} {w : World} {v : Value} {vs : List Value} (h : OwnV e lo hi w v vs) : OwnV e lo w.heap.size w v vs := by
  rcases h with h | ⟨g, cap, cur, rfl, h1, h1', h2, h3⟩
  · exact .inl h
  · exact .inr ⟨g, cap, cur, rfl, h1, (Array.getElem?_eq_some_iff.1 h2).1, h2, h3⟩
theorem OwnV.alloc {e : TypeId} {lo hi : Nat} {w : World} {v : Value} {vs : List Value} (h : OwnV e lo hi w v vs) (o : Obj) : OwnV e lo hi (w.alloc o) v vs := h.below (below_alloc w o)
theorem OwnV.drew {e : TypeId} {lo hi : Nat} {w : World} {v : Value} {vs : List Value} (h : OwnV e lo hi w v vs) : OwnV e lo hi w.drew v vs := h.below (below_drew w)
theorem ownV_nil (e : TypeId) (lo hi : Nat) (w : World) : OwnV e lo hi w (.slice none 0 0) [] := .inl ⟨rfl, rfl⟩

/-- What an owned slice reads as. -/
theorem OwnV.form {e : TypeId} {lo hi : Nat} {w : World} {v : Value} {vs : List Value} (h : OwnV e lo hi w v vs) (d : Value) : ∃ sa c, v = .slice sa vs.length c ∧ Cells w sa vs.length c fun k => vs.getD k d := by
  rcases h with ⟨rfl, rfl⟩ | ⟨g, cap, cur, rfl, h1, h1', h2, h3, h4, h5, h6⟩
  · exact ⟨none, 0, rfl, cells_nil w _⟩
  · unfold maxLen at h4
    refine ⟨some ⟨g, 0, none⟩, cap, rfl, ⟨h3, by omega, fun h => (by cases h), fun ad h _ => (by cases h; rfl), fun ad h k hk => ?_⟩⟩
    cases h
    rw [cell_of_row w g _ cur e (0, 0) h2]
    simp only [Nat.zero_add]
    have hk' : cur.toList[k]? = vs[k]? := by
      have := congrArg (·[k]?) h6
      simpa [List.getElem?_take, hk] using this
    rw [← Array.getElem?_toList, hk', List.getD_eq_getElem?_getD, List.getElem?_eq_getElem hk]
    rfl
/-- At an index: the block, the cell's mark. -/
theorem OwnV.at {e : TypeId} {lo hi : Nat} {w : World} {v : Value} {vs : List Value} (h : OwnV e lo hi w v vs) (d : Value) {k : Nat} (hk : k < vs.length) :
    ∃ g cap, v = .slice (some ⟨g, 0, none⟩) vs.length cap ∧ lo ≤ g ∧ g < hi ∧ g < w.heap.size ∧ (∀ k, k < vs.length → w.cell? ⟨g, k, none⟩ = some (vs.getD k d)) ∧ ∀ k, w.frozen? ⟨g, k, none⟩ = false := by
  obtain ⟨sa, c, hv, hc⟩ := h.form d
  rcases h with ⟨rfl, rfl⟩ | ⟨g, cap, cur, rfl, h1, h1', h2, h3, h4, h5, h6⟩
  · simp at hk
  · simp only [Value.slice.injEq, true_and] at hv
    obtain ⟨rfl, rfl⟩ := hv
    exact ⟨g, cap, rfl, h1, h1', (Array.getElem?_eq_some_iff.1 h2).1, fun k hk => by have := hc.cell _ rfl k hk; simpa using this, fun k => by simp [World.frozen?, h2]⟩

theorem OwnV.set {e : TypeId} {lo hi : Nat} {w : World} {g n cap : Nat} {vs : List Value} (h : OwnV e lo hi w (.slice (some ⟨g, 0, none⟩) n cap) vs) (k : Nat) (u : Value) :
    OwnV e lo hi (w.setCell ⟨g, k, none⟩ u) (.slice (some ⟨g, 0, none⟩) n cap) (vs.set k u) := by
  rcases h with ⟨h, _⟩ | ⟨g', cap', cur, h0, h1, h1', h2, h3, h4, h5, h6⟩
  · cases h
  · simp only [Value.slice.injEq, Option.some.injEq, Addr.mk.injEq, and_true] at h0
    obtain ⟨rfl, rfl, rfl⟩ := h0
    refine .inr ⟨g, cap, cur.setIfInBounds k u, by rw [List.length_set], h1, h1', ?_, by rw [List.length_set]; exact h3, h4, by rw [Array.size_setIfInBounds]; exact h5, ?_⟩
    · simp [World.setCell, Array.getElem?_modify, h2]
    · rw [List.length_set, Array.toList_setIfInBounds, List.take_set, h6]

theorem below_set {B : Nat} {a w : World} (h : Below B a w) {g k : Nat} (hp : B ≤ g) (u : Value) : Below B a (w.setCell ⟨g, k, none⟩ u) := h.setCell (p := ⟨g, k, none⟩) hp u
theorem OwnV.other {e : TypeId} {lo hi : Nat} {w : World} {v : Value} {vs : List Value} (h : OwnV e lo hi w v vs) {g : Nat} (hne : blk v ≠ some g) (k : Nat) (u : Value) : OwnV e lo hi (w.setCell ⟨g, k, none⟩ u) v vs :=
  h.keep fun g' hg => Below.heap_setCell _ _ _ _ (fun e => hne (by rw [hg]; exact congrArg some e))

/-- A list by a function. -/
def tab (n : Nat) (f : Nat → Int) : List Int := (List.range n).map f
def tabb (n : Nat) (f : Nat → Bool) : List Bool := (List.range n).map f
@[simp] theorem tab_len (n : Nat) (f : Nat → Int) : (tab n f).length = n := by simp [tab]
@[simp] theorem tabb_len (n : Nat) (f : Nat → Bool) : (tabb n f).length = n := by simp [tabb]
theorem gi_tab {n k : Nat} (f : Nat → Int) (h : k < n) : gi (tab n f) k = f k := by simp [gi, tab, List.getD, h]
theorem gb_tabb {n k : Nat} (f : Nat → Bool) (h : k < n) : gb (tabb n f) k = f k := by simp [gb, tabb, List.getD, h]
theorem eq_tab {xs : List Int} {n : Nat} {f : Nat → Int} (hl : xs.length = n) (h : ∀ k, k < n → gi xs k = f k) : xs = tab n f :=
  ext_gi (by simp [hl]) fun k hk => by rw [h k (by omega), gi_tab f (by omega)]
theorem eq_tabb {xs : List Bool} {n : Nat} {f : Nat → Bool} (hl : xs.length = n) (h : ∀ k, k < n → gb xs k = f k) : xs = tabb n f :=
  ext_gb (by simp [hl]) fun k hk => by rw [h k (by omega), gb_tabb f (by omega)]
theorem gi_set {xs : List Int} {k j : Nat} {x : Int} (hk : k < xs.length) : gi (xs.set k x) j = if j = k then x else gi xs j := by
  simp only [gi, List.getD_eq_getElem?_getD, List.getElem?_set]
  by_cases e : k = j
  · subst e; simp [hk]
  · rw [if_neg e, if_neg (fun h => e h.symm)]
theorem gb_set {xs : List Bool} {k j : Nat} {x : Bool} (hk : k < xs.length) : gb (xs.set k x) j = if j = k then x else gb xs j := by
  simp only [gb, List.getD_eq_getElem?_getD, List.getElem?_set]
  by_cases e : k = j
  · subst e; simp [hk]
  · rw [if_neg e, if_neg (fun h => e h.symm)]
theorem gr_set {xs : List (List Int)} {k j : Nat} {x : List Int} (hk : k < xs.length) : gr (xs.set k x) j = if j = k then x else gr xs j := by
  simp only [gr, List.getD_eq_getElem?_getD, List.getElem?_set]
  by_cases e : k = j
  · subst e; simp [hk]
  · rw [if_neg e, if_neg (fun h => e h.symm)]
theorem tab_set {n k : Nat} {f : Nat → Int} {x : Int} (hk : k < n) : (tab n f).set k x = tab n fun i => if i = k then x else f i :=
  eq_tab (by simp) fun j hj => by rw [gi_set (by simpa using hk), gi_tab f hj]
theorem tabb_set {n k : Nat} {f : Nat → Bool} {x : Bool} (hk : k < n) : (tabb n f).set k x = tabb n fun i => if i = k then x else f i :=
  eq_tabb (by simp) fun j hj => by rw [gb_set (by simpa using hk), gb_tabb f hj]

/-! ### Numbers, Bools -/
def OwnI (lo hi : Nat) (w : World) (v : Value) (xs : List Int) : Prop := OwnV 2 lo hi w v (xs.map (.int .i64))
def OwnB (lo hi : Nat) (w : World) (v : Value) (xs : List Bool) : Prop := OwnV 4 lo hi w v (xs.map .bool)
theorem getD_ints (xs : List Int) (k : Nat) : (xs.map (Value.int .i64)).getD k (.int .i64 0) = .int .i64 (gi xs k) := by
  simp only [gi, List.getD_eq_getElem?_getD, List.getElem?_map]
  cases xs[k]? <;> rfl
theorem getD_bools (xs : List Bool) (k : Nat) : (xs.map Value.bool).getD k (.bool false) = .bool (gb xs k) := by
  simp only [gb, List.getD_eq_getElem?_getD, List.getElem?_map]
  cases xs[k]? <;> rfl
theorem OwnI.is {lo hi : Nat} {w : World} {v : Value} {xs : List Int} (h : OwnI lo hi w v xs) : IsI w v xs := by
  obtain ⟨sa, c, hv, hc⟩ := h.form (.int .i64 0)
  rw [List.length_map] at hv hc
  exact ⟨sa, _, c, hv, rfl, by simpa only [getD_ints] using hc⟩
theorem OwnB.is {lo hi : Nat} {w : World} {v : Value} {xs : List Bool} (h : OwnB lo hi w v xs) : IsB w v xs := by
  obtain ⟨sa, c, hv, hc⟩ := h.form (.bool false)
  rw [List.length_map] at hv hc
  exact ⟨sa, _, c, hv, rfl, by simpa only [getD_bools] using hc⟩
theorem OwnI.below {lo hi : Nat} {w w' : World} {v : Value} {xs : List Int} (h : OwnI lo hi w v xs) (hb : Below w.heap.size w w') : OwnI lo hi w' v xs := OwnV.below h hb
theorem OwnB.below {lo hi : Nat} {w w' : World} {v : Value} {xs : List Bool} (h : OwnB lo hi w v xs) (hb : Below w.heap.size w w') : OwnB lo hi w' v xs := OwnV.below h hb
theorem OwnI.alloc {lo hi : Nat} {w : World} {v : Value} {xs : List Int} (h : OwnI lo hi w v xs) (o : Obj) : OwnI lo hi (w.alloc o) v xs := OwnV.alloc h o
theorem OwnB.alloc {lo hi : Nat} {w : World} {v : Value} {xs : List Bool} (h : OwnB lo hi w v xs) (o : Obj) : OwnB lo hi (w.alloc o) v xs := OwnV.alloc h o
theorem OwnI.drew {lo hi : Nat} {w : World} {v : Value} {xs : List Int} (h : OwnI lo hi w v xs) : OwnI lo hi w.drew v xs := OwnV.drew h
theorem OwnB.drew {lo hi : Nat} {w : World} {v : Value} {xs : List Bool} (h : OwnB lo hi w v xs) : OwnB lo hi w.drew v xs := OwnV.drew h
theorem OwnI.mono {lo hi lo' hi' : Nat} {w : World} {v : Value} {xs : List Int} (h : OwnI lo hi w v xs) (hl : lo' ≤ lo) (hh : hi ≤ hi') : OwnI lo' hi' w v xs := OwnV.mono h hl hh
theorem OwnB.mono {lo hi lo' hi' : Nat} {w : World} {v : Value} {xs : List Bool} (h : OwnB lo hi w v xs) (hl : lo' ≤ lo) (hh : hi ≤ hi') : OwnB lo' hi' w v xs := OwnV.mono h hl hh
theorem OwnI.top {lo hi : Nat} {w : World} {v : Value} {xs : List Int} (h : OwnI lo hi w v xs) : OwnI lo w.heap.size w v xs := OwnV.top h
theorem OwnB.top {lo hi : Nat} {w : World} {v : Value} {xs : List Bool} (h : OwnB lo hi w v xs) : OwnB lo w.heap.size w v xs := OwnV.top h
theorem OwnI.at {lo hi : Nat} {w : World} {v : Value} {xs : List Int} (h : OwnI lo hi w v xs) {k : Nat} (hk : k < xs.length) :
    ∃ g cap, v = .slice (some ⟨g, 0, none⟩) xs.length cap ∧ lo ≤ g ∧ g < hi ∧ g < w.heap.size ∧ (∀ k, k < xs.length → w.cell? ⟨g, k, none⟩ = some (.int .i64 (gi xs k))) ∧ ∀ k, w.frozen? ⟨g, k, none⟩ = false := by
  have := OwnV.at h (.int .i64 0) (k := k) (by simpa using hk)
  simpa only [List.length_map, getD_ints] using this
theorem OwnB.at {lo hi : Nat} {w : World} {v : Value} {xs : List Bool} (h : OwnB lo hi w v xs) {k : Nat} (hk : k < xs.length) :
    ∃ g cap, v = .slice (some ⟨g, 0, none⟩) xs.length cap ∧ lo ≤ g ∧ g < hi ∧ g < w.heap.size ∧ (∀ k, k < xs.length → w.cell? ⟨g, k, none⟩ = some (.bool (gb xs k))) ∧ ∀ k, w.frozen? ⟨g, k, none⟩ = false := by
  have := OwnV.at h (.bool false) (k := k) (by simpa using hk)
  simpa only [List.length_map, getD_bools] using this
theorem OwnI.set {lo hi : Nat} {w : World} {g n cap : Nat} {xs : List Int} (h : OwnI lo hi w (.slice (some ⟨g, 0, none⟩) n cap) xs) (k : Nat) (x : Int) :
    OwnI lo hi (w.setCell ⟨g, k, none⟩ (.int .i64 x)) (.slice (some ⟨g, 0, none⟩) n cap) (xs.set k x) := by
  have := OwnV.set h k (.int .i64 x)
  rwa [← List.map_set] at this
theorem OwnB.set {lo hi : Nat} {w : World} {g n cap : Nat} {xs : List Bool} (h : OwnB lo hi w (.slice (some ⟨g, 0, none⟩) n cap) xs) (k : Nat) (x : Bool) :
    OwnB lo hi (w.setCell ⟨g, k, none⟩ (.bool x)) (.slice (some ⟨g, 0, none⟩) n cap) (xs.set k x) := by
  have := OwnV.set h k (.bool x)
  rwa [← List.map_set] at this
theorem OwnI.len {lo hi : Nat} {w : World} {sa : Option Addr} {n cap : Nat} {xs : List Int} (h : OwnI lo hi w (.slice sa n cap) xs) : xs.length = n := by
  obtain ⟨sa', n', c', e, h1, _⟩ := h.is
  simp only [Value.slice.injEq] at e
  omega
theorem OwnB.len {lo hi : Nat} {w : World} {sa : Option Addr} {n cap : Nat} {xs : List Bool} (h : OwnB lo hi w (.slice sa n cap) xs) : xs.length = n := by
  obtain ⟨sa', n', c', e, h1, _⟩ := h.is
  simp only [Value.slice.injEq] at e
  omega
theorem made_ints (n : Nat) : (madeCells #[Value.int .i64 0] n).toList = (tab n fun _ => 0).map (.int .i64) := by
  simp [madeCells, tab, Nat.mod_one]
theorem made_bools (n : Nat) : (madeCells #[Value.bool false] n).toList = (tabb n fun _ => false).map .bool := by
  simp [madeCells, tabb, Nat.mod_one]
theorem OwnI.cell {lo hi : Nat} {w : World} {g n cap : Nat} {xs : List Int} (h : OwnI lo hi w (.slice (some ⟨g, 0, none⟩) n cap) xs) {k : Nat} (hk : k < n) :
    w.cell? ⟨g, k, none⟩ = some (.int .i64 (gi xs k)) ∧ w.frozen? ⟨g, k, none⟩ = false ∧ lo ≤ g ∧ g < w.heap.size := by
  have hl := h.len
  obtain ⟨g', cap', e, h1, _, h2, h3, h4⟩ := h.at (k := k) (by omega)
  simp only [Value.slice.injEq, Option.some.injEq, Addr.mk.injEq, and_true] at e
  obtain ⟨rfl, _, rfl⟩ := e
  exact ⟨h3 k (by omega), h4 k, h1, h2⟩
theorem OwnB.cell {lo hi : Nat} {w : World} {g n cap : Nat} {xs : List Bool} (h : OwnB lo hi w (.slice (some ⟨g, 0, none⟩) n cap) xs) {k : Nat} (hk : k < n) :
    w.cell? ⟨g, k, none⟩ = some (.bool (gb xs k)) ∧ w.frozen? ⟨g, k, none⟩ = false ∧ lo ≤ g ∧ g < w.heap.size := by
  have hl := h.len
  obtain ⟨g', cap', e, h1, _, h2, h3, h4⟩ := h.at (k := k) (by omega)
  simp only [Value.slice.injEq, Option.some.injEq, Addr.mk.injEq, and_true] at e
  obtain ⟨rfl, _, rfl⟩ := e
  exact ⟨h3 k (by omega), h4 k, h1, h2⟩
theorem tab_congr {n : Nat} {f g : Nat → Int} (h : ∀ k, k < n → f k = g k) : tab n f = tab n g := eq_tab (by simp) fun k hk => by rw [gi_tab f hk, h k hk]
theorem tabb_congr {n : Nat} {f g : Nat → Bool} (h : ∀ k, k < n → f k = g k) : tabb n f = tabb n g := eq_tabb (by simp) fun k hk => by rw [gb_tabb f hk, h k hk]
theorem tab_fill {n k : Nat} {f : Nat → Int} {d : Nat → Int} (hk : k < n) : (tab n fun j => if j < k then f j else d j).set k (f k) = tab n fun j => if j < k + 1 then f j else d j := by
  rw [tab_set hk]
  refine tab_congr fun j hj => ?_
  by_cases e : j = k
  · subst e; simp
  · rw [if_neg e]; by_cases h : j < k
    · rw [if_pos h, if_pos (by omega)]
    · rw [if_neg h, if_neg (by omega)]
theorem tabb_fill {n k : Nat} {f : Nat → Bool} {d : Nat → Bool} (hk : k < n) : (tabb n fun j => if j < k then f j else d j).set k (f k) = tabb n fun j => if j < k + 1 then f j else d j := by
  rw [tabb_set hk]
  refine tabb_congr fun j hj => ?_
  by_cases e : j = k
  · subst e; simp
  · rw [if_neg e]; by_cases h : j < k
    · rw [if_pos h, if_pos (by omega)]
    · rw [if_neg h, if_neg (by omega)]
theorem tab_self (xs : List Int) : tab xs.length (gi xs) = xs := (eq_tab rfl fun _ _ => rfl).symm
theorem tabb_self (xs : List Bool) : tabb xs.length (gb xs) = xs := (eq_tabb rfl fun _ _ => rfl).symm

/-- What a call returns: a new slice of n numbers, of n Bools. -/
def RetI (w : World) (n : Nat) (xs : List Int) (e : Ending) (w' : World) : Prop :=
  xs.length = n ∧ ∃ sa c, e = .returned (.slice sa n c) ∧ OwnI w.heap.size w'.heap.size w' (.slice sa n c) xs ∧ Below w.heap.size w w'
def RetB (w : World) (n : Nat) (xs : List Bool) (e : Ending) (w' : World) : Prop :=
  xs.length = n ∧ ∃ sa c, e = .returned (.slice sa n c) ∧ OwnB w.heap.size w'.heap.size w' (.slice sa n c) xs ∧ Below w.heap.size w w'

/-! ### Slices of slices, arenas, games -/
def OwnR (lo hi : Nat) (w : World) (v : Value) (xss : List (List Int)) (vs : List Value) : Prop :=
  vs.length = xss.length ∧ OwnV 22 lo hi w v vs ∧ (∀ k, k < xss.length → OwnI lo hi w (vs.getD k (.slice none 0 0)) (gr xss k)) ∧ (vs.filterMap blk).Nodup
def OwnII (lo hi : Nat) (w : World) (v : Value) (xss : List (List Int)) : Prop := ∃ vs, OwnR lo hi w v xss vs
def OwnA (lo hi : Nat) (w : World) (v : Value) (a : Ar) : Prop := ∃ vo vn vs, v = .agg #[vo, vn] ∧ OwnI lo hi w vo a.own ∧ OwnR lo hi w vn a.nxt vs ∧ ((vo :: vs).filterMap blk).Nodup
def OwnP (lo hi : Nat) (w : World) (v : Value) (g : Pa) : Prop := ∃ vo vn vp vs, v = .agg #[vo, vn, vp] ∧ OwnI lo hi w vo g.ar.own ∧ OwnR lo hi w vn g.ar.nxt vs ∧ OwnI lo hi w vp g.prio ∧ ((vo :: vp :: vs).filterMap blk).Nodup
theorem OwnR.below {lo hi : Nat} {w w' : World} {v : Value} {xss : List (List Int)} {vs : List Value} (h : OwnR lo hi w v xss vs) (hb : Below w.heap.size w w') : OwnR lo hi w' v xss vs :=
  ⟨h.1, h.2.1.below hb, fun k hk => (h.2.2.1 k hk).below hb, h.2.2.2⟩
theorem OwnR.mono {lo hi lo' hi' : Nat} {w : World} {v : Value} {xss : List (List Int)} {vs : List Value} (h : OwnR lo hi w v xss vs) (hl : lo' ≤ lo) (hh : hi ≤ hi') : OwnR lo' hi' w v xss vs :=
  ⟨h.1, h.2.1.mono hl hh, fun k hk => (h.2.2.1 k hk).mono hl hh, h.2.2.2⟩
theorem OwnR.top {lo hi : Nat} {w : World} {v : Value} {xss : List (List Int)} {vs : List Value} (h : OwnR lo hi w v xss vs) : OwnR lo w.heap.size w v xss vs :=
  ⟨h.1, h.2.1.top, fun k hk => (h.2.2.1 k hk).top, h.2.2.2⟩
theorem OwnR.is {lo hi : Nat} {w : World} {v : Value} {xss : List (List Int)} {vs : List Value} (h : OwnR lo hi w v xss vs) : IsII w v xss := by
  obtain ⟨h1, h2, h3, _⟩ := h
  obtain ⟨sa, c, hv, hc⟩ := h2.form (.slice none 0 0)
  rw [h1] at hv hc
  have each : ∀ k, ∃ y : Option Addr × Nat × Nat, k < xss.length → vs.getD k (.slice none 0 0) = .slice y.1 y.2.1 y.2.2 ∧ Ints w y.1 y.2.1 y.2.2 (gr xss k) := by
    intro k
    by_cases hk : k < xss.length
    · obtain ⟨a, n, c, e, hi⟩ := (h3 k hk).is
      exact ⟨(a, n, c), fun _ => ⟨e, hi⟩⟩
    · exact ⟨(none, 0, 0), fun h => absurd h hk⟩
  refine ⟨sa, _, c, hv, rfl, fun k => (Classical.choose (each k)).1, fun k => (Classical.choose (each k)).2.1, fun k => (Classical.choose (each k)).2.2, ⟨hc.cap, hc.max, hc.nil, hc.spot, fun ad ha k hk => ?_⟩, fun k hk => ((Classical.choose_spec (each k)) hk).2⟩
  rw [hc.cell ad ha k hk]
  exact congrArg some ((Classical.choose_spec (each k)) hk).1
theorem OwnA.is {lo hi : Nat} {w : World} {v : Value} {a : Ar} (h : OwnA lo hi w v a) : IsA w v a := let ⟨vo, vn, _, e, h1, h2, _⟩ := h; ⟨vo, vn, e, h1.is, h2.is⟩
theorem OwnP.is {lo hi : Nat} {w : World} {v : Value} {a : Pa} (h : OwnP lo hi w v a) : IsP w v a := let ⟨vo, vn, vp, _, e, h1, h2, h3, _⟩ := h; ⟨vo, vn, vp, e, h1.is, h2.is, h3.is⟩
theorem OwnA.below {lo hi : Nat} {w w' : World} {v : Value} {a : Ar} (h : OwnA lo hi w v a) (hb : Below w.heap.size w w') : OwnA lo hi w' v a := let ⟨vo, vn, vs, e, h1, h2, h3⟩ := h; ⟨vo, vn, vs, e, h1.below hb, h2.below hb, h3⟩
theorem OwnP.below {lo hi : Nat} {w w' : World} {v : Value} {a : Pa} (h : OwnP lo hi w v a) (hb : Below w.heap.size w w') : OwnP lo hi w' v a := let ⟨vo, vn, vp, vs, e, h1, h2, h3, h4⟩ := h; ⟨vo, vn, vp, vs, e, h1.below hb, h2.below hb, h3.below hb, h4⟩
theorem OwnA.mono {lo hi lo' hi' : Nat} {w : World} {v : Value} {a : Ar} (h : OwnA lo hi w v a) (hl : lo' ≤ lo) (hh : hi ≤ hi') : OwnA lo' hi' w v a := let ⟨vo, vn, vs, e, h1, h2, h3⟩ := h; ⟨vo, vn, vs, e, h1.mono hl hh, h2.mono hl hh, h3⟩
theorem OwnP.mono {lo hi lo' hi' : Nat} {w : World} {v : Value} {a : Pa} (h : OwnP lo hi w v a) (hl : lo' ≤ lo) (hh : hi ≤ hi') : OwnP lo' hi' w v a := let ⟨vo, vn, vp, vs, e, h1, h2, h3, h4⟩ := h; ⟨vo, vn, vp, vs, e, h1.mono hl hh, h2.mono hl hh, h3.mono hl hh, h4⟩
theorem OwnA.top {lo hi : Nat} {w : World} {v : Value} {a : Ar} (h : OwnA lo hi w v a) : OwnA lo w.heap.size w v a := let ⟨vo, vn, vs, e, h1, h2, h3⟩ := h; ⟨vo, vn, vs, e, h1.top, h2.top, h3⟩
theorem OwnP.top {lo hi : Nat} {w : World} {v : Value} {a : Pa} (h : OwnP lo hi w v a) : OwnP lo w.heap.size w v a := let ⟨vo, vn, vp, vs, e, h1, h2, h3, h4⟩ := h; ⟨vo, vn, vp, vs, e, h1.top, h2.top, h3.top, h4⟩
theorem OwnI.blks {lo hi : Nat} {w : World} {v : Value} {xs : List Int} (h : OwnI lo hi w v xs) : ∀ g, blk v = some g → lo ≤ g ∧ g < hi := fun g hg => ⟨(OwnV.lt h g hg).1, (OwnV.lt h g hg).2.1⟩
theorem OwnR.blks {lo hi : Nat} {w : World} {v : Value} {xss : List (List Int)} {vs : List Value} (h : OwnR lo hi w v xss vs) : ∀ g, g ∈ vs.filterMap blk → lo ≤ g ∧ g < hi := by
  intro g hg
  obtain ⟨u, hu, e⟩ := List.mem_filterMap.1 hg
  obtain ⟨k, hk, e2⟩ := List.getElem_of_mem hu
  have := h.2.2.1 k (by rw [← h.1]; exact hk)
  rw [List.getD_eq_getElem?_getD, List.getElem?_eq_getElem hk] at this
  simp only [Option.getD_some, e2] at this
  exact this.blks g e
/-- The blocks from lo on, before hi, that there were are as they were. -/
def Kept (lo hi : Nat) (w w' : World) : Prop := w.heap.size ≤ w'.heap.size ∧ ∀ g, lo ≤ g → g < hi → g < w.heap.size → w'.heap[g]? = w.heap[g]?
theorem Kept.refl (lo hi : Nat) (w : World) : Kept lo hi w w := ⟨Nat.le_refl _, fun _ _ _ _ => rfl⟩
theorem Kept.trans {lo hi : Nat} {a b c : World} (h : Kept lo hi a b) (k : Kept lo hi b c) : Kept lo hi a c :=
  ⟨Nat.le_trans h.1 k.1, fun g h1 h2 h3 => (k.2 g h1 h2 (Nat.lt_of_lt_of_le h3 h.1)).trans (h.2 g h1 h2 h3)⟩
theorem Kept.below {lo hi : Nat} {a b c : World} (h : Kept lo hi a b) (k : Below b.heap.size b c) : Kept lo hi a c :=
  h.trans ⟨k.size, fun g _ _ h3 => k.block g h3⟩
theorem Kept.alloc {lo hi : Nat} {a b : World} (h : Kept lo hi a b) (o : Obj) : Kept lo hi a (b.alloc o) := h.below (below_alloc b o)
theorem Kept.drew {lo hi : Nat} {a b : World} (h : Kept lo hi a b) : Kept lo hi a b.drew := h.below (below_drew b)
theorem Kept.drewN {lo hi : Nat} {a b : World} (h : Kept lo hi a b) (m : Nat) : Kept lo hi a (b.drewN m) := h.below (below_drewN b m)
theorem Kept.set {lo hi : Nat} {a b : World} (h : Kept lo hi a b) {g k : Nat} (hg : g < lo ∨ hi ≤ g) (u : Value) : Kept lo hi a (b.setCell ⟨g, k, none⟩ u) :=
  h.trans ⟨by rw [World.size_setCell]; exact Nat.le_refl _, fun g' h1 h2 h3 => Below.heap_setCell _ _ _ _ (fun e => by simp only at e; omega)⟩
theorem OwnV.kept {e : TypeId} {lo hi : Nat} {w w' : World} {v : Value} {vs : List Value} (h : OwnV e lo hi w v vs) (hk : Kept lo hi w w') : OwnV e lo hi w' v vs :=
  h.keep fun g hg => by have := h.lt g hg; exact hk.2 g this.1 this.2.1 this.2.2
theorem OwnI.final {lo hi lo' : Nat} {w W : World} {v : Value} {xs : List Int} (h : OwnI lo hi w v xs) (hk : Kept lo hi w W) (hl : lo' ≤ lo) : OwnI lo' W.heap.size W v xs := OwnI.mono (OwnI.top (OwnV.kept h hk)) hl (Nat.le_refl _)
theorem OwnB.final {lo hi lo' : Nat} {w W : World} {v : Value} {xs : List Bool} (h : OwnB lo hi w v xs) (hk : Kept lo hi w W) (hl : lo' ≤ lo) : OwnB lo' W.heap.size W v xs := OwnB.mono (OwnB.top (OwnV.kept h hk)) hl (Nat.le_refl _)
theorem OwnI.kept {lo hi : Nat} {w w' : World} {v : Value} {xs : List Int} (h : OwnI lo hi w v xs) (hk : Kept lo hi w w') : OwnI lo hi w' v xs := OwnV.kept h hk
theorem OwnB.kept {lo hi : Nat} {w w' : World} {v : Value} {xs : List Bool} (h : OwnB lo hi w v xs) (hk : Kept lo hi w w') : OwnB lo hi w' v xs := OwnV.kept h hk
theorem OwnR.kept {lo hi : Nat} {w w' : World} {v : Value} {xss : List (List Int)} {vs : List Value} (h : OwnR lo hi w v xss vs) (hk : Kept lo hi w w') : OwnR lo hi w' v xss vs :=
  ⟨h.1, h.2.1.kept hk, fun k h' => (h.2.2.1 k h').kept hk, h.2.2.2⟩
theorem OwnR.final {lo hi lo' : Nat} {w W : World} {v : Value} {xss : List (List Int)} {vs : List Value} (h : OwnR lo hi w v xss vs) (hk : Kept lo hi w W) (hl : lo' ≤ lo) : OwnR lo' W.heap.size W v xss vs := OwnR.mono (OwnR.top (h.kept hk)) hl (Nat.le_refl _)
theorem OwnA.kept {lo hi : Nat} {w w' : World} {v : Value} {a : Ar} (h : OwnA lo hi w v a) (hk : Kept lo hi w w') : OwnA lo hi w' v a := let ⟨vo, vn, vs, e, h1, h2, h3⟩ := h; ⟨vo, vn, vs, e, h1.kept hk, h2.kept hk, h3⟩
theorem OwnP.kept {lo hi : Nat} {w w' : World} {v : Value} {a : Pa} (h : OwnP lo hi w v a) (hk : Kept lo hi w w') : OwnP lo hi w' v a := let ⟨vo, vn, vp, vs, e, h1, h2, h3, h4⟩ := h; ⟨vo, vn, vp, vs, e, h1.kept hk, h2.kept hk, h3.kept hk, h4⟩
theorem OwnA.final {lo hi lo' : Nat} {w W : World} {v : Value} {a : Ar} (h : OwnA lo hi w v a) (hk : Kept lo hi w W) (hl : lo' ≤ lo) : OwnA lo' W.heap.size W v a := OwnA.mono (OwnA.top (h.kept hk)) hl (Nat.le_refl _)
theorem OwnP.final {lo hi lo' : Nat} {w W : World} {v : Value} {a : Pa} (h : OwnP lo hi w v a) (hk : Kept lo hi w W) (hl : lo' ≤ lo) : OwnP lo' W.heap.size W v a := OwnP.mono (OwnP.top (h.kept hk)) hl (Nat.le_refl _)
end Go.Proofs.Ythdioaeekhkgcaa
