/-
  Words on memory: when a slice value reads as a list of numbers, as a list of lists; what a call owns; how these facts are kept.
-/
import Derived.Test.YthdioaeekhkgcaaRows
import Derived.WalkKit
import Derived.ProofKit
import Derived.OpenShut
import Derived.Deep.QuietTactic
import Derived.BigQuiet
import Derived.Lib.Hide
import Derived.StillTailTactics
namespace Go.Proofs.Ythdioaeekhkgcaa
set_option linter.unusedVariables false
set_option linter.unusedSimpArgs false
open Go.RowKit

/-- A sentence as a Bool. -/
noncomputable def tf (p : Prop) : Bool := @decide p (Classical.propDecidable p)
theorem tf_true {p : Prop} (h : p) : tf p = true := by unfold tf; simp [h]
theorem tf_false {p : Prop} (h : ¬ p) : tf p = false := by unfold tf; simp [h]
theorem tf_eq {p : Prop} : tf p = true ↔ p := by unfold tf; simp
theorem tf_ne {p : Prop} : tf p = false ↔ ¬ p := by unfold tf; simp
theorem tf_congr {p q : Prop} (h : p ↔ q) : tf p = tf q := by rw [propext h]

/-- An element of a list of numbers, of lists, of Bools; closed to simp. -/
def gi (xs : List Int) (k : Nat) : Int := xs.getD k 0
def gr (xss : List (List Int)) (k : Nat) : List Int := xss.getD k []
def gb (bs : List Bool) (k : Nat) : Bool := bs.getD k false

theorem gi_eq {xs : List Int} {k : Nat} (h : k < xs.length) : xs[k]? = some (gi xs k) := by simp [gi, List.getD, h]
theorem gr_eq {xs : List (List Int)} {k : Nat} (h : k < xs.length) : xs[k]? = some (gr xs k) := by simp [gr, List.getD, h]
theorem gb_eq {xs : List Bool} {k : Nat} (h : k < xs.length) : xs[k]? = some (gb xs k) := by simp [gb, List.getD, h]
theorem gi_get {xs : List Int} {k : Nat} (h : k < xs.length) : gi xs k = xs[k] := by simp [gi, List.getD, h]
theorem gr_get {xs : List (List Int)} {k : Nat} (h : k < xs.length) : gr xs k = xs[k] := by simp [gr, List.getD, h]
theorem gb_get {xs : List Bool} {k : Nat} (h : k < xs.length) : gb xs k = xs[k] := by simp [gb, List.getD, h]
theorem gi_out {xs : List Int} {k : Nat} (h : xs.length ≤ k) : gi xs k = 0 := by simp [gi, List.getD, h]
theorem gr_out {xs : List (List Int)} {k : Nat} (h : xs.length ≤ k) : gr xs k = [] := by simp [gr, List.getD, h]
theorem gi_mem {xs : List Int} {k : Nat} (h : k < xs.length) : gi xs k ∈ xs := by rw [gi_get h]; exact List.getElem_mem h
theorem gr_mem {xs : List (List Int)} {k : Nat} (h : k < xs.length) : gr xs k ∈ xs := by rw [gr_get h]; exact List.getElem_mem h
theorem mem_gi {xs : List Int} {x : Int} (h : x ∈ xs) : ∃ k, k < xs.length ∧ gi xs k = x := by
  obtain ⟨k, hk, e⟩ := List.getElem_of_mem h
  exact ⟨k, hk, by rw [gi_get hk, e]⟩
theorem ext_gi {xs ys : List Int} (hl : xs.length = ys.length) (h : ∀ k, k < xs.length → gi xs k = gi ys k) : xs = ys :=
  List.ext_getElem hl fun k h1 h2 => by have := h k h1; rwa [gi_get h1, gi_get h2] at this
theorem ext_gr {xs ys : List (List Int)} (hl : xs.length = ys.length) (h : ∀ k, k < xs.length → gr xs k = gr ys k) : xs = ys :=
  List.ext_getElem hl fun k h1 h2 => by have := h k h1; rwa [gr_get h1, gr_get h2] at this
theorem ext_gb {xs ys : List Bool} (hl : xs.length = ys.length) (h : ∀ k, k < xs.length → gb xs k = gb ys k) : xs = ys :=
  List.ext_getElem hl fun k h1 h2 => by have := h k h1; rwa [gb_get h1, gb_get h2] at this

theorem ret_bool {a b : Bool} (h : a = b) : Ending.returned (.bool a) = .returned (.bool b) := by rw [h]
theorem ret_int {k : IntKind} {a b : Int} (h : a = b) : Ending.returned (.int k a) = .returned (.int k b) := by rw [h]

/-! ### A slice of numbers, of Bools, of slices of numbers, read -/
/-- The slice value (sa, n, c) has in w the cells vs. -/
structure Cells (w : World) (sa : Option Addr) (n c : Nat) (vs : Nat → Value) : Prop where
  cap : n ≤ c
  max : c ≤ 9223372036854775807
  nil : sa = none → n = 0 ∧ c = 0
  spot : ∀ ad, sa = some ad → 0 < n → ad.spot = none
  cell : ∀ ad, sa = some ad → ∀ k, k < n → w.cell? ⟨ad.block, ad.off + k, none⟩ = some (vs k)

theorem Cells.get {w : World} {sa : Option Addr} {n c : Nat} {vs : Nat → Value} (h : Cells w sa n c vs) {k : Nat} (hk : k < n) :
    ∃ b o, sa = some ⟨b, o, none⟩ ∧ b < w.heap.size ∧ ∀ k, k < n → w.cell? ⟨b, o + k, none⟩ = some (vs k) := by
  cases sa with
  | none => have := (h.nil rfl).1; omega
  | some ad =>
    have h1 := h.spot ad rfl (by omega)
    have h3 := h.cell ad rfl
    obtain ⟨b, o, s⟩ := ad
    simp only at h1 h3
    subst h1
    exact ⟨b, o, rfl, World.block_lt_of_cell? w _ (h3 k hk), h3⟩

theorem Cells.below {w w' : World} {sa : Option Addr} {n c : Nat} {vs : Nat → Value} (h : Cells w sa n c vs) (hb : Below w.heap.size w w') : Cells w' sa n c vs :=
  ⟨h.cap, h.max, h.nil, h.spot, fun ad e k hk => by
    have hc := h.cell ad e k hk
    rw [hb.cell (World.block_lt_of_cell? w _ hc)]; exact hc⟩

def Ints (w : World) (sa : Option Addr) (n c : Nat) (xs : List Int) : Prop := xs.length = n ∧ Cells w sa n c fun k => .int .i64 (gi xs k)
def Bools (w : World) (sa : Option Addr) (n c : Nat) (xs : List Bool) : Prop := xs.length = n ∧ Cells w sa n c fun k => .bool (gb xs k)
structure Rws (w : World) (sa : Option Addr) (n c : Nat) (xss : List (List Int)) : Prop where
  len : xss.length = n
  cells : ∃ (A : Nat → Option Addr) (L C : Nat → Nat), Cells w sa n c (fun k => .slice (A k) (L k) (C k)) ∧ ∀ k, k < n → Ints w (A k) (L k) (C k) (gr xss k)

theorem Ints.below {w w' : World} {sa : Option Addr} {n c : Nat} {xs : List Int} (h : Ints w sa n c xs) (hb : Below w.heap.size w w') : Ints w' sa n c xs := ⟨h.1, h.2.below hb⟩
theorem Bools.below {w w' : World} {sa : Option Addr} {n c : Nat} {xs : List Bool} (h : Bools w sa n c xs) (hb : Below w.heap.size w w') : Bools w' sa n c xs := ⟨h.1, h.2.below hb⟩
theorem Rws.below {w w' : World} {sa : Option Addr} {n c : Nat} {xss : List (List Int)} (h : Rws w sa n c xss) (hb : Below w.heap.size w w') : Rws w' sa n c xss :=
  ⟨h.len, let ⟨A, L, C, h1, h2⟩ := h.cells; ⟨A, L, C, h1.below hb, fun k hk => (h2 k hk).below hb⟩⟩

theorem below_alloc (w : World) (o : Obj) : Below w.heap.size w (w.alloc o) := (Below.refl _ _).alloc (Nat.le_refl _) o
theorem below_drewN (w : World) (m : Nat) : Below w.heap.size w (w.drewN m) := ⟨rfl, rfl, rfl, Nat.le_refl _, fun _ _ => rfl⟩
theorem below_drawn {B : Nat} {a w : World} (h : Below B a w) (m : Nat) : Below B a (w.drewN m) := ⟨h.os, h.tape, h.output, h.size, h.block⟩
theorem below_drew (w : World) : Below w.heap.size w w.drew := (Below.refl _ _).drew
theorem Ints.alloc {w : World} {sa : Option Addr} {n c : Nat} {xs : List Int} (h : Ints w sa n c xs) (o : Obj) : Ints (w.alloc o) sa n c xs := h.below (below_alloc w o)
theorem Ints.drew {w : World} {sa : Option Addr} {n c : Nat} {xs : List Int} (h : Ints w sa n c xs) : Ints w.drew sa n c xs := h.below (below_drew w)
theorem Bools.alloc {w : World} {sa : Option Addr} {n c : Nat} {xs : List Bool} (h : Bools w sa n c xs) (o : Obj) : Bools (w.alloc o) sa n c xs := h.below (below_alloc w o)
theorem Bools.drew {w : World} {sa : Option Addr} {n c : Nat} {xs : List Bool} (h : Bools w sa n c xs) : Bools w.drew sa n c xs := h.below (below_drew w)
theorem Rws.alloc {w : World} {sa : Option Addr} {n c : Nat} {xs : List (List Int)} (h : Rws w sa n c xs) (o : Obj) : Rws (w.alloc o) sa n c xs := h.below (below_alloc w o)
theorem Rws.drew {w : World} {sa : Option Addr} {n c : Nat} {xs : List (List Int)} (h : Rws w sa n c xs) : Rws w.drew sa n c xs := h.below (below_drew w)

theorem Ints.max {w : World} {sa : Option Addr} {n c : Nat} {xs : List Int} (h : Ints w sa n c xs) : n ≤ 9223372036854775807 := Nat.le_trans h.2.cap h.2.max
theorem Bools.max {w : World} {sa : Option Addr} {n c : Nat} {xs : List Bool} (h : Bools w sa n c xs) : n ≤ 9223372036854775807 := Nat.le_trans h.2.cap h.2.max
theorem Rws.max {w : World} {sa : Option Addr} {n c : Nat} {xs : List (List Int)} (h : Rws w sa n c xs) : n ≤ 9223372036854775807 := by
  obtain ⟨A, L, C, h1, _⟩ := h.cells
  exact Nat.le_trans h1.cap h1.max
theorem Ints.get {w : World} {sa : Option Addr} {n c : Nat} {xs : List Int} (h : Ints w sa n c xs) {k : Nat} (hk : k < n) :
    ∃ b o, sa = some ⟨b, o, none⟩ ∧ b < w.heap.size ∧ ∀ k, k < n → w.cell? ⟨b, o + k, none⟩ = some (.int .i64 (gi xs k)) := h.2.get hk
theorem Bools.get {w : World} {sa : Option Addr} {n c : Nat} {xs : List Bool} (h : Bools w sa n c xs) {k : Nat} (hk : k < n) :
    ∃ b o, sa = some ⟨b, o, none⟩ ∧ b < w.heap.size ∧ ∀ k, k < n → w.cell? ⟨b, o + k, none⟩ = some (.bool (gb xs k)) := h.2.get hk
theorem Rws.get {w : World} {sa : Option Addr} {n c : Nat} {xss : List (List Int)} (h : Rws w sa n c xss) {k : Nat} (hk : k < n) :
    ∃ b o, sa = some ⟨b, o, none⟩ ∧ b < w.heap.size ∧ ∃ (A : Nat → Option Addr) (L C : Nat → Nat), ∀ k, k < n → w.cell? ⟨b, o + k, none⟩ = some (.slice (A k) (L k) (C k)) ∧ Ints w (A k) (L k) (C k) (gr xss k) := by
  obtain ⟨A, L, C, h1, h2⟩ := h.cells
  obtain ⟨b, o, e, hb, hc⟩ := h1.get hk
  exact ⟨b, o, e, hb, A, L, C, fun k hk => ⟨hc k hk, h2 k hk⟩⟩

theorem cells_nil (w : World) (vs : Nat → Value) : Cells w none 0 0 vs := ⟨Nat.le_refl _, by omega, fun _ => ⟨rfl, rfl⟩, fun _ h _ => (by cases h), fun _ h => (by cases h)⟩
theorem ints_nil (w : World) : Ints w none 0 0 [] := ⟨rfl, cells_nil w _⟩
theorem rows_nil (w : World) : Rws w none 0 0 [] := ⟨rfl, fun _ => none, fun _ => 0, fun _ => 0, cells_nil w _, fun k hk => by omega⟩

/-- The value v reads in w as ... -/
def IsI (w : World) (v : Value) (xs : List Int) : Prop := ∃ sa n c, v = .slice sa n c ∧ Ints w sa n c xs
def IsB (w : World) (v : Value) (xs : List Bool) : Prop := ∃ sa n c, v = .slice sa n c ∧ Bools w sa n c xs
def IsII (w : World) (v : Value) (xss : List (List Int)) : Prop := ∃ sa n c, v = .slice sa n c ∧ Rws w sa n c xss
theorem IsI.below {w w' : World} {v : Value} {xs : List Int} (h : IsI w v xs) (hb : Below w.heap.size w w') : IsI w' v xs := let ⟨sa, n, c, e, h⟩ := h; ⟨sa, n, c, e, h.below hb⟩
theorem IsB.below {w w' : World} {v : Value} {xs : List Bool} (h : IsB w v xs) (hb : Below w.heap.size w w') : IsB w' v xs := let ⟨sa, n, c, e, h⟩ := h; ⟨sa, n, c, e, h.below hb⟩
theorem IsII.below {w w' : World} {v : Value} {xs : List (List Int)} (h : IsII w v xs) (hb : Below w.heap.size w w') : IsII w' v xs := let ⟨sa, n, c, e, h⟩ := h; ⟨sa, n, c, e, h.below hb⟩
theorem Ints.is {w : World} {sa : Option Addr} {n c : Nat} {xs : List Int} (h : Ints w sa n c xs) : IsI w (.slice sa n c) xs := ⟨sa, n, c, rfl, h⟩
theorem Bools.is {w : World} {sa : Option Addr} {n c : Nat} {xs : List Bool} (h : Bools w sa n c xs) : IsB w (.slice sa n c) xs := ⟨sa, n, c, rfl, h⟩
theorem Rws.is {w : World} {sa : Option Addr} {n c : Nat} {xs : List (List Int)} (h : Rws w sa n c xs) : IsII w (.slice sa n c) xs := ⟨sa, n, c, rfl, h⟩
theorem IsI.alloc {w : World} {v : Value} {xs : List Int} (h : IsI w v xs) (o : Obj) : IsI (w.alloc o) v xs := h.below (below_alloc w o)
theorem IsI.drew {w : World} {v : Value} {xs : List Int} (h : IsI w v xs) : IsI w.drew v xs := h.below (below_drew w)
theorem IsB.alloc {w : World} {v : Value} {xs : List Bool} (h : IsB w v xs) (o : Obj) : IsB (w.alloc o) v xs := h.below (below_alloc w o)
theorem IsB.drew {w : World} {v : Value} {xs : List Bool} (h : IsB w v xs) : IsB w.drew v xs := h.below (below_drew w)
theorem IsII.alloc {w : World} {v : Value} {xs : List (List Int)} (h : IsII w v xs) (o : Obj) : IsII (w.alloc o) v xs := h.below (below_alloc w o)
theorem IsII.drew {w : World} {v : Value} {xs : List (List Int)} (h : IsII w v xs) : IsII w.drew v xs := h.below (below_drew w)

/-! ### Arenas and games -/
structure Ar where
  own : List Int
  nxt : List (List Int)
structure Pa where
  ar : Ar
  prio : List Int
def IsA (w : World) (v : Value) (a : Ar) : Prop := ∃ vo vn, v = .agg #[vo, vn] ∧ IsI w vo a.own ∧ IsII w vn a.nxt
def IsP (w : World) (v : Value) (g : Pa) : Prop := ∃ vo vn vp, v = .agg #[vo, vn, vp] ∧ IsI w vo g.ar.own ∧ IsII w vn g.ar.nxt ∧ IsI w vp g.prio
theorem IsA.below {w w' : World} {v : Value} {a : Ar} (h : IsA w v a) (hb : Below w.heap.size w w') : IsA w' v a := let ⟨x, y, e, h1, h2⟩ := h; ⟨x, y, e, h1.below hb, h2.below hb⟩
theorem IsP.below {w w' : World} {v : Value} {a : Pa} (h : IsP w v a) (hb : Below w.heap.size w w') : IsP w' v a := let ⟨x, y, z, e, h1, h2, h3⟩ := h; ⟨x, y, z, e, h1.below hb, h2.below hb, h3.below hb⟩
theorem IsA.alloc {w : World} {v : Value} {a : Ar} (h : IsA w v a) (o : Obj) : IsA (w.alloc o) v a := h.below (below_alloc w o)
theorem IsA.drew {w : World} {v : Value} {a : Ar} (h : IsA w v a) : IsA w.drew v a := h.below (below_drew w)
theorem IsP.alloc {w : World} {v : Value} {a : Pa} (h : IsP w v a) (o : Obj) : IsP (w.alloc o) v a := h.below (below_alloc w o)
theorem IsP.drew {w : World} {v : Value} {a : Pa} (h : IsP w v a) : IsP w.drew v a := h.below (below_drew w)
theorem IsP.arena {w : World} {vo vn vp : Value} {g : Pa} (h : IsP w (.agg #[vo, vn, vp]) g) : IsA w (.agg #[vo, vn]) g.ar := by
  obtain ⟨a, b, c, e, h1, h2, h3⟩ := h
  simp only [Value.agg.injEq, Array.mk.injEq, List.cons.injEq, and_true] at e
  obtain ⟨rfl, rfl, rfl⟩ := e
  exact ⟨_, _, rfl, h1, h2⟩

/-- What a call leaves of the cells and marks below. -/
theorem bcell {W w1 : World} (hb : Below W.heap.size W w1) : (∀ b o, b < W.heap.size → w1.cell? ⟨b, o, none⟩ = W.cell? ⟨b, o, none⟩) ∧ (∀ b o, b < W.heap.size → w1.frozen? ⟨b, o, none⟩ = W.frozen? ⟨b, o, none⟩) :=
  ⟨fun b o h => hb.cell (p := ⟨b, o, none⟩) h, fun b o h => hb.frozen (p := ⟨b, o, none⟩) h⟩
end Go.Proofs.Ythdioaeekhkgcaa
