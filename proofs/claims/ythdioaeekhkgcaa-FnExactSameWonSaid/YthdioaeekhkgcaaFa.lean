/-
  Plain data, abstract values, and the operations on them.
-/
import Derived.Test.YthdioaeekhkgcaaBase
import Derived.ArgAppend
import Derived.Deep.MidRow
import Derived.Laws.OwnMore
import Derived.Laws.Tables
import Derived.Orders
namespace Go.Proofs.Ythdioaeekhkgcaa
set_option linter.unusedVariables false
set_option linter.unusedSimpArgs false
open Go.RowKit

/-- Plain data: numbers, Bools, lists of them, lists of lists, lists of structs. -/
inductive C where
  | int (k : IntKind) (n : Int)
  | bool (b : Bool)
  | I (xs : List Int)
  | B (xs : List Bool)
  | Y (xs : List Int)
  | R (xss : List (List Int))
  | V (wd : Nat) (es : List (List C))
  | nn (c : C)
  | nul
/-- A list's length, an element's cells, the cells. -/
structure View where
  len : Nat
  wd : Nat
  at' : Nat → Nat → C
def C.view : C → Option View
  | .I xs => some ⟨xs.length, 1, fun i _ => .int .i64 (gi xs i)⟩
  | .B xs => some ⟨xs.length, 1, fun i _ => .bool (gb xs i)⟩
  | .Y xs => some ⟨xs.length, 1, fun i _ => .int .u8 (gi xs i)⟩
  | .R xss => some ⟨xss.length, 1, fun i _ => .I (gr xss i)⟩
  | .V wd es => if 0 < wd then some ⟨es.length, wd, fun i j => (es.getD i []).getD j .nul⟩ else none
  | .nn c => c.view
  | _ => none
def C.isNN : C → Bool
  | .nn _ => true
  | _ => false
theorem C.view_wd {c : C} {V : View} (h : c.view = some V) : 0 < V.wd := by
  induction c using C.rec (motive_2 := fun _ => True) (motive_3 := fun _ => True) generalizing V
  case V wd es _ =>
    simp only [C.view] at h
    split at h
    · injection h with h; subst h; assumption
    · cases h
  case nn c ih => exact ih h
  all_goals first | trivial | (simp only [C.view, Option.some.injEq, reduceCtorEq] at h; subst h; exact Nat.one_pos) | (simp only [C.view, reduceCtorEq] at h)

/-- The value v reads in w as c, and no block of O is looked at. -/
inductive Rd (O : Nat → Prop) (w : World) : C → Value → Prop where
  | int (k : IntKind) (n : Int) : Rd O w (.int k n) (.int k n)
  | bool (b : Bool) : Rd O w (.bool b) (.bool b)
  | nul : Rd O w .nul (.slice none 0 0)
  | sl {c : C} {V : View} {sa : Option Addr} {cp : Nat} {vs : Nat → Nat → Value} (hv : c.view = some V) (hn : c.isNN = true → sa ≠ none)
      (hc : V.len ≤ cp) (hm : cp ≤ 9223372036854775807) (h0 : sa = none → V.len = 0 ∧ cp = 0)
      (hs : ∀ ad, sa = some ad → 0 < V.len → ad.spot = none ∧ ¬ O ad.block ∧ ad.block < w.heap.size)
      (cell : ∀ ad, sa = some ad → ∀ i, i < V.len → ∀ j, j < V.wd → w.cell? ⟨ad.block, ad.off + (i * V.wd + j), none⟩ = some (vs i j))
      (rec : ∀ i, i < V.len → ∀ j, j < V.wd → Rd O w (V.at' i j) (vs i j)) : Rd O w c (.slice sa V.len cp)

theorem World.cell_same {w w' : World} {b o : Nat} (h : w'.heap[b]? = w.heap[b]?) : w'.cell? ⟨b, o, none⟩ = w.cell? ⟨b, o, none⟩ := by
  unfold World.cell?; simp only [h]
theorem Rd.mono {O O' : Nat → Prop} {w w' : World} {c : C} {v : Value} (h : Rd O w c v) (hb : ∀ b, b < w.heap.size → ¬ O b → w'.heap[b]? = w.heap[b]? ∧ ¬ O' b) (hz : w.heap.size ≤ w'.heap.size) : Rd O' w' c v := by
  induction h with
  | int k n => exact .int k n
  | bool b => exact .bool b
  | nul => exact .nul
  | sl hv hn hc hm h0 hs cell rec ih =>
    refine .sl hv hn hc hm h0 (fun ad e hl => ?_) (fun ad e i hi j hj => ?_) (fun i hi j hj => ih i hi j hj)
    · obtain ⟨h1, h2, h3⟩ := hs ad e hl
      exact ⟨h1, (hb _ h3 h2).2, Nat.lt_of_lt_of_le h3 hz⟩
    · obtain ⟨h1, h2, h3⟩ := hs ad e (by omega)
      rw [World.cell_same (hb _ h3 h2).1]
      exact cell ad e i hi j hj
theorem Rd.under {w w' : World} {c : C} {v : Value} (h : Rd (fun _ => False) w c v) (hb : Below w.heap.size w w') : Rd (fun _ => False) w' c v :=
  h.mono (fun b hb' _ => ⟨hb.block b hb', fun h => h⟩) hb.size
theorem Rd.free {O : Nat → Prop} {w : World} {c : C} {v : Value} (h : Rd O w c v) : Rd (fun _ => False) w c v :=
  h.mono (fun b _ _ => ⟨rfl, fun h => h⟩) (Nat.le_refl _)
/-- Is it the value of one cell? -/
theorem Rd.one {O : Nat → Prop} {w : World} {c : C} {v : Value} (h : Rd O w c v) : v.oneCell' = true := by
  cases h <;> rfl
/-- A non-nil list is a list. -/
theorem Rd.unn {O : Nat → Prop} {w : World} {c : C} {v : Value} (h : Rd O w (.nn c) v) : Rd O w c v := by
  cases h with
  | sl hv hn hc hm h0 hs cell rec =>
    exact .sl hv (fun _ => hn rfl) hc hm h0 hs cell rec

/-! ### Abstract values -/
inductive Loc where
  | nil
  | at (g o n cp wd : Nat)
def Loc.val : Loc → Value
  | .nil => .slice none 0 0
  | .at g o n cp _ => .slice (some ⟨g, o, none⟩) n cp
theorem Loc.val_one (l : Loc) : l.val.oneCell' = true := by cases l <;> rfl
def Loc.blk : Loc → Option Nat
  | .nil => none
  | .at g _ _ _ _ => some g
/-- What a slot holds: anything; plain data; the very value; a name's slice (the call owns its block); the place in a name's block; the place of data that nobody writes; a struct; several results; a function. -/
inductive AV where
  | any
  | c (c : C)
  | k (v : Value)
  | sl (ν : Nat)
  | ad (ν off : Nat)
  | ea (ν i j : Nat)
  | el (wd : Nat) (f : Nat → C)
  | agg (l : List AV)
  | tup (l : List AV)
  | fn (f : Fn) (l : List AV)
/-- Of a list in a block of its own: is it not nil; does it fill its block from the head. -/
structure Fl where
  nn : Bool
  hd : Bool
abbrev Fl.yes : Fl := ⟨true, true⟩
abbrev Fl.may : Fl := ⟨false, true⟩
/-- What a name stands for: a block of cells; a list of plain data in a block of its own, or nil; nothing any more. -/
inductive Ent where
  | box (l : List AV)
  | arr (T : TypeId) (nn : Fl) (c : C)
  | dead
  | ext
abbrev Hp := Nat → Option Ent
def Ent.kind : Ent → Nat
  | .box _ => 0
  | .arr _ _ _ => 1
  | .dead => 2
  | .ext => 3
def Live (hp : Hp) (ν : Nat) : Prop := ∃ e, hp ν = some e ∧ e.kind ≠ 2
def Mine (hp : Hp) (ν : Nat) : Prop := ∃ e, hp ν = some e ∧ e.kind < 2
theorem Mine.live {hp : Hp} {ν : Nat} (h : Mine hp ν) : Live hp ν := let ⟨e, h1, h2⟩ := h; ⟨e, h1, by omega⟩
/-- The blocks that are owned. -/
def Own (φ : Nat → Loc) (hp : Hp) (b : Nat) : Prop := ∃ ν, Live hp ν ∧ (φ ν).blk = some b

inductive AVC (φ : Nat → Loc) (hp : Hp) (w : World) : AV → Value → Prop where
  | any (v : Value) : AVC φ hp w .any v
  | c {c : C} {v : Value} (h : Rd (Own φ hp) w c v) : AVC φ hp w (.c c) v
  | k (v : Value) : AVC φ hp w (.k v) v
  | sl {ν : Nat} {e : Ent} (h : hp ν = some e) (hk : e.kind = 1) : AVC φ hp w (.sl ν) (φ ν).val
  | sld {ν : Nat} {e : Ent} (h : hp ν = some e) (hk : e.kind = 2) (v : Value) (hv : v.oneCell' = true) : AVC φ hp w (.sl ν) v
  | ad {ν off g n cp wd : Nat} {e : Ent} (h : hp ν = some e) (hk : e.kind = 0) (hl : φ ν = .at g 0 n cp wd) : AVC φ hp w (.ad ν off) (.pointer (some ⟨g, off, none⟩))
  | add {ν off : Nat} {e : Ent} (h : hp ν = some e) (hk : e.kind = 2) (v : Value) (hv : v.oneCell' = true) : AVC φ hp w (.ad ν off) v
  | ea {ν i j g o n cp wd : Nat} {e : Ent} (h : hp ν = some e) (hk : e.kind = 1) (hl : φ ν = .at g o n cp wd) : AVC φ hp w (.ea ν i j) (.pointer (some ⟨g, o + (i * wd + j), none⟩))
  | ead {ν i j : Nat} {e : Ent} (h : hp ν = some e) (hk : e.kind = 2) (v : Value) (hv : v.oneCell' = true) : AVC φ hp w (.ea ν i j) v
  | el {wd : Nat} {f : Nat → C} {b o : Nat} {vs : Nat → Value} (hc : ∀ j, j < wd → w.cell? ⟨b, o + j, none⟩ = some (vs j)) (hr : ∀ j, j < wd → Rd (Own φ hp) w (f j) (vs j)) (hO : ¬ Own φ hp b) (hb : b < w.heap.size) :
      AVC φ hp w (.el wd f) (.pointer (some ⟨b, o, none⟩))
  | agg {l : List AV} {vs : List Value} (hl : vs.length = l.length) (h : ∀ i, i < l.length → AVC φ hp w (l.getD i .any) (vs.getD i undef)) : AVC φ hp w (.agg l) (.agg vs.toArray)
  | tup {l : List AV} {vs : List Value} (hl : vs.length = l.length) (h : ∀ i, i < l.length → AVC φ hp w (l.getD i .any) (vs.getD i undef)) : AVC φ hp w (.tup l) (.tuple vs.toArray)
  | fn {f : Fn} {l : List AV} {vs : List Value} (hl : vs.length = l.length) (h : ∀ i, i < l.length → AVC φ hp w (l.getD i .any) (vs.getD i undef)) : AVC φ hp w (.fn f l) (.func f #[] vs.toArray)

/-- How memory goes on: names stay or die, blocks that nobody owns stay as they are. -/
structure Evo (φ : Nat → Loc) (hp : Hp) (w : World) (φ' : Nat → Loc) (hp' : Hp) (w' : World) : Prop where
  nm : ∀ ν e, hp ν = some e → ∃ e', hp' ν = some e' ∧ ((e'.kind = 2 ∧ e.kind ≠ 3) ∨ (e'.kind = e.kind ∧ φ' ν = φ ν))
  bl : ∀ b, b < w.heap.size → ¬ Own φ hp b → w'.heap[b]? = w.heap[b]? ∧ ¬ Own φ' hp' b
  sz : w.heap.size ≤ w'.heap.size
theorem AVC.evo {φ φ' : Nat → Loc} {hp hp' : Hp} {w w' : World} {a : AV} {v : Value} (h : AVC φ hp w a v) (E : Evo φ hp w φ' hp' w') : AVC φ' hp' w' a v := by
  induction h with
  | any v => exact .any v
  | c h => exact .c (h.mono E.bl E.sz)
  | k v => exact .k v
  | @sl ν e h hk =>
    obtain ⟨e', h1, ⟨h2, _⟩ | ⟨h2, h3⟩⟩ := E.nm ν e h
    · exact .sld h1 h2 _ (Loc.val_one _)
    · rw [← h3]; exact .sl h1 (h2.trans hk)
  | @sld ν e h hk v hv =>
    obtain ⟨e', h1, ⟨h2, _⟩ | ⟨h2, h3⟩⟩ := E.nm ν e h
    · exact .sld h1 h2 _ hv
    · exact .sld h1 (h2.trans hk) _ hv
  | @ad ν off g n cp wd e h hk hl =>
    obtain ⟨e', h1, ⟨h2, _⟩ | ⟨h2, h3⟩⟩ := E.nm ν e h
    · exact .add h1 h2 _ rfl
    · exact .ad h1 (h2.trans hk) (h3.trans hl)
  | @add ν off e h hk v hv =>
    obtain ⟨e', h1, ⟨h2, _⟩ | ⟨h2, h3⟩⟩ := E.nm ν e h
    · exact .add h1 h2 _ hv
    · exact .add h1 (h2.trans hk) _ hv
  | @ea ν i j g o n cp wd e h hk hl =>
    obtain ⟨e', h1, ⟨h2, _⟩ | ⟨h2, h3⟩⟩ := E.nm ν e h
    · exact .ead h1 h2 _ rfl
    · exact .ea h1 (h2.trans hk) (h3.trans hl)
  | @ead ν i j e h hk v hv =>
    obtain ⟨e', h1, ⟨h2, _⟩ | ⟨h2, h3⟩⟩ := E.nm ν e h
    · exact .ead h1 h2 _ hv
    · exact .ead h1 (h2.trans hk) _ hv
  | el hc hr hO hb =>
    obtain ⟨h1, h2⟩ := E.bl _ hb hO
    exact .el (fun j hj => by rw [World.cell_same h1]; exact hc j hj) (fun j hj => (hr j hj).mono E.bl E.sz) h2 (Nat.lt_of_lt_of_le hb E.sz)
  | agg hl _ ih => exact .agg hl ih
  | tup hl _ ih => exact .tup hl ih
  | fn hl _ ih => exact .fn hl ih
theorem Evo.trans {φ φ' φ2 : Nat → Loc} {hp hp' hp2 : Hp} {w w' w2 : World} (h : Evo φ hp w φ' hp' w') (k : Evo φ' hp' w' φ2 hp2 w2) : Evo φ hp w φ2 hp2 w2 := by
  refine ⟨fun ν e he => ?_, fun b hb ho => ?_, Nat.le_trans h.sz k.sz⟩
  · obtain ⟨e', h1, h2⟩ := h.nm ν e he
    obtain ⟨e2, h3, h4⟩ := k.nm ν e' h1
    refine ⟨e2, h3, ?_⟩
    rcases h2 with ⟨a1, a2⟩ | ⟨a1, a2⟩ <;> rcases h4 with ⟨b1, b2⟩ | ⟨b1, b2⟩
    · exact .inl ⟨b1, a2⟩
    · exact .inl ⟨by omega, a2⟩
    · exact .inl ⟨b1, by omega⟩
    · exact .inr ⟨by omega, b2.trans a2⟩
  · obtain ⟨h1, h2⟩ := h.bl b hb ho
    obtain ⟨h3, h4⟩ := k.bl b (Nat.lt_of_lt_of_le hb h.sz) h2
    exact ⟨h3.trans h1, h4⟩
theorem Evo.refl (φ : Nat → Loc) (hp : Hp) (w : World) : Evo φ hp w φ hp w :=
  ⟨fun ν e h => ⟨e, h, .inr ⟨rfl, rfl⟩⟩, fun b _ h => ⟨rfl, h⟩, Nat.le_refl _⟩

/-- What a name's entry says of memory. -/
def EntC (φ : Nat → Loc) (hp : Hp) (w : World) (loc : Loc) : Ent → Prop
  | .box l => ∃ g n cp wd cur T, loc = .at g 0 n cp wd ∧ w.heap[g]? = some (.cells cur T (0, 0)) ∧ cur.size = l.length ∧ ∀ i, i < l.length → AVC φ hp w (l.getD i .any) (cur.getD i undef)
  | .arr T nn c => ∃ V, c.view = some V ∧ c.isNN = false ∧ ((loc = .nil ∧ V.len = 0 ∧ nn.nn = false) ∨
      ∃ g o cp cur, loc = .at g o V.len cp V.wd ∧ w.heap[g]? = some (.cells cur T (0, 0)) ∧ V.len ≤ cp ∧ cp ≤ 9223372036854775807 ∧ o + cp * V.wd ≤ cur.size ∧ (nn.hd = true → o = 0 ∧ cp * V.wd = cur.size) ∧
        ∀ i, i < V.len → ∀ j, j < V.wd → ∃ v, cur[o + (i * V.wd + j)]? = some v ∧ Rd (Own φ hp) w (V.at' i j) v)
  | .dead => True
  | .ext => ∀ b, loc.blk = some b → b < w.heap.size
theorem EntC.evo {φ φ' : Nat → Loc} {hp hp' : Hp} {w w' : World} {loc : Loc} {e : Ent} (h : EntC φ hp w loc e) (E : Evo φ hp w φ' hp' w') (hb : e.kind ≠ 2 → ∀ b, loc.blk = some b → w'.heap[b]? = w.heap[b]?) : EntC φ' hp' w' loc e := by
  cases e with
  | dead => trivial
  | ext => exact fun b h1 => Nat.lt_of_lt_of_le (h b h1) E.sz
  | box l =>
    obtain ⟨g, n, cp, wd, cur, T, rfl, h1, h2, h3⟩ := h
    exact ⟨g, n, cp, wd, cur, T, rfl, by rw [hb (by simp [Ent.kind]) g rfl]; exact h1, h2, fun i hi => (h3 i hi).evo E⟩
  | arr T nn c =>
    obtain ⟨V, hv, hnn, h | ⟨g, o, cp, cur, rfl, h1, h2, h3, h4, hh, h5⟩⟩ := h
    · exact ⟨V, hv, hnn, .inl h⟩
    · refine ⟨V, hv, hnn, .inr ⟨g, o, cp, cur, rfl, by rw [hb (by simp [Ent.kind]) g rfl]; exact h1, h2, h3, h4, hh, fun i hi j hj => ?_⟩⟩
      obtain ⟨v, h6, h7⟩ := h5 i hi j hj
      exact ⟨v, h6, h7.mono E.bl E.sz⟩

structure HC (φ : Nat → Loc) (hp : Hp) (lo : Nat) (w0 w : World) : Prop where
  fr : Below lo w0 w
  l0 : lo ≤ w.heap.size
  fin : ∃ b, ∀ ν, b ≤ ν → hp ν = none
  ent : ∀ ν e, hp ν = some e → EntC φ hp w (φ ν) e
  sep : ∀ ν ν' b, ν ≠ ν' → Live hp ν → Live hp ν' → (φ ν).blk = some b → (φ ν').blk ≠ some b
  lo : ∀ ν b, Mine hp ν → (φ ν).blk = some b → lo ≤ b
theorem HC.lt {φ : Nat → Loc} {hp : Hp} {lo : Nat} {w0 w : World} (h : HC φ hp lo w0 w) {ν b : Nat} (hl : Live hp ν) (hb : (φ ν).blk = some b) : b < w.heap.size := by
  obtain ⟨e, he, hk⟩ := hl
  have := h.ent ν e he
  cases e with
  | dead => exact absurd rfl hk
  | ext => exact this b hb
  | box l =>
    obtain ⟨g, n, cp, wd, cur, T, h0, h1, _⟩ := this
    rw [h0] at hb
    simp only [Loc.blk, Option.some.injEq] at hb
    subst hb
    exact (Array.getElem?_eq_some_iff.1 h1).1
  | arr T nn c =>
    obtain ⟨V, hv, _, ⟨h0, _⟩ | ⟨g, o, cp, cur, h0, h1, _⟩⟩ := this
    · rw [h0] at hb; cases hb
    · rw [h0] at hb
      simp only [Loc.blk, Option.some.injEq] at hb
      subst hb
      exact (Array.getElem?_eq_some_iff.1 h1).1
theorem HC.own_lt {φ : Nat → Loc} {hp : Hp} {lo : Nat} {w0 w : World} (h : HC φ hp lo w0 w) {b : Nat} (ho : Own φ hp b) : b < w.heap.size :=
  let ⟨ν, h1, h2⟩ := ho; h.lt h1 h2
/-- Memory goes on: what the names of A stand for is said anew. -/
theorem HC.step {φ φ' : Nat → Loc} {hp hp' : Hp} {lo : Nat} {w0 w w' : World} (h : HC φ hp lo w0 w) (hb : Below lo w0 w') (E : Evo φ hp w φ' hp' w') (A : Nat → Prop)
    (fin : ∃ b, ∀ ν, b ≤ ν → hp' ν = none) (hun : ∀ ν, ¬ A ν → hp' ν = hp ν ∧ φ' ν = φ ν)
    (hbl : ∀ ν, ¬ A ν → Live hp ν → ∀ b, (φ ν).blk = some b → w'.heap[b]? = w.heap[b]?)
    (haff : ∀ ν, A ν → ∀ e, hp' ν = some e → EntC φ' hp' w' (φ' ν) e)
    (hlo : ∀ ν, A ν → Mine hp' ν → ∀ b, (φ' ν).blk = some b → lo ≤ b)
    (hsep : ∀ ν ν', A ν → ν ≠ ν' → Live hp' ν → Live hp' ν' → ∀ b, (φ' ν).blk = some b → (φ' ν').blk ≠ some b) : HC φ' hp' lo w0 w' := by
  refine ⟨hb, Nat.le_trans h.l0 E.sz, fin, fun ν e he => ?_, fun ν ν' b hne h1 h2 h3 h4 => ?_, fun ν b h1 h2 => ?_⟩
  · by_cases hA : A ν
    · exact haff ν hA e he
    · obtain ⟨e1, e2⟩ := hun ν hA
      rw [e1] at he
      rw [e2]
      exact (h.ent ν e he).evo E fun hk b hb' => hbl ν hA ⟨e, he, hk⟩ b hb'
  · by_cases hA : A ν
    · exact hsep ν ν' hA hne h1 h2 b h3 h4
    · by_cases hA' : A ν'
      · exact hsep ν' ν hA' (Ne.symm hne) h2 h1 b h4 h3
      · obtain ⟨e1, e2⟩ := hun ν hA
        obtain ⟨e3, e4⟩ := hun ν' hA'
        unfold Live at h1 h2
        rw [e1] at h1; rw [e2] at h3; rw [e3] at h2; rw [e4] at h4
        exact h.sep ν ν' b hne h1 h2 h3 h4
  · by_cases hA : A ν
    · exact hlo ν hA h1 b h2
    · obtain ⟨e1, e2⟩ := hun ν hA
      unfold Mine at h1
      rw [e1] at h1; rw [e2] at h2
      exact h.lo ν b h1 h2
end Go.Proofs.Ythdioaeekhkgcaa
namespace Go.Proofs.Ythdioaeekhkgcaa
set_option linter.unusedVariables false
set_option linter.unusedSimpArgs false
open Go.RowKit

def upd {α : Type} (f : Nat → α) (t : Nat) (v : α) : Nat → α := fun s => if s = t then v else f s
theorem upd_same {α : Type} (f : Nat → α) (t : Nat) (v : α) : upd f t v t = v := if_pos rfl
theorem upd_ne {α : Type} {f : Nat → α} {t s : Nat} {v : α} (h : s ≠ t) : upd f t v s = f s := if_neg h
theorem upd_comm {α : Type} (f : Nat → α) {t s : Nat} (v u : α) (h : t ≠ s) : upd (upd f t v) s u = upd (upd f s u) t v := by
  funext x; unfold upd; by_cases h1 : x = s <;> by_cases h2 : x = t <;> simp [h1, h2]
  · subst h1; exact absurd h2.symm h
  · intro e; exact absurd e.symm h
  · intro e; exact absurd e h
def updO {α : Type} (f : Nat → α) (d : Option Nat) (v : α) : Nat → α :=
  match d with
  | some t => upd f t v
  | none => f
def hpUp (hp : Hp) : List (Nat × Ent) → Hp
  | [] => hp
  | (ν, e) :: l => hpUp (upd hp ν (some e)) l
/-- For some new names of these entries. -/
def FA : List Ent → Hp → List Nat → (Hp → List Nat → Prop) → Prop
  | [], hp, acc, k => k hp acc
  | e :: es, hp, acc, k => ∃ ν, hp ν = none ∧ FA es (upd hp ν (some e)) (acc ++ [ν]) k

/-- What is known of a type. -/
inductive TSh where
  | int (k : IntKind)
  | bool
  | slice (e : TypeId)
  | struct (fs : List (Nat × TypeId))
  | other
structure TInfo where
  sh : TSh
  size : Nat
  zero : List AV
  em : Option C
abbrev TI := TypeId → Option TInfo
def TSh.isStruct : TSh → Bool
  | .struct _ => true
  | _ => false

/-- An operation's effect: what must hold, the entries of new names, the names said anew, the value. -/
structure Eff where
  cond : Prop
  nw : List Ent
  up : List (Nat × Ent)
  val : List Nat → AV
def ret (v : AV) : Option Eff := some ⟨True, [], [], fun _ => v⟩
def retC (p : Prop) (v : AV) : Option Eff := some ⟨p, [], [], fun _ => v⟩

def constAV : Value → AV
  | .int k n => .c (.int k n)
  | .bool b => .c (.bool b)
  | .slice none 0 0 => .c .nul
  | v => .k v
def evT (tm : Nat → AV) : Operand → AV
  | .tmp t => tm t
  | .const v => constAV v
  | .global g => .k (.pointer (some ⟨g, 0, none⟩))
  | .func f => .fn (.func f) []
/-- The cells of a value. -/
def AV.one : AV → Bool
  | .any | .agg _ | .tup _ => false
  | .k v => v.oneCell'
  | _ => true
def AV.cells : AV → Option (List AV)
  | .agg l => if l.all AV.one then some l else none
  | a => if a.one then some [a] else none
/-- As plain data, and the names that are given up. -/
def toC (hp : Hp) : AV → Option (C × List Nat)
  | .c c => some (c, [])
  | .sl ν => match hp ν with
    | some (.arr _ nn c) => some (if nn.nn then .nn c else c, [ν])
    | _ => none
  | _ => none
def toCs (hp : Hp) : List AV → Option (List C × List Nat)
  | [] => some ([], [])
  | a :: l => match toC hp a, toCs hp l with
    | some (c, fz), some (cs, fs) => some (c :: cs, fz ++ fs)
    | _, _ => none
def C.row : C → Option (List Int)
  | .I xs => some xs
  | .nn c => c.row
  | .nul => some []
  | _ => none
def appC : C → List C → Option C
  | .I xs, [.int .i64 n] => some (.I (xs ++ [n]))
  | .B xs, [.bool b] => some (.B (xs ++ [b]))
  | .Y xs, [.int .u8 n] => some (.Y (xs ++ [n]))
  | .R xss, [c] => match c.row with
    | some r => some (.R (xss ++ [r]))
    | none => none
  | .V wd es, cs => if cs.length = wd then some (.V wd (es ++ [cs])) else none
  | _, _ => none
def putC : C → Nat → List C → Option C
  | .I xs, i, [.int .i64 n] => some (.I (xs.set i n))
  | .B xs, i, [.bool b] => some (.B (xs.set i b))
  | .Y xs, i, [.int .u8 n] => some (.Y (xs.set i n))
  | .R xss, i, [c] => match c.row with
    | some r => some (.R (xss.set i r))
    | none => none
  | .V wd es, i, cs => if cs.length = wd then some (.V wd (es.set i cs)) else none
  | _, _, _ => none
def catC : C → C → Option C
  | c, .nn d => catC c d
  | c, .nul => some c
  | .I xs, .I ys => some (.I (xs ++ ys))
  | .B xs, .B ys => some (.B (xs ++ ys))
  | .Y xs, .Y ys => some (.Y (xs ++ ys))
  | .R xs, .R ys => some (.R (xs ++ ys))
  | .V wd es, .V wd' fs => if wd = wd' then some (.V wd (es ++ fs)) else none
  | _, _ => none
def subC (l h : Nat) : C → Option C
  | .I xs => some (.I ((xs.take h).drop l))
  | .B xs => some (.B ((xs.take h).drop l))
  | .Y xs => some (.Y ((xs.take h).drop l))
  | .R xs => some (.R ((xs.take h).drop l))
  | .V wd xs => some (.V wd ((xs.take h).drop l))
  | .nn c => subC l h c
  | _ => none
def zeroC (n : Nat) : List C → C → Option C
  | [.int .i64 0], .I _ => some (.I (List.replicate n 0))
  | [.bool false], .B _ => some (.B (List.replicate n false))
  | [.nul], .R _ => some (.R (List.replicate n []))
  | z, .V wd _ => if z.length = wd then some (.V wd (List.replicate n z)) else none
  | _, _ => none
def pureCs : List AV → Option (List C)
  | [] => some []
  | .c c :: l => match pureCs l with
    | some cs => some (c :: cs)
    | none => none
  | _ :: _ => none
def bldC (hp : Hp) : C → List AV → Option (C × List Nat)
  | c, [] => some (c, [])
  | c, a :: l => match a.cells with
    | some l1 => match toCs hp l1 with
      | some (cs, fz) => match appC c cs with
        | some c' => match bldC hp c' l with
          | some (c2, fs) => some (c2, fz ++ fs)
          | none => none
        | none => none
      | none => none
    | none => none
def setAt (l : List AV) : Nat → List AV → List AV
  | _, [] => l
  | o, a :: l' => setAt (l.set o a) (o + 1) l'
def fillA (ti : TI) (fs : List (Nat × TypeId)) (l : List AV) : List (Nat × AV) → Option (List AV)
  | [] => some l
  | (i, a) :: rest => match fs[i]? with
    | some (off, T) => match ti T, a.cells with
      | some t, some cs => if cs.length = t.size ∧ off + cs.length ≤ l.length then fillA ti fs (setAt l off cs) rest else none
      | _, _ => none
    | none => none
def deads (l : List Nat) : List (Nat × Ent) := l.map fun ν => (ν, .dead)

def binW (ti : TI) (hp : Hp) (op : BinOp) (T : TypeId) : AV → AV → Option Eff
  | .c (.int k a), .c (.int k' b) => if k = k' then
      match op with
      | .add => ret (.c (.int k (k.wrap (a + b))))
      | .sub => ret (.c (.int k (k.wrap (a - b))))
      | .mul => ret (.c (.int k (k.wrap (a * b))))
      | .quo => retC (b ≠ 0) (.c (.int k (k.wrap (a.tdiv b))))
      | .rem => retC (b ≠ 0) (.c (.int k (a.tmod b)))
      | .eql => ret (.c (.bool (a == b)))
      | .neq => ret (.c (.bool (a != b)))
      | .lss => ret (.c (.bool (decide (a < b))))
      | .leq => ret (.c (.bool (decide (a ≤ b))))
      | .gtr => ret (.c (.bool (decide (a > b))))
      | .geq => ret (.c (.bool (decide (a ≥ b))))
      | _ => none
    else none
  | .c (.bool a), .c (.bool b) => match ti T with
    | some t => match t.sh, op with
      | .bool, .eql => ret (.c (.bool (a == b)))
      | .bool, .neq => ret (.c (.bool (!(a == b))))
      | _, _ => none
    | none => none
  | .c .nul, .c .nul => match ti T with
    | some t => match t.sh, op with
      | .slice _, .eql => ret (.c (.bool true))
      | .slice _, .neq => ret (.c (.bool false))
      | _, _ => none
    | none => none
  | .c (.nn _), .c .nul => match ti T with
    | some t => match t.sh, op with
      | .slice _, .eql => ret (.c (.bool false))
      | .slice _, .neq => ret (.c (.bool true))
      | _, _ => none
    | none => none
  | _, _ => none
def unW (op : UnOp) : AV → Option Eff
  | .c (.bool b) => match op with
    | .not => ret (.c (.bool !b))
    | _ => none
  | .c (.int k n) => match op with
    | .neg => ret (.c (.int k (k.wrap (0 - n))))
    | _ => none
  | _ => none
def loadW (ti : TI) (hp : Hp) (T : TypeId) : AV → Option Eff
  | .ad ν off => match hp ν, ti T with
    | some (.box l), some t => if t.sh.isStruct then (if off + t.size ≤ l.length then ret (.agg ((l.drop off).take t.size)) else none) else (match l[off]? with
      | some a => ret a
      | none => none)
    | _, _ => none
  | .el wd f => match ti T with
    | some t => if t.sh.isStruct then (if t.size ≤ wd then ret (.agg ((List.range t.size).map fun j => .c (f j))) else none) else (if 0 < wd then ret (.c (f 0)) else none)
    | none => none
  | .ea ν i j => match hp ν, ti T with
    | some (.arr _ _ c), some t => match c.view with
      | some V => if t.sh.isStruct then retC (i < V.len ∧ j + t.size ≤ V.wd) (.agg ((List.range t.size).map fun q => .c (V.at' i (j + q)))) else retC (i < V.len ∧ j < V.wd) (.c (V.at' i j))
      | none => none
    | _, _ => none
  | _ => none
def storeW (ti : TI) (hp : Hp) (T : TypeId) (x y : AV) : Option Eff :=
  match ti T, y.cells with
  | some t, some cs => if cs.length = t.size then
      match x with
      | .ad ν off => match hp ν with
        | some (.box l) => if off + cs.length ≤ l.length then some ⟨True, [], [(ν, .box (setAt l off cs))], fun _ => .any⟩ else none
        | _ => none
      | .ea ν i j => match hp ν with
        | some (.arr T' nn c) => match c.view, toCs hp cs with
          | some V, some (ds, fz) => match putC c i ds with
            | some c' => some ⟨i < V.len ∧ j = 0 ∧ ¬ ν ∈ fz, [], deads fz ++ [(ν, .arr T' nn c')], fun _ => .any⟩
            | none => none
          | _, _ => none
        | _ => none
      | _ => none
    else none
  | _, _ => none
/-- The slice behind a value: its content. -/
def slC (hp : Hp) : AV → Option C
  | .c c => some c
  | .sl ν => match hp ν with
    | some (.arr _ nn c) => some (if nn.nn then .nn c else c)
    | _ => none
  | _ => none
def lenC : C → Option Nat
  | .nul => some 0
  | c => match c.view with
    | some V => some V.len
    | none => none
def indexW (ti : TI) (hp : Hp) (T : TypeId) (x ix : AV) : Option Eff :=
  match ti T, ix with
  | some t, .c (.int k i) => match t.sh with
    | .slice e => match ti e with
      | some te => match x with
        | .c c => match c.view with
          | some V => if V.wd = te.size then retC (0 ≤ i ∧ i < V.len) (.el V.wd fun j => V.at' i.toNat j) else none
          | none => none
        | .sl ν => match hp ν with
          | some (.arr _ _ c) => match c.view with
            | some V => if V.wd = te.size then retC (0 ≤ i ∧ i < V.len) (.ea ν i.toNat 0) else none
            | none => none
          | _ => none
        | _ => none
      | none => none
    | _ => none
  | _, _ => none
def optI (d : Int) : Option AV → Option Int
  | none => some d
  | some (.c (.int _ n)) => some n
  | _ => none
def sliceW (ti : TI) (hp : Hp) (T : TypeId) (x : AV) (lo hi : Option AV) : Option Eff :=
  match ti T with
  | some t => match t.sh with
    | .slice e => match ti e with
      | some te => match x with
        | .c c => match c.view with
          | some V => match optI 0 lo, optI V.len hi with
            | some l, some h => if V.wd = te.size then match subC l.toNat h.toNat c with
              | some c' => retC (0 ≤ l ∧ l ≤ h ∧ h ≤ V.len) (.c c')
              | none => none
              else none
            | _, _ => none
          | none => none
        | .sl ν => match hp ν with
          | some (.arr T' nn c) => match c.view with
            | some V => match optI 0 lo, optI V.len hi with
              | some l, some h => if V.wd = te.size then match subC l.toNat h.toNat c with
                | some c' => some ⟨0 ≤ l ∧ l ≤ h ∧ h ≤ V.len, [.arr T' ⟨nn.nn, nn.hd && l == 0⟩ c'], [(ν, .dead)], fun ν' => .sl (ν'.getD 0 0)⟩
                | none => none
                else none
              | _, _ => none
            | none => none
          | _ => none
        | _ => none
      | none => none
    | _ => none
  | none => none
def appendW (ti : TI) (hp : Hp) (T : TypeId) (x y : AV) : Option Eff :=
  match ti T with
  | some t => match t.sh with
    | .slice e => match ti e with
      | some te => match slC hp y, te.em with
        | some d, some em => match lenC d with
          | some m => match x with
            | .c .nul => match catC em d with
              | some c' => some ⟨m ≤ 1048576, [.arr e .may c'], [], fun ν' => .sl (ν'.getD 0 0)⟩
              | none => none
            | .sl ν => match hp ν with
              | some (.arr T' nn c) => match c.view, catC c d with
                | some V, some c' => if T' = e ∧ V.wd = te.size then some ⟨V.len + m ≤ 1048576, [.arr e nn c'], [(ν, .dead)], fun ν' => .sl (ν'.getD 0 0)⟩ else none
                | _, _ => none
              | _ => none
            | _ => none
          | none => none
        | _, _ => none
      | none => none
    | _ => none
  | none => none
def lenW (hp : Hp) (x : AV) : Option Eff :=
  match slC hp x with
  | some c => match lenC c with
    | some n => ret (.c (.int .i64 n))
    | none => none
  | none => none
def maxW : List AV → Option Eff
  | [.c (.int k a), .c (.int k' b)] => if k = k' then ret (.c (.int k (if b > a then b else a))) else none
  | _ => none
def minW : List AV → Option Eff
  | [.c (.int k a), .c (.int k' b)] => if k = k' then ret (.c (.int k (if b < a then b else a))) else none
  | _ => none
def fieldAddrW (ti : TI) (hp : Hp) (T : TypeId) (x : AV) (f : Nat) : Option Eff :=
  match ti T with
  | some t => match t.sh with
    | .struct fs => match fs[f]? with
      | some (o, T') => match ti T' with
        | some t' => if 0 < t'.size then match x with
          | .ad ν off => match hp ν with
            | some (.box _) => ret (.ad ν (off + o))
            | _ => none
          | .el wd g => if o ≤ wd then ret (.el (wd - o) fun j => g (o + j)) else none
          | .ea ν i j => match hp ν with
            | some (.arr _ _ _) => ret (.ea ν i (j + o))
            | _ => none
          | _ => none
          else none
        | none => none
      | none => none
    | _ => none
  | none => none
def fieldW (ti : TI) (T : TypeId) (x : AV) (f : Nat) : Option Eff :=
  match ti T with
  | some t => match t.sh with
    | .struct fs => match fs[f]? with
      | some (o, T') => match x, ti T' with
        | .agg l, some t' => if t'.sh.isStruct then ret (.agg ((l.drop o).take t'.size)) else (match l[o]? with
          | some a => ret a
          | none => none)
        | _, _ => none
      | none => none
    | _ => none
  | none => none
def buildW (ti : TI) (T : TypeId) (parts : List (Nat × AV)) : Option Eff :=
  match ti T with
  | some t => match t.sh with
    | .struct fs => match fillA ti fs t.zero parts with
      | some l => ret (.agg l)
      | none => none
    | _ => none
  | none => none
def buildSliceW (ti : TI) (hp : Hp) (T : TypeId) (n : Nat) (parts : List (Nat × AV)) : Option Eff :=
  match ti T with
  | some t => match t.sh with
    | .slice e => match ti e with
      | some te => match te.em with
        | some em => if parts.map (·.1) = List.range n ∧ n ≤ 1000 ∧ te.size ≤ 1000 then
            match bldC hp em (parts.map (·.2)) with
            | some (c, fz) => some ⟨True, [.arr e .yes c], deads fz, fun ν' => .sl (ν'.getD 0 0)⟩
            | none => none
          else none
        | none => none
      | none => none
    | _ => none
  | none => none
def makeW (ti : TI) (T : TypeId) (l c : AV) : Option Eff :=
  match ti T, l, c with
  | some t, .c (.int _ n), .c (.int _ n') => match t.sh with
    | .slice e => match ti e with
      | some te => match te.em, pureCs te.zero with
        | some em, some z => match zeroC n.toNat z em with
          | some c' => some ⟨0 ≤ n ∧ n ≤ 1048576 ∧ n' = n, [.arr e .yes c'], [], fun ν' => .sl (ν'.getD 0 0)⟩
          | none => none
        | _, _ => none
      | none => none
    | _ => none
  | _, _, _ => none
def convW (ti : TI) (dst : TypeId) : AV → Option Eff
  | .c (.int _ n) => match ti dst with
    | some t => match t.sh with
      | .int k => ret (.c (.int k (k.wrap n)))
      | _ => none
    | none => none
  | _ => none

def nilW (hp : Hp) : AV → Option Eff
  | .ad ν off => match hp ν with
    | some (.box _) => ret (.ad ν off)
    | _ => none
  | .el wd f => ret (.el wd f)
  | .ea ν i j => match hp ν with
    | some (.arr _ _ _) => ret (.ea ν i j)
    | _ => none
  | _ => none
def opW (ti : TI) (ev : Operand → AV) (hp : Hp) : Op → Option Eff
  | .move x | .assign x => ret (ev x)
  | .pick c a b => match ev c with
    | .c (.bool t) => ret (if t then ev a else ev b)
    | _ => none
  | .alloc T => match ti T with
    | some t => some ⟨True, [.box t.zero], [], fun ν => .ad (ν.getD 0 0) 0⟩
    | none => none
  | .box _ x => match (ev x).cells with
    | some l => some ⟨True, [.box l], [], fun ν => .ad (ν.getD 0 0) 0⟩
    | none => none
  | .build T parts => buildW ti T (parts.toList.map fun p => (p.1, ev p.2))
  | .buildSlice T n parts => buildSliceW ti hp T n (parts.toList.map fun p => (p.1, ev p.2))
  | .load T x => loadW ti hp T (ev x)
  | .store T x y => storeW ti hp T (ev x) (ev y)
  | .nilCheck x => nilW hp (ev x)
  | .binOp op T x y _ => binW ti hp op T (ev x) (ev y)
  | .unOp op _ x => unW op (ev x)
  | .convert src dst x => match ti src with
    | some _ => convW ti dst (ev x)
    | none => none
  | .makeFunc fn first cap => if first.size = 0 then ret (.fn fn (cap.toList.map ev)) else none
  | .makeSlice T l c => makeW ti T (ev l) (ev c)
  | .slice T x lo hi mx => match mx with
    | none => sliceW ti hp T (ev x) (lo.map ev) (hi.map ev)
    | some _ => none
  | .fieldAddr T x f => fieldAddrW ti hp T (ev x) f
  | .field T x f => fieldW ti T (ev x) f
  | .indexAddr T x ix => indexW ti hp T (ev x) (ev ix)
  | .extract x i => match ev x with
    | .tup l => match l[i]? with
      | some a => ret a
      | none => none
    | _ => none
  | .call c => match c.callee with
    | .builtin .len => match c.args.toList, c.argTypes.toList with
      | [x], [T] => match ti T with
        | some t => match t.sh with
          | .slice _ => lenW hp (ev x)
          | _ => none
        | none => none
      | _, _ => none
    | .builtin .append => match c.args.toList, c.argTypes.toList with
      | [x, y], [T, T'] => if T = T' then appendW ti hp T (ev x) (ev y) else none
      | _, _ => none
    | .builtin .max => maxW (c.args.toList.map ev)
    | .builtin .min => minW (c.args.toList.map ev)
    | _ => none
  | _ => none

/-! ### The names in a value -/
mutual
def AV.names : AV → List Nat
  | .sl ν => [ν]
  | .ad ν _ => [ν]
  | .ea ν _ _ => [ν]
  | .agg l => namesL l
  | .tup l => namesL l
  | .fn _ l => namesL l
  | .any | .c _ | .k _ | .el _ _ => []
def namesL : List AV → List Nat
  | [] => []
  | a :: l => a.names ++ namesL l
end
end Go.Proofs.Ythdioaeekhkgcaa
namespace Go.Proofs.Ythdioaeekhkgcaa
set_option linter.unusedVariables false
set_option linter.unusedSimpArgs false
open Go.RowKit

theorem hpUp_app (hp : Hp) (l m : List (Nat × Ent)) : hpUp hp (l ++ m) = hpUp (hpUp hp l) m := by
  induction l generalizing hp with
  | nil => rfl
  | cons p l ih => exact ih _
theorem hpUp_deads {hp : Hp} {l : List Nat} {ν : Nat} : hpUp hp (deads l) ν = if ν ∈ l then some .dead else hp ν := by
  induction l generalizing hp with
  | nil => rfl
  | cons x l ih =>
    show hpUp (upd hp x (some .dead)) (deads l) ν = _
    rw [ih]
    by_cases h1 : ν ∈ l
    · rw [if_pos h1, if_pos (List.mem_cons_of_mem _ h1)]
    · rw [if_neg h1]
      by_cases h2 : ν = x
      · subst h2; rw [upd_same, if_pos List.mem_cons_self]
      · rw [upd_ne h2, if_neg (by simp [h1, h2])]
/-- Some names are given up. -/
theorem live_deads {hp : Hp} {l : List Nat} {ν : Nat} : Live (hpUp hp (deads l)) ν ↔ ¬ ν ∈ l ∧ Live hp ν := by
  unfold Live
  rw [hpUp_deads]
  by_cases h : ν ∈ l
  · simp only [h, ↓reduceIte, not_true, false_and, iff_false]
    rintro ⟨e, he, hk⟩
    injection he with he; subst he; exact hk rfl
  · simp [h]
theorem fin_up {hp : Hp} (h : ∃ b, ∀ ν, b ≤ ν → hp ν = none) (ν : Nat) (e : Ent) : ∃ b, ∀ ν', b ≤ ν' → upd hp ν (some e) ν' = none := by
  obtain ⟨b, hb⟩ := h
  exact ⟨b + ν + 1, fun ν' h => by rw [upd_ne (by omega)]; exact hb _ (by omega)⟩
theorem fin_deads {hp : Hp} (h : ∃ b, ∀ ν, b ≤ ν → hp ν = none) (l : List Nat) : ∃ b, ∀ ν', b ≤ ν' → hpUp hp (deads l) ν' = none := by
  induction l generalizing hp with
  | nil => exact h
  | cons x l ih => exact ih (fin_up h x .dead)
/-- The content of a name, read when nobody owns its block any more. -/
theorem rd_of_ent {φ : Nat → Loc} {hp : Hp} {w w' : World} {loc : Loc} {T : TypeId} {nn : Fl} {c : C} {O' : Nat → Prop} (h : EntC φ hp w loc (.arr T nn c))
    (hb : ∀ b, b < w.heap.size → (¬ Own φ hp b ∨ loc.blk = some b) → w'.heap[b]? = w.heap[b]? ∧ ¬ O' b) (hz : w.heap.size ≤ w'.heap.size) : Rd O' w' (if nn.nn then .nn c else c) loc.val := by
  have core : ∀ (nn' : Bool), (nn' = true → nn.nn = true) → Rd O' w' (if nn' then .nn c else c) loc.val := by
    intro nn' hnn
    obtain ⟨V, hv, hc0, ⟨rfl, h0, h1⟩ | ⟨g, o, cp, cur, rfl, h1, h2, h3, h4, _, h5⟩⟩ := h
    · have e : nn' = false := by cases nn' with | false => rfl | true => rw [hnn rfl] at h1; cases h1
      subst e
      simp only [Bool.false_eq_true, if_false, Loc.val]
      have := Rd.sl (O := O') (w := w') (c := c) (V := V) (sa := none) (cp := 0) (vs := fun _ _ => undef) hv (fun hn => ?_) (by omega) (by omega) (fun _ => ⟨h0, rfl⟩) (fun ad e => by cases e) (fun ad e => by cases e) (fun i hi => by omega)
      · rw [h0] at this; exact this
      · rw [hc0] at hn; cases hn
    · have hg : g < w.heap.size := (Array.getElem?_eq_some_iff.1 h1).1
      obtain ⟨hs1, hs2⟩ := hb g hg (.inr rfl)
      have hv' : (if nn' then C.nn c else c).view = some V := by cases nn' <;> exact hv
      refine .sl (vs := fun i j => (cur[o + (i * V.wd + j)]?).getD undef) hv' (fun _ e => by cases e) h2 h3 (fun e => by cases e) (fun ad e hl => ?_) (fun ad e i hi j hj => ?_) (fun i hi j hj => ?_)
      · injection e with e; subst e; exact ⟨rfl, hs2, Nat.lt_of_lt_of_le hg hz⟩
      · injection e with e; subst e
        obtain ⟨v, h6, _⟩ := h5 i hi j hj
        rw [World.cell_same hs1]
        simp [World.cell?, h1, h6]
      · obtain ⟨v, h6, h7⟩ := h5 i hi j hj
        rw [h6]
        exact h7.mono (fun b hb1 hb2 => hb b hb1 (.inl hb2)) hz
  exact core nn.nn fun h => h

theorem toC_dom {hp : Hp} {a : AV} {c : C} {fz : List Nat} (h : toC hp a = some (c, fz)) : ∀ ν, ν ∈ fz → ∃ T nn d, hp ν = some (.arr T nn d) := by
  cases a with
  | c d => simp only [toC, Option.some.injEq, Prod.mk.injEq] at h; obtain ⟨rfl, rfl⟩ := h; intro ν hν; cases hν
  | sl ν0 =>
    simp only [toC] at h
    split at h
    · rename_i T nn d he
      simp only [Option.some.injEq, Prod.mk.injEq] at h; obtain ⟨rfl, rfl⟩ := h
      intro ν hν
      simp only [List.mem_singleton] at hν
      subst hν
      exact ⟨T, nn, d, he⟩
    · cases h
  | _ => cases h
/-- What is given up reads as plain data. -/
theorem toC_rd {φ : Nat → Loc} {hp : Hp} {lo : Nat} {w0 w w' : World} {a : AV} {c : C} {fz : List Nat} {v : Value} {O' : Nat → Prop} (H : HC φ hp lo w0 w) (h : toC hp a = some (c, fz)) (hv : AVC φ hp w a v)
    (hb : ∀ b, b < w.heap.size → (¬ Own φ hp b ∨ ∃ ν, ν ∈ fz ∧ Live hp ν ∧ (φ ν).blk = some b) → w'.heap[b]? = w.heap[b]? ∧ ¬ O' b) (hz : w.heap.size ≤ w'.heap.size) : Rd O' w' c v := by
  cases a with
  | c d =>
    simp only [toC, Option.some.injEq, Prod.mk.injEq] at h; obtain ⟨rfl, rfl⟩ := h
    cases hv with
    | c h => exact h.mono (fun b h1 h2 => hb b h1 (.inl h2)) hz
  | sl ν0 =>
    simp only [toC] at h
    split at h
    · rename_i T nn d he
      simp only [Option.some.injEq, Prod.mk.injEq] at h; obtain ⟨rfl, rfl⟩ := h
      have hl : Live hp ν0 := ⟨_, he, by simp [Ent.kind]⟩
      have e : v = (φ ν0).val := by
        cases hv with
        | sl => rfl
        | sld h2 hk => rw [he] at h2; injection h2 with h2; subst h2; simp [Ent.kind] at hk
      subst e
      exact rd_of_ent (H.ent ν0 _ he) (fun b h1 h2 => hb b h1 (h2.imp id fun h3 => ⟨ν0, List.mem_singleton.2 rfl, hl, h3⟩)) hz
    · cases h
  | _ => cases h
/-- A new name: in a new block, or in the block of a name that is given up. -/
theorem HC.put {φ : Nat → Loc} {hp : Hp} {lo : Nat} {w0 w w' : World} (H : HC φ hp lo w0 w) {fz : List Nat} {ν : Nat} (hν : hp ν = none) (hfz : ∀ x, x ∈ fz → ∃ e, hp x = some e ∧ e.kind = 1) {loc : Loc} {e : Ent}
    (hw : Below lo w0 w') (hz : w.heap.size ≤ w'.heap.size) (hloc : ∀ g, loc.blk = some g → w.heap.size ≤ g ∨ ∃ x, x ∈ fz ∧ Mine hp x ∧ (φ x).blk = some g)
    (hun : ∀ b, b < w.heap.size → loc.blk ≠ some b → w'.heap[b]? = w.heap[b]?) (hent : Evo φ hp w (upd φ ν loc) (upd (hpUp hp (deads fz)) ν (some e)) w' → EntC (upd φ ν loc) (upd (hpUp hp (deads fz)) ν (some e)) w' loc e) :
    HC (upd φ ν loc) (upd (hpUp hp (deads fz)) ν (some e)) lo w0 w' ∧ Evo φ hp w (upd φ ν loc) (upd (hpUp hp (deads fz)) ν (some e)) w' := by
  have hνf : ¬ ν ∈ fz := fun h => by obtain ⟨e, he, _⟩ := hfz ν h; rw [hν] at he; cases he
  have live' : ∀ x, x ≠ ν → (Live (upd (hpUp hp (deads fz)) ν (some e)) x ↔ ¬ x ∈ fz ∧ Live hp x) := by
    intro x hx
    unfold Live
    rw [upd_ne hx]
    exact live_deads
  have hφ : ∀ x, x ≠ ν → upd φ ν loc x = φ x := fun x hx => upd_ne hx
  have own' : ∀ b, b < w.heap.size → Own (upd φ ν loc) (upd (hpUp hp (deads fz)) ν (some e)) b → Own φ hp b := by
    rintro b hb ⟨x, hx, hxb⟩
    by_cases ex : x = ν
    · subst ex
      rw [upd_same] at hxb
      rcases hloc b hxb with h | ⟨y, _, h2, h3⟩
      · omega
      · exact ⟨y, h2.live, h3⟩
    · rw [hφ x ex] at hxb
      exact ⟨x, ((live' x ex).1 hx).2, hxb⟩
  have E : Evo φ hp w (upd φ ν loc) (upd (hpUp hp (deads fz)) ν (some e)) w' := by
    refine ⟨fun x e0 hx => ?_, fun b hb ho => ⟨hun b hb fun h => ?_, fun h => ho (own' b hb h)⟩, hz⟩
    · have ex : x ≠ ν := fun h => by subst h; rw [hν] at hx; cases hx
      rw [upd_ne ex, hpUp_deads, hφ x ex]
      by_cases h : x ∈ fz
      · rw [if_pos h]; obtain ⟨e1, f1, f2⟩ := hfz x h; rw [hx] at f1; injection f1 with f1; subst f1; exact ⟨.dead, rfl, .inl ⟨rfl, by omega⟩⟩
      · rw [if_neg h]; exact ⟨e0, hx, .inr ⟨rfl, rfl⟩⟩
    · rcases hloc b h with h1 | ⟨y, _, h2, h3⟩
      · omega
      · exact ho ⟨y, h2.live, h3⟩
  refine ⟨H.step hw E (fun x => x = ν ∨ x ∈ fz) (fin_up (fin_deads H.fin fz) ν e) (fun x hx => ?_) (fun x hx hl b hb => ?_) (fun x hx e' he' => ?_) (fun x hx hl b hb => ?_) (fun x x' hx hne h1 h2 b h3 h4 => ?_), E⟩
  · have h1 : x ≠ ν := fun h => hx (.inl h)
    have h2 : ¬ x ∈ fz := fun h => hx (.inr h)
    rw [upd_ne h1, hpUp_deads, if_neg h2, hφ x h1]; exact ⟨rfl, rfl⟩
  · have h1 : x ≠ ν := fun h => hx (.inl h)
    have h2 : ¬ x ∈ fz := fun h => hx (.inr h)
    refine hun b (H.lt hl hb) fun h => ?_
    rcases hloc b h with h3 | ⟨y, h4, h5, h6⟩
    · have := H.lt hl hb; omega
    · exact H.sep x y b (fun e => h2 (by subst e; exact h4)) hl h5.live hb h6
  · by_cases ex : x = ν
    · subst ex
      rw [upd_same] at he' ⊢
      injection he' with he'; subst he'
      exact hent E
    · have h2 : x ∈ fz := hx.resolve_left ex
      rw [upd_ne ex, hpUp_deads, if_pos h2] at he'
      injection he' with he'; subst he'; trivial
  · by_cases ex : x = ν
    · subst ex
      rw [upd_same] at hb
      rcases hloc b hb with h | ⟨y, _, h2, h3⟩
      · have := H.l0; omega
      · exact H.lo y b h2 h3
    · exact absurd (hx.resolve_left ex) ((live' x ex).1 hl.live).1
  · by_cases ex : x = ν
    · subst ex
      rw [upd_same] at h3
      have ex' : x' ≠ x := Ne.symm hne
      obtain ⟨h5, h6⟩ := (live' x' ex').1 h2
      rw [hφ x' ex'] at h4
      rcases hloc b h3 with h | ⟨y, h7, h8, h9⟩
      · have := H.lt h6 h4; omega
      · exact H.sep x' y b (fun e => h5 (by subst e; exact h7)) h6 h8.live h4 h9
    · exact absurd (hx.resolve_left ex) ((live' x ex).1 h1).1
/-- A name's block is written. -/
theorem HC.write {φ : Nat → Loc} {hp : Hp} {lo : Nat} {w0 w w' : World} (H : HC φ hp lo w0 w) {fz : List Nat} {ν : Nat} {e e' : Ent} (hν : hp ν = some e) (hk : e'.kind = e.kind) (hk2 : e.kind ≠ 2) (hfz : ∀ x, x ∈ fz → ∃ e, hp x = some e ∧ e.kind = 1) (hνf : ¬ ν ∈ fz)
    (hw : Below lo w0 w') (hz : w.heap.size ≤ w'.heap.size) (hun : ∀ b, b < w.heap.size → (φ ν).blk ≠ some b → w'.heap[b]? = w.heap[b]?)
    (hent : Evo φ hp w φ (upd (hpUp hp (deads fz)) ν (some e')) w' → EntC φ (upd (hpUp hp (deads fz)) ν (some e')) w' (φ ν) e') :
    HC φ (upd (hpUp hp (deads fz)) ν (some e')) lo w0 w' ∧ Evo φ hp w φ (upd (hpUp hp (deads fz)) ν (some e')) w' := by
  have hlν : Live hp ν := ⟨e, hν, hk2⟩
  have live' : ∀ x, Live (upd (hpUp hp (deads fz)) ν (some e')) x ↔ ¬ x ∈ fz ∧ Live hp x := by
    intro x
    by_cases ex : x = ν
    · subst ex
      refine ⟨fun _ => ⟨hνf, hlν⟩, fun _ => ⟨e', upd_same _ _ _, by rw [hk]; exact hk2⟩⟩
    · unfold Live
      rw [upd_ne ex]
      exact live_deads
  have own' : ∀ b, Own φ (upd (hpUp hp (deads fz)) ν (some e')) b → Own φ hp b := by
    rintro b ⟨x, hx, hxb⟩
    exact ⟨x, ((live' x).1 hx).2, hxb⟩
  have E : Evo φ hp w φ (upd (hpUp hp (deads fz)) ν (some e')) w' := by
    refine ⟨fun x e0 hx => ?_, fun b hb ho => ⟨hun b hb fun h => ho ⟨ν, hlν, h⟩, fun h => ho (own' b h)⟩, hz⟩
    by_cases ex : x = ν
    · subst ex
      rw [hν] at hx; injection hx with hx; subst hx
      exact ⟨e', upd_same _ _ _, .inr ⟨hk, rfl⟩⟩
    · rw [upd_ne ex, hpUp_deads]
      by_cases h : x ∈ fz
      · rw [if_pos h]; obtain ⟨e1, f1, f2⟩ := hfz x h; rw [hx] at f1; injection f1 with f1; subst f1; exact ⟨.dead, rfl, .inl ⟨rfl, by omega⟩⟩
      · rw [if_neg h]; exact ⟨e0, hx, .inr ⟨rfl, rfl⟩⟩
  refine ⟨H.step hw E (fun x => x = ν ∨ x ∈ fz) (fin_up (fin_deads H.fin fz) ν e') (fun x hx => ?_) (fun x hx hl b hb => ?_) (fun x hx e0 he0 => ?_) (fun x hx hl b hb => ?_) (fun x x' hx hne h1 h2 b h3 h4 => ?_), E⟩
  · have h1 : x ≠ ν := fun h => hx (.inl h)
    have h2 : ¬ x ∈ fz := fun h => hx (.inr h)
    rw [upd_ne h1, hpUp_deads, if_neg h2]; exact ⟨rfl, rfl⟩
  · have h1 : x ≠ ν := fun h => hx (.inl h)
    exact hun b (H.lt hl hb) fun h => H.sep x ν b h1 hl hlν hb h
  · by_cases ex : x = ν
    · subst ex
      rw [upd_same] at he0
      injection he0 with he0; subst he0
      exact hent E
    · have h2 : x ∈ fz := hx.resolve_left ex
      rw [upd_ne ex, hpUp_deads, if_pos h2] at he0
      injection he0 with he0; subst he0; trivial
  · by_cases ex : x = ν
    · subst ex
      obtain ⟨e1, g1, g2⟩ := hl
      rw [upd_same] at g1
      injection g1 with g1; subst g1
      exact H.lo x b ⟨e, hν, by omega⟩ hb
    · exact absurd (hx.resolve_left ex) ((live' x).1 hl.live).1
  · exact H.sep x x' b hne ((live' x).1 h1).2 ((live' x').1 h2).2 h3 h4
/-- Nothing but draws. -/
theorem HC.same {φ : Nat → Loc} {hp : Hp} {lo : Nat} {w0 w w' : World} (H : HC φ hp lo w0 w) (h1 : w'.heap = w.heap) (h2 : w'.os = w.os) (h3 : w'.tape = w.tape) (h4 : w'.output = w.output) : HC φ hp lo w0 w' ∧ Evo φ hp w φ hp w' := by
  have E : Evo φ hp w φ hp w' := ⟨fun ν e h => ⟨e, h, .inr ⟨rfl, rfl⟩⟩, fun b _ h => ⟨by rw [h1], h⟩, by rw [h1]; exact Nat.le_refl _⟩
  have hb : Below lo w0 w' := ⟨by rw [h2]; exact H.fr.os, by rw [h3]; exact H.fr.tape, by rw [h4]; exact H.fr.output, by rw [h1]; exact H.fr.size, fun b hb' => by rw [h1]; exact H.fr.block b hb'⟩
  exact ⟨⟨hb, by rw [h1]; exact H.l0, H.fin, fun ν e he => (H.ent ν e he).evo E fun _ b _ => by rw [h1], H.sep, H.lo⟩, E⟩
end Go.Proofs.Ythdioaeekhkgcaa
namespace Go.Proofs.Ythdioaeekhkgcaa
set_option linter.unusedVariables false
set_option linter.unusedSimpArgs false
open Go.RowKit

def ShOK : TSh → TypeDesc → Prop
  | .int k, d => d = .int k
  | .bool, d => d = .bool
  | .slice e, d => d = .slice e
  | .struct fs, d => ∃ F : Array Field, d = .struct F ∧ ∀ (i o : Nat) (T : TypeId), fs[i]? = some (o, T) → ∃ f : Field, F[i]? = some f ∧ f.offset = o ∧ f.type = T
  | .other, d => d.isRow = false
structure TOk (P : Program) (T : TypeId) (t : TInfo) (i : TypeInfo) (z : Value) (d : TypeDesc) : Prop where
  info : P.info? T = some i
  size : i.size = t.size
  bytes : i.bytes ≤ 1024
  zero : i.zero = some z
  zlen : z.cells.size = t.zero.length
  zlen2 : t.zero.length = t.size
  zval : ∀ j, j < t.zero.length → ∀ φ hp w, AVC φ hp w (t.zero.getD j .any) (z.cells.getD j undef)
  zone : t.zero.all AV.one = true
  und : P.underlying T = some d
  sh : ShOK t.sh d
  pl : ∀ F fs, t.sh = .struct fs → d = .struct F → ∃ places, F.toList.mapM (fun f => (P.info? f.type).map fun i => (f.offset, i.size)) = some places ∧ ∀ (i o : Nat) (T' : TypeId), fs[i]? = some (o, T') → ∃ i', P.info? T' = some i' ∧ places[i]? = some (o, i'.size)
  em : ∀ c, t.em = some c → c.isNN = false ∧ ∃ V, c.view = some V ∧ V.len = 0 ∧ V.wd = t.size
def TIok (P : Program) (ti : TI) : Prop := ∀ T t, ti T = some t → ∃ i z d, TOk P T t i z d

def hpNew : Hp → List Nat → List Ent → Hp
  | hp, ν :: νs, e :: es => hpNew (upd hp ν (some e)) νs es
  | hp, _, _ => hp
/-- What an operation leaves: for all new names. -/
def Out (φ : Nat → Loc) (hp : Hp) (lo : Nat) (w0 w : World) (up : List (Nat × Ent)) (nw : List Ent) (val : List Nat → AV) (v : Value) (w' : World) : Prop :=
  ∀ ν : List Nat, ν.length = nw.length → ν.Nodup → (∀ x, x ∈ ν → hp x = none) → ∃ φ', HC φ' (hpNew (hpUp hp up) ν nw) lo w0 w' ∧ Evo φ hp w φ' (hpNew (hpUp hp up) ν nw) w' ∧ AVC φ' (hpNew (hpUp hp up) ν nw) w' (val ν) v

section
variable {φ : Nat → Loc} {hp : Hp} {lo : Nat} {w0 w : World}
theorem out_ret (H : HC φ hp lo w0 w) {a : AV} {v : Value} (h : AVC φ hp w a v) : Out φ hp lo w0 w [] [] (fun _ => a) v w := by
  intro ν hl _ _
  have : ν = [] := List.eq_nil_of_length_eq_zero hl
  subst this
  exact ⟨φ, H, Evo.refl _ _ _, h⟩
theorem avc_c {c : C} {v : Value} (h : AVC φ hp w (.c c) v) : Rd (Own φ hp) w c v := by cases h; assumption
theorem avc_int {k : IntKind} {n : Int} {v : Value} (h : AVC φ hp w (.c (.int k n)) v) : v = .int k n := by
  cases avc_c h with
  | int => rfl
  | sl hv => cases hv
theorem avc_bool {b : Bool} {v : Value} (h : AVC φ hp w (.c (.bool b)) v) : v = .bool b := by
  cases avc_c h with
  | bool => rfl
  | sl hv => cases hv
theorem avc_nul {v : Value} (h : AVC φ hp w (.c .nul) v) : v = .slice none 0 0 := by
  cases avc_c h with
  | nul => rfl
  | sl hv => cases hv
theorem avc_nn {c : C} {v : Value} (h : AVC φ hp w (.c (.nn c)) v) : ∃ a n cp, v = .slice (some a) n cp := by
  cases avc_c h with
  | @sl _ V sa cp vs hv hn => cases sa with
    | none => exact absurd rfl (hn rfl)
    | some a => exact ⟨a, _, _, rfl⟩
theorem avc_sl {ν : Nat} {v : Value} {T : TypeId} {nn : Fl} {c : C} (h : AVC φ hp w (.sl ν) v) (he : hp ν = some (.arr T nn c)) : v = (φ ν).val := by
  cases h with
  | sl => rfl
  | sld h2 hk => rw [he] at h2; injection h2 with h2; subst h2; simp [Ent.kind] at hk
theorem avc_ad {ν off : Nat} {v : Value} {l : List AV} (h : AVC φ hp w (.ad ν off) v) (he : hp ν = some (.box l)) : ∃ g n cp wd, φ ν = .at g 0 n cp wd ∧ v = .pointer (some ⟨g, off, none⟩) := by
  cases h with
  | ad _ _ hl => exact ⟨_, _, _, _, hl, rfl⟩
  | add h2 hk => rw [he] at h2; injection h2 with h2; subst h2; simp [Ent.kind] at hk
theorem avc_ea {ν i j : Nat} {v : Value} {T : TypeId} {nn : Fl} {c : C} (h : AVC φ hp w (.ea ν i j) v) (he : hp ν = some (.arr T nn c)) : ∃ g o n cp wd, φ ν = .at g o n cp wd ∧ v = .pointer (some ⟨g, o + (i * wd + j), none⟩) := by
  cases h with
  | ea _ _ hl => exact ⟨_, _, _, _, _, hl, rfl⟩
  | ead h2 hk => rw [he] at h2; injection h2 with h2; subst h2; simp [Ent.kind] at hk
end

section
variable {P : Program} {ti : TI}
theorem run_agg {T : TypeId} {t : TInfo} {i : TypeInfo} {z : Value} {d : TypeDesc} (h : TOk P T t i z d) (w : World) : (isAgg T).run P w = .ok t.sh.isStruct w := by
  unfold isAgg
  rw [Sem.run_bind, run_underlying h.und w]
  have hs := h.sh
  revert hs
  cases t.sh with
  | int k => intro hs; simp only [ShOK] at hs; subst hs; rfl
  | bool => intro hs; simp only [ShOK] at hs; subst hs; rfl
  | slice e => intro hs; simp only [ShOK] at hs; subst hs; rfl
  | struct fs => rintro ⟨F, rfl, _⟩; rfl
  | other => intro hs; cases d <;> first | rfl | (simp [ShOK, TypeDesc.isRow] at hs)

variable {φ : Nat → Loc} {hp : Hp} {lo : Nat} {w0 w : World}
/-- A pure operation. -/
def Okv (P : Program) (φ : Nat → Loc) (hp : Hp) (lo : Nat) (w0 w : World) (E : Eff) (s : Sem Value) : Prop := ∃ v w', s.run P w = .ok v w' ∧ Out φ hp lo w0 w E.up E.nw E.val v w'
theorem okv_ret (H : HC φ hp lo w0 w) {a : AV} {v : Value} {E : Eff} (hE : ret a = some E) {s : Sem Value} (hs : s.run P w = .ok v w) (h : AVC φ hp w a v) : Okv P φ hp lo w0 w E s := by
  injection hE with hE; subst hE
  exact ⟨v, w, hs, out_ret H h⟩
theorem okv_retC (H : HC φ hp lo w0 w) {a : AV} {p : Prop} {v : Value} {E : Eff} (hE : retC p a = some E) {s : Sem Value} (hs : s.run P w = .ok v w) (h : AVC φ hp w a v) : Okv P φ hp lo w0 w E s := by
  injection hE with hE; subst hE
  exact ⟨v, w, hs, out_ret H h⟩
theorem avc_i (k : IntKind) (n : Int) : AVC φ hp w (.c (.int k n)) (.int k n) := .c (.int k n)
theorem avc_b (b : Bool) : AVC φ hp w (.c (.bool b)) (.bool b) := .c (.bool b)

theorem run_eqB {T : TypeId} (hu : P.underlying T = some .bool) (a b : Bool) (w : World) : (Op.equal T (.bool a) (.bool b)).run P w = .ok (a == b) w := by
  show (Op.equalIn (9999 + 1) T (.bool a) (.bool b)).run P w = _
  rw [Op.equalIn]
  simp [run_underlying hu]
theorem run_eqN {T e : TypeId} (hu : P.underlying T = some (.slice e)) (w : World) : (Op.equal T (.slice none 0 0) (.slice none 0 0)).run P w = .ok true w := by
  show (Op.equalIn (9999 + 1) T _ _).run P w = _
  rw [Op.equalIn]
  simp [run_underlying hu]
theorem run_eqS {T e : TypeId} (hu : P.underlying T = some (.slice e)) (w : World) (a : Addr) (n c : Nat) : (Op.equal T (.slice (some a) n c) (.slice none 0 0)).run P w = .ok false w := by
  show (Op.equalIn (9999 + 1) T _ _).run P w = _
  rw [Op.equalIn]
  simp [run_underlying hu]
theorem binW_sound (hT : TIok P ti) (H : HC φ hp lo w0 w) {op : BinOp} {T : TypeId} {a b : AV} {u v : Value} {E : Eff} (x y : Operand) (h : binW ti hp op T a b = some E) (hc : E.cond) (ha : AVC φ hp w a u) (hb : AVC φ hp w b v) :
    Okv P φ hp lo w0 w E (do eqGuard op T x y u v; binOp op T u v) := by
  unfold binW at h
  split at h
  · rename_i k m k' n
    obtain rfl := avc_int ha
    obtain rfl := avc_int hb
    split at h
    · rename_i hk; subst hk
      have hg : ∀ op, (eqGuard op T x y (.int k m) (.int k n)).run P w = .ok () w := by intro op; cases op <;> simp [eqGuard]
      cases op <;> first
        | (simp only [reduceCtorEq] at h; done)
        | (refine okv_ret H h ?_ (avc_i _ _); simp [hg, binOp, Op.intArith]; done)
        | (refine okv_ret H h ?_ (avc_b _); simp [hg, binOp, Op.intCmp]; done)
        | (have hc' : n ≠ 0 := by (injection h with h; subst h; exact hc)
           refine okv_retC H h ?_ (avc_i _ _); simp [hg, binOp, Op.intDiv, hc']; done)
    · cases h
  · rename_i m n
    obtain rfl := avc_bool ha
    obtain rfl := avc_bool hb
    split at h
    · rename_i t ht
      obtain ⟨i, z, d, hok⟩ := hT T t ht
      split at h
      · rename_i hsh
        have hd := hok.sh
        rw [hsh] at hd
        simp only [ShOK] at hd
        have hu := hok.und
        rw [hd] at hu
        refine okv_ret H h ?_ (avc_b _)
        first | (simp [eqGuard, binOp, run_eqB hu]; done) | (simp [eqGuard, binOp, run_eqN hu]; done) | (simp [eqGuard, binOp, run_eqS hu]; done)
      · rename_i hsh
        have hd := hok.sh
        rw [hsh] at hd
        simp only [ShOK] at hd
        have hu := hok.und
        rw [hd] at hu
        refine okv_ret H h ?_ (avc_b _)
        first | (simp [eqGuard, binOp, run_eqB hu]; done) | (simp [eqGuard, binOp, run_eqN hu]; done) | (simp [eqGuard, binOp, run_eqS hu]; done)
      · cases h
    · cases h
  · obtain rfl := avc_nul ha
    obtain rfl := avc_nul hb
    split at h
    · rename_i t ht
      obtain ⟨i, z, d, hok⟩ := hT T t ht
      split at h
      all_goals first
        | (simp only [reduceCtorEq] at h; done)
        | (rename_i hsh
           have hd := hok.sh
           rw [hsh] at hd
           simp only [ShOK] at hd
           have hu := hok.und
           rw [hd] at hu
           refine okv_ret H h ?_ (avc_b _)
           first | (simp [eqGuard, binOp, run_eqB hu]; done) | (simp [eqGuard, binOp, run_eqN hu]; done) | (simp [eqGuard, binOp, run_eqS hu]; done)
           done)
    · cases h
  · obtain ⟨q, n, cp, rfl⟩ := avc_nn ha
    obtain rfl := avc_nul hb
    split at h
    · rename_i t ht
      obtain ⟨i, z, d, hok⟩ := hT T t ht
      split at h
      all_goals first
        | (simp only [reduceCtorEq] at h; done)
        | (rename_i hsh
           have hd := hok.sh
           rw [hsh] at hd
           simp only [ShOK] at hd
           have hu := hok.und
           rw [hd] at hu
           refine okv_ret H h ?_ (avc_b _)
           first | (simp [eqGuard, binOp, run_eqB hu]; done) | (simp [eqGuard, binOp, run_eqN hu]; done) | (simp [eqGuard, binOp, run_eqS hu]; done)
           done)
    · cases h
  · cases h
theorem unW_sound (H : HC φ hp lo w0 w) {op : UnOp} {a : AV} {u : Value} {E : Eff} (h : unW op a = some E) (ha : AVC φ hp w a u) : Okv P φ hp lo w0 w E (Op.unary op u) := by
  unfold unW at h
  split at h
  · obtain rfl := avc_bool ha
    split at h
    · exact okv_ret H h (by simp [Op.unary]) (avc_b _)
    · cases h
  · obtain rfl := avc_int ha
    split at h
    · exact okv_ret H h (by simp [Op.unary, Op.intArith]) (avc_i _ _)
    · cases h
  · cases h
theorem convW_sound (hT : TIok P ti) (H : HC φ hp lo w0 w) {src dst : TypeId} {a : AV} {u : Value} {E : Eff} (hsrc : ∃ d, P.underlying src = some d) (h : convW ti dst a = some E) (ha : AVC φ hp w a u) : Okv P φ hp lo w0 w E (convert src dst u) := by
  unfold convW at h
  split at h
  · obtain rfl := avc_int ha
    split at h
    · rename_i t ht
      obtain ⟨i, z, d, hok⟩ := hT _ t ht
      split at h
      · rename_i k hsh
        have hd := hok.sh
        rw [hsh] at hd
        simp only [ShOK] at hd
        have hu := hok.und
        rw [hd] at hu
        obtain ⟨d', hs⟩ := hsrc
        refine okv_ret H h ?_ (avc_i _ _)
        simp [convert, run_underlying hu, run_underlying hs, Conv.intToInt]
      · cases h
    · cases h
  · cases h
end
end Go.Proofs.Ythdioaeekhkgcaa
namespace Go.Proofs.Ythdioaeekhkgcaa
set_option linter.unusedVariables false
set_option linter.unusedSimpArgs false
open Go.RowKit

section
variable {P : Program} {ti : TI} {φ : Nat → Loc} {hp : Hp} {lo : Nat} {w0 w : World}
theorem avc_agg {l : List AV} {v : Value} (h : AVC φ hp w (.agg l) v) : ∃ vs : List Value, v = .agg vs.toArray ∧ vs.length = l.length ∧ ∀ i, i < l.length → AVC φ hp w (l.getD i .any) (vs.getD i undef) := by
  cases h with | agg hl h => exact ⟨_, rfl, hl, h⟩
theorem avc_tup {l : List AV} {v : Value} (h : AVC φ hp w (.tup l) v) : ∃ vs : List Value, v = .tuple vs.toArray ∧ vs.length = l.length ∧ ∀ i, i < l.length → AVC φ hp w (l.getD i .any) (vs.getD i undef) := by
  cases h with | tup hl h => exact ⟨_, rfl, hl, h⟩
theorem avc_el {wd : Nat} {f : Nat → C} {v : Value} (h : AVC φ hp w (.el wd f) v) : ∃ b o, ∃ vs : Nat → Value, v = .pointer (some ⟨b, o, none⟩) ∧ (∀ j, j < wd → w.cell? ⟨b, o + j, none⟩ = some (vs j)) ∧ (∀ j, j < wd → Rd (Own φ hp) w (f j) (vs j)) ∧ ¬ Own φ hp b ∧ b < w.heap.size := by
  cases h with | el h1 h2 h3 h4 => exact ⟨_, _, _, rfl, h1, h2, h3, h4⟩
theorem getD_get {α : Type} {l : List α} {i : Nat} {d : α} (h : i < l.length) : l.getD i d = l[i] := by simp [List.getD_eq_getElem?_getD, h]
theorem getD_some {α : Type} {l : List α} {i : Nat} {d a : α} (h : l[i]? = some a) : l.getD i d = a := by simp [List.getD_eq_getElem?_getD, h]
theorem agetD {α : Type} (l : Array α) (i : Nat) (d : α) : l.getD i d = l.toList.getD i d := by simp [List.getD_eq_getElem?_getD]
theorem getD_take_drop {α : Type} {l : List α} {o n i : Nat} {d : α} (h : i < n) : ((l.drop o).take n).getD i d = l.getD (o + i) d := by
  simp [List.getD_eq_getElem?_getD, h]

theorem run_load1 {T : TypeId} {w : World} {b o : Nat} {v : Value} (ha : (isAgg T).run P w = .ok false w) (hc : w.cell? ⟨b, o, none⟩ = some v) : (Instr.loadAt T (.pointer (some ⟨b, o, none⟩))).run P w = .ok v w := by
  simp [Instr.loadAt, Instr.sureAddr, loadVar, ha, load, Sem.run, hc]
theorem run_loadN {T : TypeId} {t : TInfo} {i : TypeInfo} {z : Value} {d : TypeDesc} (hok : TOk P T t i z d) (hs : t.sh.isStruct = true) {w : World} {b o : Nat} (cs : List Value) (hl : cs.length = t.size) (hc : ∀ j, j < cs.length → w.cell? ⟨b, o + j, none⟩ = some (cs.getD j undef)) :
    (Instr.loadAt T (.pointer (some ⟨b, o, none⟩))).run P w = .ok (.agg cs.toArray) w := by
  refine run_loadAt_mid w b o T cs d (fun j v hv => ?_) hok.und ?_ (by rw [hok.info]; simp [hok.size, hl])
  · have hj : j < cs.length := by
      rcases Nat.lt_or_ge j cs.length with h | h
      · exact h
      · rw [List.getElem?_eq_none h] at hv; cases hv
    rw [hc j hj, getD_some hv]
  · have h := hok.sh
    revert h hs
    cases t.sh with
    | struct fs => rintro _ ⟨F, rfl, _⟩; rfl
    | _ => intro hs; cases hs
theorem box_cells {ν : Nat} {l : List AV} (H : HC φ hp lo w0 w) (he : hp ν = some (.box l)) {g n cp wd : Nat} (hl : φ ν = .at g 0 n cp wd) :
    ∃ cur T, w.heap[g]? = some (.cells cur T (0, 0)) ∧ cur.size = l.length ∧ ∀ i, i < l.length → AVC φ hp w (l.getD i .any) (cur.getD i undef) := by
  obtain ⟨g', n', cp', wd', cur, T, h0, h1, h2, h3⟩ := H.ent ν _ he
  rw [hl] at h0
  injection h0 with h0
  subst h0
  exact ⟨cur, T, h1, h2, h3⟩
theorem arr_cells {ν : Nat} {T : TypeId} {nn : Fl} {c : C} (H : HC φ hp lo w0 w) (he : hp ν = some (.arr T nn c)) {g o n cp wd : Nat} (hl : φ ν = .at g o n cp wd) :
    ∃ V cur, c.view = some V ∧ c.isNN = false ∧ n = V.len ∧ wd = V.wd ∧ w.heap[g]? = some (.cells cur T (0, 0)) ∧ V.len ≤ cp ∧ cp ≤ 9223372036854775807 ∧ o + cp * V.wd ≤ cur.size ∧ (nn.hd = true → o = 0 ∧ cp * V.wd = cur.size) ∧
        ∀ i, i < V.len → ∀ j, j < V.wd → ∃ v, cur[o + (i * V.wd + j)]? = some v ∧ Rd (Own φ hp) w (V.at' i j) v := by
  obtain ⟨V, hv, hn, ⟨h0, _⟩ | ⟨g', o', cp', cur, h0, h1, h2, h3, h4, hh, h5⟩⟩ := H.ent ν _ he
  · rw [hl] at h0; cases h0
  · rw [hl] at h0
    injection h0 with e1 e2 e3 e4 e5
    subst e1 e2 e3 e4 e5
    exact ⟨V, cur, hv, hn, rfl, rfl, h1, h2, h3, h4, hh, h5⟩
theorem cell_of {w : World} {g o : Nat} {cur : Array Value} {T : TypeId} {v : Value} (h : w.heap[g]? = some (.cells cur T (0, 0))) (hc : cur[o]? = some v) : w.cell? ⟨g, o, none⟩ = some v := by
  simp [World.cell?, h, hc]
theorem range_getD {n i : Nat} {f : Nat → AV} (h : i < n) : ((List.range n).map f).getD i .any = f i := by
  simp [List.getD_eq_getElem?_getD, h]

theorem loadW_sound (hT : TIok P ti) (H : HC φ hp lo w0 w) {T : TypeId} {a : AV} {u : Value} {E : Eff} (h : loadW ti hp T a = some E) (hc : E.cond) (ha : AVC φ hp w a u) : Okv P φ hp lo w0 w E (Instr.loadAt T u) := by
  unfold loadW at h
  split at h
  · rename_i ν off
    split at h
    · rename_i l t he ht
      obtain ⟨i, z, d, hok⟩ := hT T t ht
      obtain ⟨g, n, cp, wd, hl, rfl⟩ := avc_ad ha he
      obtain ⟨cur, T', h1, h2, h3⟩ := box_cells H he hl
      have hcell : ∀ j, j < l.length → w.cell? ⟨g, j, none⟩ = some (cur.toList.getD j undef) := fun j hj => cell_of h1 (by
        rw [← Array.getElem?_toList, getD_get (by simp; omega)]; simp)
      split at h
      · rename_i hs
        split at h
        · rename_i hsz
          have hlen : ((cur.toList.drop off).take t.size).length = t.size := by simp; omega
          refine okv_ret H h (run_loadN hok hs _ hlen fun j hj => ?_) (.agg (by rw [hlen]; simp; omega) fun j hj => ?_)
          · rw [hlen] at hj; rw [getD_take_drop hj]; exact hcell (off + j) (by omega)
          · have hj' : j < t.size := Nat.lt_of_lt_of_le hj (List.length_take_le _ _)
            rw [getD_take_drop hj', getD_take_drop hj', ← agetD cur]; exact h3 (off + j) (by omega)
        · cases h
      · rename_i hs
        split at h
        · rename_i a' hq
          have hoff : off < l.length := by
            rcases Nat.lt_or_ge off l.length with h | h
            · exact h
            · rw [List.getElem?_eq_none h] at hq; cases hq
          refine okv_ret H h (run_load1 (by rw [run_agg hok]; simp [hs]) (hcell off hoff)) ?_
          have := h3 off hoff
          rw [getD_some hq, agetD] at this
          exact this
        · cases h
    · cases h
  · rename_i wd f
    split at h
    · rename_i t ht
      obtain ⟨i, z, d, hok⟩ := hT T t ht
      obtain ⟨b, o, vs, rfl, h1, h2, h3, h4⟩ := avc_el ha
      split at h
      · rename_i hs
        split at h
        · rename_i hsz
          refine okv_ret H h (run_loadN hok hs ((List.range t.size).map vs) (by simp) fun j hj => ?_) (.agg (by simp) fun j hj => ?_)
          · have hj' : j < t.size := by simpa using hj
            rw [h1 j (by omega)]; simp [List.getD_eq_getElem?_getD, hj']
          · have hj' : j < t.size := by simpa using hj
            rw [range_getD hj']
            have : ((List.range t.size).map vs).getD j undef = vs j := by simp [List.getD_eq_getElem?_getD, hj']
            rw [this]
            exact .c (h2 j (by omega))
        · cases h
      · rename_i hs
        split at h
        · rename_i hwd
          exact okv_ret H h (run_load1 (by rw [run_agg hok]; simp [hs]) (h1 0 hwd)) (.c (h2 0 hwd))
        · cases h
    · cases h
  · rename_i ν i j
    split at h
    · rename_i T' nn c t he ht
      obtain ⟨i', z, d, hok⟩ := hT T t ht
      obtain ⟨g, o, n, cp, wd, hl, rfl⟩ := avc_ea ha he
      obtain ⟨V, cur, hv, hnn, rfl, rfl, h1, h2, h3, h4, hh, h5⟩ := arr_cells H he hl
      rw [hv] at h
      simp only at h
      split at h
      · rename_i hs
        have hc' : i < V.len ∧ j + t.size ≤ V.wd := by injection h with h; subst h; exact hc
        refine okv_retC H h (run_loadN hok hs ((List.range t.size).map fun q => (cur[o + (i * V.wd + (j + q))]?).getD undef) (by simp) fun q hq => ?_) (.agg (by simp) fun q hq => ?_)
        · have hq' : q < t.size := by simpa using hq
          obtain ⟨v, h6, h7⟩ := h5 i hc'.1 (j + q) (by omega)
          rw [show o + (i * V.wd + j) + q = o + (i * V.wd + (j + q)) by omega, cell_of h1 h6]
          simp [List.getD_eq_getElem?_getD, hq', h6]
        · have hq' : q < t.size := by simpa using hq
          obtain ⟨v, h6, h7⟩ := h5 i hc'.1 (j + q) (by omega)
          rw [range_getD hq']
          have : ((List.range t.size).map fun q => (cur[o + (i * V.wd + (j + q))]?).getD undef).getD q undef = v := by simp [List.getD_eq_getElem?_getD, hq', h6]
          rw [this]
          exact .c h7
      · rename_i hs
        have hc' : i < V.len ∧ j < V.wd := by injection h with h; subst h; exact hc
        obtain ⟨v, h6, h7⟩ := h5 i hc'.1 j hc'.2
        exact okv_retC H h (run_load1 (by rw [run_agg hok]; simp [hs]) (cell_of h1 h6)) (.c h7)
    · cases h
  · cases h

theorem lenC_view {c : C} {V : View} {n : Nat} (hv : c.view = some V) (h : lenC c = some n) : n = V.len := by
  cases c <;> first
    | (simp only [C.view, reduceCtorEq] at hv; done)
    | (simp only [lenC, hv, Option.some.injEq] at h; exact h.symm)
/-- A slice value's length. -/
theorem rd_len {O : Nat → Prop} {c : C} {v : Value} {n : Nat} (h : Rd O w c v) (hl : lenC c = some n) : ∃ sa cp, v = .slice sa n cp := by
  cases h with
  | int => simp [lenC, C.view] at hl
  | bool => simp [lenC, C.view] at hl
  | nul => simp [lenC] at hl; subst hl; exact ⟨_, _, rfl⟩
  | sl hv => have := lenC_view hv hl; subst this; exact ⟨_, _, rfl⟩
theorem slC_rd (H : HC φ hp lo w0 w) {a : AV} {c : C} {v : Value} (h : slC hp a = some c) (ha : AVC φ hp w a v) : Rd (fun _ => False) w c v := by
  have : ∃ fz, toC hp a = some (c, fz) := by
    unfold slC at h
    split at h
    · injection h with h; subst h; exact ⟨[], rfl⟩
    · rename_i ν
      split at h
      · rename_i T nn d he
        injection h with h; subst h
        exact ⟨[ν], by simp [toC, he]⟩
      · cases h
    · cases h
  obtain ⟨fz, hf⟩ := this
  exact toC_rd H hf ha (fun b _ _ => ⟨rfl, fun h => h⟩) (Nat.le_refl _)
theorem lenW_sound (H : HC φ hp lo w0 w) {T ty e : TypeId} {a : AV} {u : Value} {E : Eff} (hu : P.underlying T = some (.slice e)) (h : lenW hp a = some E) (ha : AVC φ hp w a u) : Okv P φ hp lo w0 w E (Builtin.len_ #[T] ty #[u]) := by
  unfold lenW at h
  split at h
  · rename_i c hcx
    split at h
    · rename_i n hl
      obtain ⟨sa, cp, rfl⟩ := rd_len (slC_rd H hcx ha) hl
      refine okv_ret H h ?_ (avc_i _ _)
      simp [Builtin.len_, run_underlying hu, goInt]
    · cases h
  · cases h
theorem maxW_sound (H : HC φ hp lo w0 w) {ats : Array TypeId} {ty : TypeId} {l : List AV} {us : List Value} {E : Eff} (h : maxW l = some E) (hl : us.length = l.length) (ha : ∀ i, i < l.length → AVC φ hp w (l.getD i .any) (us.getD i undef)) : Okv P φ hp lo w0 w E (Builtin.max_ ats ty us.toArray) := by
  unfold maxW at h
  split at h
  · rename_i k a k' b
    split at h
    · rename_i hk; subst hk
      match us, hl with
      | [u, v], _ =>
        obtain rfl := avc_int (ha 0 (by simp))
        obtain rfl := avc_int (ha 1 (by simp))
        refine okv_ret H h ?_ (avc_i _ _)
        simp [Builtin.max_, Builtin.max2]
    · cases h
  · cases h
theorem minW_sound (H : HC φ hp lo w0 w) {ats : Array TypeId} {ty : TypeId} {l : List AV} {us : List Value} {E : Eff} (h : minW l = some E) (hl : us.length = l.length) (ha : ∀ i, i < l.length → AVC φ hp w (l.getD i .any) (us.getD i undef)) : Okv P φ hp lo w0 w E (Builtin.min_ ats ty us.toArray) := by
  unfold minW at h
  split at h
  · rename_i k a k' b
    split at h
    · rename_i hk; subst hk
      match us, hl with
      | [u, v], _ =>
        obtain rfl := avc_int (ha 0 (by simp))
        obtain rfl := avc_int (ha 1 (by simp))
        refine okv_ret H h ?_ (avc_i _ _)
        simp [Builtin.min_, Builtin.min2]
    · cases h
  · cases h

theorem nilW_sound (H : HC φ hp lo w0 w) {a : AV} {u : Value} {E : Eff} (h : nilW hp a = some E) (ha : AVC φ hp w a u) : Out φ hp lo w0 w E.up E.nw E.val u w ∧ ∃ b, u = .pointer (some b) := by
  unfold nilW at h
  split at h
  · split at h
    · rename_i l he
      injection h with h; subst h
      obtain ⟨g, n, cp, wd, hl, rfl⟩ := avc_ad ha he
      exact ⟨out_ret H ha, _, rfl⟩
    · cases h
  · injection h with h; subst h
    obtain ⟨b, o, vs, rfl, _⟩ := avc_el ha
    exact ⟨out_ret H ha, _, rfl⟩
  · split at h
    · rename_i T nn c he
      injection h with h; subst h
      obtain ⟨g, o, n, cp, wd, hl, rfl⟩ := avc_ea ha he
      exact ⟨out_ret H ha, _, rfl⟩
    · cases h
  · cases h
theorem add_at (g o k : Nat) : (⟨g, o, none⟩ : Addr).add k = ⟨g, o + k, none⟩ := Addr.add_mid g o k
theorem fieldAddrW_sound (hT : TIok P ti) (H : HC φ hp lo w0 w) {T : TypeId} {f : Nat} {a : AV} {u : Value} {E : Eff} (h : fieldAddrW ti hp T a f = some E) (ha : AVC φ hp w a u) : Okv P φ hp lo w0 w E (Instr.fieldAt T u f) := by
  unfold fieldAddrW at h
  split at h
  · rename_i t ht
    obtain ⟨i, z, d, hok⟩ := hT T t ht
    split at h
    · rename_i fs hsh
      have hd := hok.sh
      rw [hsh] at hd
      obtain ⟨F, rfl, hF⟩ := hd
      split at h
      · rename_i o T' hf
        obtain ⟨fd, hf1, hf2, hf3⟩ := hF f o T' hf
        split at h
        · rename_i t' ht'
          obtain ⟨i', z', d', hok'⟩ := hT T' t' ht'
          split at h
          · rename_i hpos
            have hi' := hok'.info
            have hne : ¬ i'.size = 0 := by rw [hok'.size]; omega
            have run : ∀ b q, (Instr.fieldAt T (.pointer (some ⟨b, q, none⟩)) f).run P w = .ok (.pointer (some ⟨b, q + o, none⟩)) w := by
              intro b q
              simp [Instr.fieldAt, run_underlying hok.und, hf1, Instr.sureAddr, fieldPlace, sizeOf, typeInfo, hf3, hi', hne, hf2, add_at]
            split at h
            · rename_i ν off
              split at h
              · rename_i l he
                cases ha with
                | ad h1 h2 h3 => exact okv_ret H h (run _ _) (.ad h1 h2 h3)
                | add h2 hk v hv => rw [he] at h2; injection h2 with h2; subst h2; simp [Ent.kind] at hk
              · cases h
            · rename_i wd g
              split at h
              · rename_i ho
                obtain ⟨b, q, vs, rfl, h1, h2, h3, h4⟩ := avc_el ha
                exact okv_ret H h (run _ _) (.el (vs := fun j => vs (o + j)) (fun j hj => by rw [Nat.add_assoc]; exact h1 _ (by omega)) (fun j hj => h2 _ (by omega)) h3 h4)
              · cases h
            · rename_i ν q j
              split at h
              · rename_i T0 nn c he
                cases ha with
                | @ea _ _ _ g o' n cp wd e h1 h2 h3 =>
                  refine okv_ret H h (run _ _) ?_
                  rw [show o' + (q * wd + j) + o = o' + (q * wd + (j + o)) by omega]
                  exact .ea h1 h2 h3
                | ead h2 hk v hv => rw [he] at h2; injection h2 with h2; subst h2; simp [Ent.kind] at hk
              · cases h
            · cases h
          · cases h
        · cases h
      · cases h
    · cases h
  · cases h
theorem fieldW_sound (hT : TIok P ti) (H : HC φ hp lo w0 w) {T : TypeId} {f : Nat} {a : AV} {u : Value} {E : Eff} (h : fieldW ti T a f = some E) (ha : AVC φ hp w a u) : Okv P φ hp lo w0 w E (Instr.field T u f) := by
  unfold fieldW at h
  split at h
  · rename_i t ht
    obtain ⟨i, z, d, hok⟩ := hT T t ht
    split at h
    · rename_i fs hsh
      have hd := hok.sh
      rw [hsh] at hd
      obtain ⟨F, rfl, hF⟩ := hd
      split at h
      · rename_i o T' hf
        obtain ⟨fd, hf1, hf2, hf3⟩ := hF f o T' hf
        split at h
        · rename_i l t' ht'
          obtain ⟨i', z', d', hok'⟩ := hT T' t' ht'
          obtain ⟨vs, rfl, hl, hvs⟩ := avc_agg ha
          split at h
          · rename_i hs
            refine okv_ret H h (v := .agg ((vs.drop o).take t'.size).toArray) ?_ (.agg (by simp [hl]) fun j hj => ?_)
            · have := run_agg hok' w
              rw [hs] at this
              simp [Instr.field, run_underlying hok.und, hf1, part, hf3, this, sizeOf, typeInfo, hok'.info, hok'.size, hf2, asAgg]
            · have hj' : j < t'.size := Nat.lt_of_lt_of_le hj (List.length_take_le _ _)
              rw [getD_take_drop hj', getD_take_drop hj']
              refine hvs _ ?_
              simp at hj; omega
          · rename_i hs
            split at h
            · rename_i a' hq
              have ho : o < l.length := by
                rcases Nat.lt_or_ge o l.length with h | h
                · exact h
                · rw [List.getElem?_eq_none h] at hq; cases hq
              have := hvs o ho
              rw [getD_some hq, getD_get (by omega)] at this
              refine okv_ret H h ?_ this
              have hr := run_agg hok' w
              simp only [hs] at hr
              have hg : vs[o]? = some vs[o] := List.getElem?_eq_getElem (by omega)
              simp [Instr.field, run_underlying hok.und, hf1, part, hf3, hr, hf2, asAgg, hg]
            · cases h
        · cases h
      · cases h
    · cases h
  · cases h
theorem indexW_sound (hT : TIok P ti) (H : HC φ hp lo w0 w) {T : TypeId} {a b : AV} {u v : Value} {E : Eff} (h : indexW ti hp T a b = some E) (hc : E.cond) (ha : AVC φ hp w a u) (hb : AVC φ hp w b v) : Okv P φ hp lo w0 w E (Instr.indexAt T u v) := by
  unfold indexW at h
  split at h
  · rename_i t k i ht
    obtain ⟨_, _, _, hok⟩ := hT T t ht
    obtain rfl := avc_int hb
    split at h
    · rename_i e hsh
      have hd := hok.sh
      rw [hsh] at hd
      simp only [ShOK] at hd
      have hu := hok.und
      rw [hd] at hu
      split at h
      · rename_i te hte
        obtain ⟨ie, ze, de, hoe⟩ := hT e te hte
        have run : ∀ g o n cp, (0 ≤ i ∧ i < (n : Nat)) → (Instr.indexAt T (.slice (some ⟨g, o, none⟩) n cp) (.int k i)).run P w = .ok (.pointer (some ⟨g, o + i.toNat * te.size, none⟩)) w := by
          intro g o n cp hi
          simp [Instr.indexAt, asIntOf, run_underlying hu, hi, sizeOf, typeInfo, hoe.info, hoe.size, add_at]
        split at h
        · rename_i c
          split at h
          · rename_i V hv
            split at h
            · rename_i hwd
              have hc' : 0 ≤ i ∧ i < V.len := by injection h with h; subst h; exact hc
              cases avc_c ha with
              | int => cases hv
              | bool => cases hv
              | nul => cases hv
              | @sl _ V' sa cp vs hv' hn h1 h2 h0 hs cell rec =>
                rw [hv] at hv'
                injection hv' with hv'
                subst hv'
                cases sa with
                | none => have := (h0 rfl).1; omega
                | some ad =>
                  obtain ⟨b, o, s⟩ := ad
                  obtain ⟨hs1, hs2, hs3⟩ := hs _ rfl (by omega)
                  simp only at hs1 hs2 hs3
                  subst hs1
                  refine okv_retC H h (run _ _ _ _ hc') (.el (vs := vs i.toNat) (fun j hj => ?_) (fun j hj => ?_) hs2 hs3)
                  · rw [← hwd, Nat.add_assoc]; exact cell _ rfl _ (by omega) j hj
                  · exact rec _ (by omega) j hj
            · cases h
          · cases h
        · rename_i ν
          split at h
          · rename_i T' nn c he
            split at h
            · rename_i V hv
              split at h
              · rename_i hwd
                have hc' : 0 ≤ i ∧ i < V.len := by injection h with h; subst h; exact hc
                obtain rfl := avc_sl ha he
                obtain ⟨V', hv', _, ⟨h0, h1, _⟩ | ⟨g, o, cp, cur, h0, _⟩⟩ := H.ent ν _ he
                · rw [hv] at hv'; injection hv' with hv'; subst hv'; omega
                · rw [hv] at hv'; injection hv' with hv'; subst hv'
                  rw [h0]
                  refine okv_retC H h (run _ _ _ _ hc') ?_
                  have := AVC.ea (φ := φ) (hp := hp) (w := w) (i := i.toNat) (j := 0) he rfl h0
                  rw [hwd, Nat.add_zero] at this
                  exact this
              · cases h
            · cases h
          · cases h
        · cases h
      · cases h
    · cases h
  · cases h
end
end Go.Proofs.Ythdioaeekhkgcaa
namespace Go.Proofs.Ythdioaeekhkgcaa
set_option linter.unusedVariables false
set_option linter.unusedSimpArgs false
open Go.RowKit

theorem cells_one {v : Value} (h : v.oneCell' = true) : v.cells = #[v] := by cases v <;> first | rfl | (simp [Value.oneCell'] at h)
section
variable {φ : Nat → Loc} {hp : Hp} {lo : Nat} {w0 w : World}
theorem avc_one {a : AV} {v : Value} (h : AVC φ hp w a v) (ha : a.one = true) : v.oneCell' = true := by
  cases h with
  | any => simp [AV.one] at ha
  | c h => exact h.one
  | k => exact ha
  | sl => exact Loc.val_one _
  | sld _ _ hv => assumption
  | ad => rfl
  | add => assumption
  | ea => rfl
  | ead => assumption
  | el => rfl
  | agg => simp [AV.one] at ha
  | tup => simp [AV.one] at ha
  | fn => rfl
theorem avc_cells {a : AV} {v : Value} {cs : List AV} (h : AVC φ hp w a v) (hc : a.cells = some cs) :
    v.cells.size = cs.length ∧ (∀ j, j < cs.length → AVC φ hp w (cs.getD j .any) (v.cells.getD j undef)) ∧ (∀ u, u ∈ v.cells.toList → u.oneCell' = true) := by
  have base : ∀ a : AV, a.one = true → AVC φ hp w a v → cs = [a] → v.cells.size = cs.length ∧ (∀ j, j < cs.length → AVC φ hp w (cs.getD j .any) (v.cells.getD j undef)) ∧ (∀ u, u ∈ v.cells.toList → u.oneCell' = true) := by
    intro a ha h e
    subst e
    have h1 := avc_one h ha
    rw [cells_one h1]
    refine ⟨rfl, fun j hj => ?_, fun u hu => ?_⟩
    · have : j = 0 := by simp at hj; omega
      subst this; exact h
    · simp at hu; subst hu; exact h1
  cases a with
  | agg l =>
    simp only [AV.cells] at hc
    split at hc
    · rename_i hall
      injection hc with hc; subst hc
      obtain ⟨vs, rfl, hl, hvs⟩ := avc_agg h
      refine ⟨by simp [Value.cells, hl], fun j hj => ?_, fun u hu => ?_⟩
      · rw [agetD]; exact hvs j hj
      · simp only [Value.cells] at hu
        obtain ⟨j, hj, e⟩ := List.getElem_of_mem hu
        have hj' : j < l.length := by omega
        have := hvs j hj'
        rw [getD_get hj', getD_get hj, e] at this
        exact avc_one this (List.all_eq_true.1 hall _ (List.getElem_mem hj'))
    · cases hc
  | any => simp [AV.cells, AV.one] at hc
  | tup l => simp [AV.cells, AV.one] at hc
  | k u =>
    simp only [AV.cells] at hc
    split at hc
    · rename_i ho; injection hc with hc; exact base _ ho h hc.symm
    · cases hc
  | c c => simp only [AV.cells, AV.one, ↓reduceIte, Option.some.injEq] at hc; exact base _ rfl h hc.symm
  | sl ν => simp only [AV.cells, AV.one, ↓reduceIte, Option.some.injEq] at hc; exact base _ rfl h hc.symm
  | ad ν o => simp only [AV.cells, AV.one, ↓reduceIte, Option.some.injEq] at hc; exact base _ rfl h hc.symm
  | ea ν i j => simp only [AV.cells, AV.one, ↓reduceIte, Option.some.injEq] at hc; exact base _ rfl h hc.symm
  | el wd f => simp only [AV.cells, AV.one, ↓reduceIte, Option.some.injEq] at hc; exact base _ rfl h hc.symm
  | fn f l => simp only [AV.cells, AV.one, ↓reduceIte, Option.some.injEq] at hc; exact base _ rfl h hc.symm

theorem setAt_len (l : List AV) (o : Nat) (cs : List AV) : (setAt l o cs).length = l.length := by
  induction cs generalizing l o with
  | nil => rfl
  | cons a cs ih => rw [setAt, ih]; simp
theorem setAt_getD (l : List AV) (o : Nat) (cs : List AV) (k : Nat) (h : o + cs.length ≤ l.length) : (setAt l o cs).getD k .any = if o ≤ k ∧ k < o + cs.length then cs.getD (k - o) .any else l.getD k .any := by
  induction cs generalizing l o with
  | nil => simp only [setAt, List.length_nil, Nat.add_zero]; rw [if_neg (by omega)]
  | cons a cs ih =>
    simp only [List.length_cons] at h
    rw [setAt, ih _ _ (by simp; omega)]
    by_cases h1 : o + 1 ≤ k ∧ k < o + 1 + cs.length
    · rw [if_pos h1, if_pos (by simp; omega), show k - o = (k - (o + 1)) + 1 by omega]; simp
    · rw [if_neg h1]
      by_cases h2 : k = o
      · subst h2
        rw [if_pos (by simp)]
        simp [List.getD_eq_getElem?_getD, show k < l.length by omega]
      · rw [if_neg (by simp; omega)]
        simp only [List.getD_eq_getElem?_getD, List.getElem?_set_ne (Ne.symm h2)]
/-- The cells of a part, laid into the whole. -/
def lay (cs : Array Value) (off : Nat) : List (Value × Nat) → Array Value := List.foldl (fun cs (p : Value × Nat) => cs.setIfInBounds (off + p.2) p.1) cs
theorem lay_spec (off : Nat) : ∀ (vs : List Value) (s : Nat) (cs : Array Value), off + s + vs.length ≤ cs.size →
    (lay cs off (vs.zipIdx s)).size = cs.size ∧ ∀ k, (lay cs off (vs.zipIdx s)).getD k undef = if off + s ≤ k ∧ k < off + s + vs.length then vs.getD (k - (off + s)) undef else cs.getD k undef := by
  intro vs
  induction vs with
  | nil => intro s cs _; exact ⟨rfl, fun k => by simp only [List.length_nil, Nat.add_zero]; rw [if_neg (by omega)]; rfl⟩
  | cons v vs ih =>
    intro s cs h
    simp only [List.length_cons] at h
    have := ih (s + 1) (cs.setIfInBounds (off + s) v) (by simp; omega)
    have e : lay cs off ((v :: vs).zipIdx s) = lay (cs.setIfInBounds (off + s) v) off (vs.zipIdx (s + 1)) := rfl
    rw [e]
    refine ⟨by rw [this.1]; simp, fun k => ?_⟩
    rw [this.2 k]
    by_cases h1 : off + (s + 1) ≤ k ∧ k < off + (s + 1) + vs.length
    · rw [if_pos h1, if_pos (by simp; omega), show k - (off + s) = (k - (off + (s + 1))) + 1 by omega]; simp
    · rw [if_neg h1]
      by_cases h2 : k = off + s
      · subst h2
        rw [if_pos (by simp)]
        simp [Array.getD_eq_getD_getElem?, show off + s < cs.size by omega]
      · rw [if_neg (by simp; omega)]
        simp [Array.getD_eq_getD_getElem?, Array.getElem?_setIfInBounds_ne (Ne.symm h2)]
theorem fillA_sound {P : Program} {ti : TI} (hT : TIok P ti) {fs : List (Nat × TypeId)} {pl : List (Nat × Nat)} (hpl : ∀ (i o : Nat) (T' : TypeId), fs[i]? = some (o, T') → ∃ i', P.info? T' = some i' ∧ pl[i]? = some (o, i'.size)) :
    ∀ (ps : List (Nat × AV)) (qs : List (Nat × Value)) (l l' : List AV) (cs : Array Value), fillA ti fs l ps = some l' → qs.length = ps.length → (∀ j, j < ps.length → (qs.getD j (0, undef)).1 = (ps.getD j (0, .any)).1 ∧ AVC φ hp w (ps.getD j (0, .any)).2 (qs.getD j (0, undef)).2) →
      cs.size = l.length → (∀ j, j < l.length → AVC φ hp w (l.getD j .any) (cs.getD j undef)) →
      ∃ cs', Instr.fill (fun i => pl[i]?) cs qs = some cs' ∧ cs'.size = l'.length ∧ ∀ j, j < l'.length → AVC φ hp w (l'.getD j .any) (cs'.getD j undef) := by
  intro ps
  induction ps with
  | nil =>
    intro qs l l' cs h hl _ h1 h2
    have : qs = [] := List.eq_nil_of_length_eq_zero hl
    subst this
    simp only [fillA, Option.some.injEq] at h; subst h
    exact ⟨cs, rfl, h1, h2⟩
  | cons p ps ih =>
    intro qs l l' cs h hl hq h1 h2
    obtain ⟨i, a⟩ := p
    match qs, hl with
    | (i', v) :: qs, hl =>
      obtain ⟨e, hv⟩ := hq 0 (by simp)
      simp only [List.getD_cons_zero] at e hv
      subst e
      simp only [fillA] at h
      split at h
      · rename_i off T hf
        obtain ⟨it, hi1, hi2⟩ := hpl i' off T hf
        split at h
        · rename_i t ds ht hds
          obtain ⟨i2, z, d, hok⟩ := hT T t ht
          obtain ⟨c1, c2, c3⟩ := avc_cells hv hds
          split at h
          · rename_i hcond
            have hsz : it.size = t.size := by have := hok.info; rw [hi1] at this; injection this with this; subst this; exact hok.size
            have hlay := lay_spec off v.cells.toList 0 cs (by simp; omega)
            have hfit : ¬ (v.cells.size ≠ it.size ∨ off + v.cells.size > cs.size) := by
              intro hh; rcases hh with hh | hh <;> omega
            obtain ⟨cs', g1, g2, g3⟩ := ih qs (setAt l off ds) l' (lay cs off (v.cells.toList.zipIdx 0)) h (by simpa using hl) (fun j hj => by have := hq (j + 1) (by simp; omega); simpa using this) (by rw [hlay.1, setAt_len]; exact h1) (fun j hj => by
              rw [setAt_len] at hj
              rw [setAt_getD _ _ _ _ hcond.2, hlay.2 j]
              simp only [Nat.add_zero, Array.length_toList]
              by_cases hr : off ≤ j ∧ j < off + ds.length
              · rw [if_pos hr, if_pos (by omega)]
                have := c2 (j - off) (by omega)
                rwa [agetD] at this
              · rw [if_neg hr, if_neg (by omega)]
                exact h2 j hj)
            refine ⟨cs', ?_, g2, g3⟩
            simp only [Instr.fill, hi2]
            rw [if_neg (by simpa using hfit)]
            rw [← g1]
            congr 1
            rw [← Array.foldl_toList]
            simp only [lay]
            congr 1
            simp
          · cases h
        · cases h
      · cases h
end
section
variable {P : Program} {ti : TI} {φ : Nat → Loc} {hp : Hp} {lo : Nat} {w0 w : World}
theorem buildW_sound (hT : TIok P ti) (H : HC φ hp lo w0 w) {T : TypeId} {ps : List (Nat × AV)} {qs : Array (Nat × Value)} {E : Eff} (h : buildW ti T ps = some E) (hl : qs.toList.length = ps.length)
    (hq : ∀ j, j < ps.length → (qs.toList.getD j (0, undef)).1 = (ps.getD j (0, .any)).1 ∧ AVC φ hp w (ps.getD j (0, .any)).2 (qs.toList.getD j (0, undef)).2) : Okv P φ hp lo w0 w E (Instr.build T qs) := by
  unfold buildW at h
  split at h
  · rename_i t ht
    obtain ⟨i, z, d, hok⟩ := hT T t ht
    split at h
    · rename_i fs hsh
      have hd := hok.sh
      rw [hsh] at hd
      obtain ⟨F, hF, _⟩ := hd
      obtain ⟨pl, hp1, hp2⟩ := hok.pl F fs hsh hF
      split at h
      · rename_i l' hf
        obtain ⟨cs', g1, g2, g3⟩ := fillA_sound (φ := φ) (hp := hp) (w := w) hT hp2 ps qs.toList t.zero l' z.cells hf hl hq hok.zlen (fun j hj => hok.zval j hj φ hp w)
        have hb : P.built T qs.toList = some cs' := by
          have hu := hok.und
          rw [hF] at hu
          unfold Program.built
          simp only [hok.info, hu, hok.zero, hp1]
          simpa using g1
        refine okv_ret H h (run_build w T qs cs' hb) ?_
        have := AVC.agg (φ := φ) (hp := hp) (w := w) (l := l') (vs := cs'.toList) (by simpa using g2) (fun j hj => by rw [← agetD cs']; exact g3 j hj)
        simpa using this
      · cases h
    · cases h
  · cases h

/-- A new block. -/
theorem out_new (H : HC φ hp lo w0 w) {fz : List Nat} (hfz : ∀ x, x ∈ fz → ∃ e, hp x = some e ∧ e.kind = 1) {e : Ent} {val : List Nat → AV} {v : Value} {cur : Array Value} {T : TypeId} {w1 : World} (hw1 : w1.heap = w.heap ∧ w1.os = w.os ∧ w1.tape = w.tape ∧ w1.output = w.output) (loc : Loc) (hloc : loc.blk = some w.heap.size)
    (hent : ∀ ν, hp ν = none → Evo φ hp w (upd φ ν loc) (upd (hpUp hp (deads fz)) ν (some e)) (w1.alloc (.cells cur T)) → EntC (upd φ ν loc) (upd (hpUp hp (deads fz)) ν (some e)) (w1.alloc (.cells cur T)) loc e)
    (hval : ∀ ν, AVC (upd φ ν loc) (upd (hpUp hp (deads fz)) ν (some e)) (w1.alloc (.cells cur T)) (val [ν]) v) : Out φ hp lo w0 w (deads fz) [e] val v (w1.alloc (.cells cur T)) := by
  intro ν hl hn hf
  match ν, hl with
  | [ν], _ =>
    have hν := hf ν (by simp)
    have hb : Below lo w0 (w1.alloc (.cells cur T)) := by
      refine ⟨?_, ?_, ?_, ?_, fun k hk => ?_⟩
      · exact hw1.2.1.trans H.fr.os
      · exact hw1.2.2.1.trans H.fr.tape
      · exact hw1.2.2.2.trans H.fr.output
      · have := H.fr.size; simp only [World.size_alloc, hw1.1]; omega
      · rw [Below.heap_alloc _ _ _ (by rw [hw1.1]; have := H.l0; omega), hw1.1]; exact H.fr.block k hk
    obtain ⟨h1, h2⟩ := H.put hν hfz (loc := loc) (e := e) hb (by simp [hw1.1]) (fun g hg => .inl (by rw [hloc] at hg; injection hg with hg; omega)) (fun b hb hne => by rw [Below.heap_alloc _ _ _ (by rw [hw1.1]; exact hb), hw1.1]) (hent ν hν)
    exact ⟨_, h1, h2, hval ν⟩
theorem same_self (w : World) : w.heap = w.heap ∧ w.os = w.os ∧ w.tape = w.tape ∧ w.output = w.output := ⟨rfl, rfl, rfl, rfl⟩
theorem ent_box {φ' : Nat → Loc} {hp' : Hp} {w' : World} {l : List AV} {cur : Array Value} {T : TypeId} (hl : cur.size = l.length) (h : ∀ i, i < l.length → AVC φ' hp' (w'.alloc (.cells cur T)) (l.getD i .any) (cur.getD i undef)) (B : Nat) (hB : B = w'.heap.size) :
    EntC φ' hp' (w'.alloc (.cells cur T)) (.at B 0 0 0 0) (.box l) := by
  subst hB
  exact ⟨_, 0, 0, 0, cur, T, rfl, heap_alloc_new _ _, hl, h⟩
theorem boxW_sound (H : HC φ hp lo w0 w) {T : TypeId} {a : AV} {v : Value} {l : List AV} (hc : a.cells = some l) (ha : AVC φ hp w a v) :
    Okv P φ hp lo w0 w ⟨True, [.box l], [], fun ν => .ad (ν.getD 0 0) 0⟩ (Instr.box T v) := by
  obtain ⟨c1, c2, c3⟩ := avc_cells ha hc
  refine ⟨.pointer (some ⟨w.heap.size, 0, none⟩), w.alloc (.cells v.cells T), by simp [Instr.box, newVar, newRow, newObj, Sem.run], ?_⟩
  exact out_new H (fz := []) (fun x hx => by cases hx) (same_self w) (.at w.heap.size 0 0 0 0) rfl (fun ν hν E => ent_box c1 (fun i hi => (c2 i hi).evo E) _ rfl) (fun ν => .ad (upd_same _ _ _) rfl (upd_same _ _ _))
theorem allocW_sound (hT : TIok P ti) (H : HC φ hp lo w0 w) {T : TypeId} {t : TInfo} (ht : ti T = some t) :
    Okv P φ hp lo w0 w ⟨True, [.box t.zero], [], fun ν => .ad (ν.getD 0 0) 0⟩ (Instr.alloc T true (.tuple #[])) := by
  obtain ⟨i, z, d, hok⟩ := hT T t ht
  refine ⟨.pointer (some ⟨w.heap.size, 0, none⟩), w.alloc (.cells z.cells T), by simp [Instr.alloc, zeroValue, typeInfo, hok.info, hok.zero, newVar, newRow, newObj, Sem.run], ?_⟩
  exact out_new H (fz := []) (fun x hx => by cases hx) (same_self w) (.at w.heap.size 0 0 0 0) rfl (fun ν hν E => ent_box hok.zlen (fun i hi => hok.zval i hi _ _ _) _ rfl) (fun ν => .ad (upd_same _ _ _) rfl (upd_same _ _ _))
end
end Go.Proofs.Ythdioaeekhkgcaa
namespace Go.Proofs.Ythdioaeekhkgcaa
set_option linter.unusedVariables false
set_option linter.unusedSimpArgs false
open Go.RowKit

theorem gi_snoc {xs : List Int} {n : Int} {i : Nat} : gi (xs ++ [n]) i = if i < xs.length then gi xs i else if i = xs.length then n else 0 := by
  unfold gi
  simp only [List.getD_eq_getElem?_getD]
  by_cases h : i < xs.length
  · rw [if_pos h, List.getElem?_append_left h]
  · rw [if_neg h]
    by_cases h2 : i = xs.length
    · rw [if_pos h2, h2]; simp
    · rw [if_neg h2, List.getElem?_eq_none (by simp; omega)]; rfl
theorem getD_app {α : Type} {xs ys : List α} {d : α} {i : Nat} : (xs ++ ys).getD i d = if i < xs.length then xs.getD i d else ys.getD (i - xs.length) d := by
  simp only [List.getD_eq_getElem?_getD]
  by_cases h : i < xs.length
  · rw [if_pos h, List.getElem?_append_left h]
  · rw [if_neg h, List.getElem?_append_right (by omega)]
theorem getD_sub {α : Type} {xs : List α} {d : α} {l h i : Nat} (hi : i < h - l) (hh : h ≤ xs.length) : ((xs.take h).drop l).getD i d = xs.getD (l + i) d := by
  simp only [List.getD_eq_getElem?_getD, List.getElem?_drop]
  rw [List.getElem?_take, if_pos (by omega)]
theorem getD_set {α : Type} {xs : List α} {d x : α} {i k : Nat} (hi : i < xs.length) : (xs.set i x).getD k d = if k = i then x else xs.getD k d := by
  simp only [List.getD_eq_getElem?_getD, List.getElem?_set]
  by_cases h : i = k
  · subst h; simp [hi]
  · rw [if_neg h, if_neg (fun e => h e.symm)]
theorem getD_rep {α : Type} {n i : Nat} {x d : α} (hi : i < n) : (List.replicate n x).getD i d = x := by
  simp [List.getD_eq_getElem?_getD, List.getElem?_replicate, hi]

theorem row_rd {c : C} {r : List Int} (h : c.row = some r) {O : Nat → Prop} {w : World} {v : Value} (hv : Rd O w c v) : Rd O w (.I r) v := by
  induction c using C.rec (motive_2 := fun _ => True) (motive_3 := fun _ => True)
  case I xs => simp only [C.row, Option.some.injEq] at h; subst h; exact hv
  case nn c ih => exact ih h hv.unn
  case nul =>
    simp only [C.row, Option.some.injEq] at h; subst h
    cases hv with
    | nul => exact Rd.sl (V := ⟨0, 1, fun i _ => .int .i64 (gi [] i)⟩) (vs := fun _ _ => undef) rfl (fun h => by cases h) (Nat.le_refl _) (by omega) (fun _ => ⟨rfl, rfl⟩) (fun ad e => by cases e) (fun ad e => by cases e) (fun i hi => absurd hi (Nat.not_lt_zero _))
    | sl hv => cases hv
  all_goals first | trivial | (simp only [C.row, reduceCtorEq] at h)
theorem appC_view {c c' : C} {cs : List C} {V : View} (hv : c.view = some V) (hn : c.isNN = false) (h : appC c cs = some c') :
    ∃ V', c'.view = some V' ∧ c'.isNN = false ∧ V'.len = V.len + 1 ∧ V'.wd = V.wd ∧ cs.length = V.wd ∧ (∀ i j, i < V.len → V'.at' i j = V.at' i j) ∧
      ∀ j, j < V.wd → ∀ (O : Nat → Prop) w v, Rd O w (cs.getD j .nul) v → Rd O w (V'.at' V.len j) v := by
  unfold appC at h
  split at h
  · rename_i xs n
    simp only [C.view, Option.some.injEq] at hv h; subst hv h
    refine ⟨_, rfl, rfl, by simp, rfl, rfl, fun i j hi => ?_, fun j hj O w v hr => ?_⟩
    · simp only at hi ⊢; rw [gi_snoc, if_pos hi]
    · have : j = 0 := by simp only at hj; omega
      subst this; simp only [gi_snoc, Nat.lt_irrefl, ↓reduceIte]; exact hr
  · rename_i xs b
    simp only [C.view, Option.some.injEq] at hv h; subst hv h
    refine ⟨_, rfl, rfl, by simp, rfl, rfl, fun i j hi => ?_, fun j hj O w v hr => ?_⟩
    · simp only at hi ⊢; unfold gb; rw [getD_app, if_pos hi]
    · have : j = 0 := by simp only at hj; omega
      subst this; simp only [gb, getD_app, Nat.lt_irrefl, ↓reduceIte, Nat.sub_self]; exact hr
  · rename_i xs n
    simp only [C.view, Option.some.injEq] at hv h; subst hv h
    refine ⟨_, rfl, rfl, by simp, rfl, rfl, fun i j hi => ?_, fun j hj O w v hr => ?_⟩
    · simp only at hi ⊢; rw [gi_snoc, if_pos hi]
    · have : j = 0 := by simp only at hj; omega
      subst this; simp only [gi_snoc, Nat.lt_irrefl, ↓reduceIte]; exact hr
  · rename_i xss c0
    split at h
    · rename_i r hr0
      simp only [C.view, Option.some.injEq] at hv h; subst hv h
      refine ⟨_, rfl, rfl, by simp, rfl, rfl, fun i j hi => ?_, fun j hj O w v hr => ?_⟩
      · simp only at hi ⊢; unfold gr; rw [getD_app, if_pos hi]
      · have : j = 0 := by simp only at hj; omega
        subst this; simp only [gr, getD_app, Nat.lt_irrefl, ↓reduceIte, Nat.sub_self]; exact row_rd hr0 hr
    · cases h
  · rename_i wd es
    split at h
    · rename_i hl
      simp only [C.view] at hv
      split at hv
      · rename_i hwd
        simp only [Option.some.injEq] at hv h; subst hv h
        refine ⟨⟨(es ++ [cs]).length, wd, fun i j => ((es ++ [cs]).getD i []).getD j .nul⟩, by simp [C.view, hwd], rfl, by simp, rfl, hl, fun i j hi => ?_, fun j hj O w v hr => ?_⟩
        · simp only at hi ⊢; rw [getD_app, if_pos hi]
        · simp only [getD_app, Nat.lt_irrefl, ↓reduceIte, Nat.sub_self]; exact hr
      · cases hv
    · cases h
  · cases h
theorem putC_view {c c' : C} {i : Nat} {cs : List C} {V : View} (hv : c.view = some V) (hn : c.isNN = false) (hi : i < V.len) (h : putC c i cs = some c') :
    ∃ V', c'.view = some V' ∧ c'.isNN = false ∧ V'.len = V.len ∧ V'.wd = V.wd ∧ cs.length = V.wd ∧ (∀ k j, k < V.len → k ≠ i → V'.at' k j = V.at' k j) ∧
      ∀ j, j < V.wd → ∀ (O : Nat → Prop) w v, Rd O w (cs.getD j .nul) v → Rd O w (V'.at' i j) v := by
  unfold putC at h
  split at h
  · rename_i xs n
    simp only [C.view, Option.some.injEq] at hv h; subst hv h
    simp only at hi
    refine ⟨_, rfl, rfl, by simp, rfl, rfl, fun k j hk hne => ?_, fun j hj O w v hr => ?_⟩
    · simp only [gi]; rw [getD_set hi, if_neg hne]
    · have : j = 0 := by simp only at hj; omega
      subst this; simp only [gi, getD_set hi, ↓reduceIte]; exact hr
  · rename_i xs n
    simp only [C.view, Option.some.injEq] at hv h; subst hv h
    simp only at hi
    refine ⟨_, rfl, rfl, by simp, rfl, rfl, fun k j hk hne => ?_, fun j hj O w v hr => ?_⟩
    · simp only [gb]; rw [getD_set hi, if_neg hne]
    · have : j = 0 := by simp only at hj; omega
      subst this; simp only [gb, getD_set hi, ↓reduceIte]; exact hr
  · rename_i xs n
    simp only [C.view, Option.some.injEq] at hv h; subst hv h
    simp only at hi
    refine ⟨_, rfl, rfl, by simp, rfl, rfl, fun k j hk hne => ?_, fun j hj O w v hr => ?_⟩
    · simp only [gi]; rw [getD_set hi, if_neg hne]
    · have : j = 0 := by simp only at hj; omega
      subst this; simp only [gi, getD_set hi, ↓reduceIte]; exact hr
  · rename_i xss c0
    split at h
    · rename_i r hr0
      simp only [C.view, Option.some.injEq] at hv h; subst hv h
      simp only at hi
      refine ⟨_, rfl, rfl, by simp, rfl, rfl, fun k j hk hne => ?_, fun j hj O w v hr => ?_⟩
      · simp only [gr]; rw [getD_set hi, if_neg hne]
      · have : j = 0 := by simp only at hj; omega
        subst this; simp only [gr, getD_set hi, ↓reduceIte]; exact row_rd hr0 hr
    · cases h
  · rename_i wd es
    split at h
    · rename_i hl
      simp only [C.view] at hv
      split at hv
      · rename_i hwd
        simp only [Option.some.injEq] at hv h; subst hv h
        simp only at hi
        refine ⟨⟨(es.set i cs).length, wd, fun k j => ((es.set i cs).getD k []).getD j .nul⟩, by simp [C.view, hwd], rfl, by simp, rfl, hl, fun k j hk hne => ?_, fun j hj O w v hr => ?_⟩
        · simp only; rw [getD_set hi, if_neg hne]
        · simp only [getD_set hi, ↓reduceIte]; exact hr
      · cases hv
    · cases h
  · cases h
theorem subC_view {c c' : C} {l h : Nat} {V : View} (hv : c.view = some V) (hl : l ≤ h) (hh : h ≤ V.len) (hs : subC l h c = some c') :
    ∃ V', c'.view = some V' ∧ c'.isNN = false ∧ V'.len = h - l ∧ V'.wd = V.wd ∧ ∀ i j, i < h - l → V'.at' i j = V.at' (l + i) j := by
  induction c using C.rec (motive_2 := fun _ => True) (motive_3 := fun _ => True)
  case I xs =>
    simp only [C.view, Option.some.injEq, subC] at hv hs; subst hv hs
    simp only at hh
    exact ⟨_, rfl, rfl, by simp; omega, rfl, fun i j hi => by simp only [gi]; rw [getD_sub hi hh]⟩
  case B xs =>
    simp only [C.view, Option.some.injEq, subC] at hv hs; subst hv hs
    simp only at hh
    exact ⟨_, rfl, rfl, by simp; omega, rfl, fun i j hi => by simp only [gb]; rw [getD_sub hi hh]⟩
  case Y xs =>
    simp only [C.view, Option.some.injEq, subC] at hv hs; subst hv hs
    simp only at hh
    exact ⟨_, rfl, rfl, by simp; omega, rfl, fun i j hi => by simp only [gi]; rw [getD_sub hi hh]⟩
  case R xs =>
    simp only [C.view, Option.some.injEq, subC] at hv hs; subst hv hs
    simp only at hh
    exact ⟨_, rfl, rfl, by simp; omega, rfl, fun i j hi => by simp only [gr]; rw [getD_sub hi hh]⟩
  case V wd xs _ =>
    simp only [C.view] at hv
    split at hv
    · rename_i hwd
      simp only [Option.some.injEq, subC] at hv hs; subst hv hs
      simp only at hh
      exact ⟨⟨((xs.take h).drop l).length, wd, fun k j => (((xs.take h).drop l).getD k []).getD j .nul⟩, by simp [C.view, hwd], rfl, by simp; omega, rfl, fun i j hi => by simp only; rw [getD_sub hi hh]⟩
    · cases hv
  case nn c ih => exact ih hv hs
  all_goals first | trivial | (simp only [C.view, reduceCtorEq] at hv)
theorem catC_view {c d c' : C} {V : View} {m : Nat} (hv : c.view = some V) (hn : c.isNN = false) (h : catC c d = some c') (hm : lenC d = some m) :
    ∃ V', c'.view = some V' ∧ c'.isNN = false ∧ V'.len = V.len + m ∧ V'.wd = V.wd ∧ (∀ i j, i < V.len → V'.at' i j = V.at' i j) ∧
      ∀ Vd, d.view = some Vd → Vd.wd = V.wd ∧ ∀ i j, i < m → V'.at' (V.len + i) j = Vd.at' i j := by
  induction d using C.rec (motive_2 := fun _ => True) (motive_3 := fun _ => True)
  case nul =>
    have e : c' = c := by cases c <;> simp_all [catC]
    have e2 : m = 0 := by simp [lenC] at hm; exact hm.symm
    subst e e2
    exact ⟨V, hv, hn, rfl, rfl, fun _ _ _ => rfl, fun Vd h => by cases h⟩
  case nn d ih =>
    have e : catC c (.nn d) = catC c d := by cases c <;> rfl
    rw [e] at h
    refine ih h ?_
    cases hd : d.view with
    | none => simp [lenC, C.view, hd] at hm
    | some Vd => have := lenC_view (c := .nn d) hd hm; subst this; cases d <;> simp_all [lenC, C.view]
  all_goals first | trivial | skip
  all_goals cases c <;> first | (simp only [catC, reduceCtorEq] at h; done) | (simp [C.view] at hv; done) | (simp [C.isNN] at hn; done) | skip
  case I.I ys xs =>
    simp only [C.view, Option.some.injEq, catC, lenC] at hv h hm; subst hv h hm
    exact ⟨_, rfl, rfl, by simp, rfl, fun i j hi => by simp only [gi] at hi ⊢; rw [getD_app, if_pos hi], fun Vd h => by
      simp only [C.view, Option.some.injEq] at h; subst h
      exact ⟨rfl, fun i j hi => by simp only [gi]; rw [getD_app, if_neg (by omega), Nat.add_sub_cancel_left]⟩⟩
  case B.B ys xs =>
    simp only [C.view, Option.some.injEq, catC, lenC] at hv h hm; subst hv h hm
    exact ⟨_, rfl, rfl, by simp, rfl, fun i j hi => by simp only [gb] at hi ⊢; rw [getD_app, if_pos hi], fun Vd h => by
      simp only [C.view, Option.some.injEq] at h; subst h
      exact ⟨rfl, fun i j hi => by simp only [gb]; rw [getD_app, if_neg (by omega), Nat.add_sub_cancel_left]⟩⟩
  case Y.Y ys xs =>
    simp only [C.view, Option.some.injEq, catC, lenC] at hv h hm; subst hv h hm
    exact ⟨_, rfl, rfl, by simp, rfl, fun i j hi => by simp only [gi] at hi ⊢; rw [getD_app, if_pos hi], fun Vd h => by
      simp only [C.view, Option.some.injEq] at h; subst h
      exact ⟨rfl, fun i j hi => by simp only [gi]; rw [getD_app, if_neg (by omega), Nat.add_sub_cancel_left]⟩⟩
  case R.R ys xs =>
    simp only [C.view, Option.some.injEq, catC, lenC] at hv h hm; subst hv h hm
    exact ⟨_, rfl, rfl, by simp, rfl, fun i j hi => by simp only [gr] at hi ⊢; rw [getD_app, if_pos hi], fun Vd h => by
      simp only [C.view, Option.some.injEq] at h; subst h
      exact ⟨rfl, fun i j hi => by simp only [gr]; rw [getD_app, if_neg (by omega), Nat.add_sub_cancel_left]⟩⟩
  case V.V wd' ys _ wd xs =>
    simp only [catC] at h
    split at h
    · rename_i e; subst e
      simp only [C.view] at hv hm
      split at hv
      · rename_i hwd
        simp only [Option.some.injEq] at hv h; subst hv h
        have hm' : m = ys.length := by simp [lenC, C.view, hwd] at hm; exact hm.symm
        subst hm'
        exact ⟨⟨(xs ++ ys).length, wd, fun i j => ((xs ++ ys).getD i []).getD j .nul⟩, by simp [C.view, hwd], rfl, by simp, rfl, fun i j hi => by simp only at hi ⊢; rw [getD_app, if_pos hi], fun Vd h => by
          simp only [C.view, hwd, ↓reduceIte, Option.some.injEq] at h; subst h
          exact ⟨rfl, fun i j hi => by simp only; rw [getD_app, if_neg (by omega), Nat.add_sub_cancel_left]⟩⟩
      · cases hv
    · cases h
end Go.Proofs.Ythdioaeekhkgcaa
namespace Go.Proofs.Ythdioaeekhkgcaa
set_option linter.unusedVariables false
set_option linter.unusedSimpArgs false
open Go.RowKit

/-- A block after cells were written. -/
theorem setCells_block (b : Nat) (T : TypeId) : ∀ (vs : List Value) (o : Nat) (w : World) (cur : Array Value), w.heap[b]? = some (.cells cur T (0, 0)) → o + vs.length ≤ cur.size →
    ∃ cur', (w.setCells b o vs).heap[b]? = some (.cells cur' T (0, 0)) ∧ cur'.size = cur.size ∧ ∀ k, cur'[k]? = if o ≤ k ∧ k < o + vs.length then vs[k - o]? else cur[k]? := by
  intro vs
  induction vs with
  | nil => intro o w cur h _; exact ⟨cur, h, rfl, fun k => by simp only [List.length_nil, Nat.add_zero]; rw [if_neg (by omega)]⟩
  | cons v vs ih =>
    intro o w cur h hl
    simp only [List.length_cons] at hl
    have h1 : (w.setCell ⟨b, o, none⟩ v).heap[b]? = some (.cells (cur.setIfInBounds o v) T (0, 0)) := by
      simp [World.setCell, Array.getElem?_modify, h]
    obtain ⟨cur', g1, g2, g3⟩ := ih (o + 1) _ _ h1 (by simp; omega)
    refine ⟨cur', g1, by rw [g2]; simp, fun k => ?_⟩
    rw [g3 k]
    by_cases h2 : o + 1 ≤ k ∧ k < o + 1 + vs.length
    · rw [if_pos h2, if_pos (by simp; omega), show k - o = (k - (o + 1)) + 1 by omega]; simp
    · rw [if_neg h2]
      by_cases h3 : k = o
      · subst h3
        rw [if_pos (by simp)]
        simp [show k < cur.size by omega]
      · rw [if_neg (by simp; omega)]
        simp [Array.getElem?_setIfInBounds_ne (Ne.symm h3)]
theorem setCells_other (b : Nat) : ∀ (vs : List Value) (o : Nat) (w : World), (w.setCells b o vs).heap.size = w.heap.size ∧ (∀ k, k ≠ b → (w.setCells b o vs).heap[k]? = w.heap[k]?) ∧ (w.setCells b o vs).os = w.os ∧ (w.setCells b o vs).tape = w.tape ∧ (w.setCells b o vs).output = w.output := by
  intro vs
  induction vs with
  | nil => intro o w; exact ⟨rfl, fun _ _ => rfl, rfl, rfl, rfl⟩
  | cons v vs ih =>
    intro o w
    obtain ⟨h1, h2, h3, h4, h5⟩ := ih (o + 1) (w.setCell ⟨b, o, none⟩ v)
    exact ⟨by rw [World.setCells, h1]; simp, fun k hk => by rw [World.setCells, h2 k hk]; exact Below.heap_setCell _ _ _ _ hk, h3, h4, h5⟩
theorem below_setCells {lo : Nat} {w0 w : World} (h : Below lo w0 w) {b o : Nat} {vs : List Value} (hb : lo ≤ b) : Below lo w0 (w.setCells b o vs) := by
  obtain ⟨h1, h2, h3, h4, h5⟩ := setCells_other b vs o w
  exact ⟨h3.trans h.os, h4.trans h.tape, h5.trans h.output, by rw [h1]; exact h.size, fun k hk => by rw [h2 k (by omega)]; exact h.block k hk⟩

section
variable {P : Program} {ti : TI} {φ : Nat → Loc} {hp : Hp} {lo : Nat} {w0 w : World}
theorem toCs_spec {cs : List AV} {ds : List C} {fz : List Nat} (h : toCs hp cs = some (ds, fz)) : ds.length = cs.length ∧ ∀ j, j < cs.length → ∃ f, toC hp (cs.getD j .any) = some (ds.getD j .nul, f) ∧ ∀ x, x ∈ f → x ∈ fz := by
  induction cs generalizing ds fz with
  | nil => simp only [toCs, Option.some.injEq, Prod.mk.injEq] at h; obtain ⟨rfl, rfl⟩ := h; exact ⟨rfl, fun j hj => by simp at hj⟩
  | cons a cs ih =>
    simp only [toCs] at h
    split at h
    · rename_i c f1 ds' f2 h1 h2
      simp only [Option.some.injEq, Prod.mk.injEq] at h; obtain ⟨rfl, rfl⟩ := h
      obtain ⟨g1, g2⟩ := ih h2
      refine ⟨by simp [g1], fun j hj => ?_⟩
      cases j with
      | zero => exact ⟨f1, by simpa using h1, fun x hx => List.mem_append_left _ hx⟩
      | succ j =>
        obtain ⟨f, e1, e2⟩ := g2 j (by simp at hj; omega)
        exact ⟨f, by simpa using e1, fun x hx => List.mem_append_right _ (e2 x hx)⟩
    · cases h
theorem toCs_dom {cs : List AV} {ds : List C} {fz : List Nat} (h : toCs hp cs = some (ds, fz)) : ∀ x, x ∈ fz → ∃ T nn d, hp x = some (.arr T nn d) := by
  induction cs generalizing ds fz with
  | nil => simp only [toCs, Option.some.injEq, Prod.mk.injEq] at h; obtain ⟨rfl, rfl⟩ := h; intro x hx; cases hx
  | cons a cs ih =>
    simp only [toCs] at h
    split at h
    · rename_i c f1 ds' f2 h1 h2
      simp only [Option.some.injEq, Prod.mk.injEq] at h; obtain ⟨rfl, rfl⟩ := h
      intro x hx
      rcases List.mem_append.1 hx with hx | hx
      · exact toC_dom h1 x hx
      · exact ih h2 x hx
    · cases h
/-- What is given up is not owned any more. -/
theorem given_up (H : HC φ hp lo w0 w) {fz : List Nat} {φ' : Nat → Loc} {hp' : Hp} {w' : World} (E : Evo φ hp w φ' hp' w') (hd : ∀ x, x ∈ fz → hp' x = some .dead) (hsame : ∀ x, x ∈ fz → Live hp x → ∀ b, (φ x).blk = some b → w'.heap[b]? = w.heap[b]?)
    (hno : ∀ b, Own φ' hp' b → b < w.heap.size → ∃ y, Live hp y ∧ (φ y).blk = some b ∧ ¬ y ∈ fz) :
    ∀ b, b < w.heap.size → (¬ Own φ hp b ∨ ∃ ν, ν ∈ fz ∧ Live hp ν ∧ (φ ν).blk = some b) → w'.heap[b]? = w.heap[b]? ∧ ¬ Own φ' hp' b := by
  rintro b hb (h | ⟨ν, h1, h2, h3⟩)
  · exact E.bl b hb h
  · refine ⟨hsame ν h1 h2 b h3, fun ho => ?_⟩
    obtain ⟨y, h4, h5, h6⟩ := hno b ho hb
    exact H.sep ν y b (fun e => h6 (by subst e; exact h1)) h2 h4 h3 h5

theorem run_storeV {T : TypeId} {t : TInfo} {i : TypeInfo} {z : Value} {d : TypeDesc} (hok : TOk P T t i z d) {b o : Nat} {v : Value} {cur : Array Value} {T' : TypeId} (hs : v.cells.size = t.size) (h1 : ∀ u, u ∈ v.cells.toList → u.oneCell' = true) (hb : w.heap[b]? = some (.cells cur T' (0, 0))) (hl : o + v.cells.size ≤ cur.size) :
    (Instr.storeAt T (.pointer (some ⟨b, o, none⟩)) v).run P w = .ok () (w.setCells b o v.cells.toList) := by
  have := run_storeCells_cells (P := P) b o v.cells.toList 0 w (fun j hj => by simp only [Array.length_toList] at hj; simp [World.cell?, hb, show o + j < cur.size by omega]) (fun j hj => by simp [World.frozen?, hb]) h1
  simp only [Nat.add_zero] at this
  simp [Instr.storeAt, Instr.sureAddr, storeVar, sizeOf, typeInfo, hok.info, hok.size, hs, this]
theorem storeW_sound (hT : TIok P ti) (H : HC φ hp lo w0 w) {T : TypeId} {a b : AV} {u v : Value} {E : Eff} (h : storeW ti hp T a b = some E) (hc : E.cond) (ha : AVC φ hp w a u) (hb : AVC φ hp w b v) :
    ∃ w', (Instr.storeAt T u v).run P w = .ok () w' ∧ Out φ hp lo w0 w E.up E.nw E.val undef w' := by
  unfold storeW at h
  split at h
  · rename_i t cs ht hcs
    obtain ⟨i, z, d, hok⟩ := hT T t ht
    obtain ⟨c1, c2, c3⟩ := avc_cells hb hcs
    split at h
    · rename_i hlen
      split at h
      · rename_i ν off
        split at h
        · rename_i l he
          split at h
          · rename_i hfit
            injection h with h; subst h
            obtain ⟨g, n, cp, wd, hl, rfl⟩ := avc_ad ha he
            obtain ⟨cur, T', h1, h2, h3⟩ := box_cells H he hl
            refine ⟨_, run_storeV hok (by omega) c3 h1 (by omega), ?_⟩
            obtain ⟨o1, o2, o3, o4, o5⟩ := setCells_other g v.cells.toList off w
            obtain ⟨cur', g1, g2, g3⟩ := setCells_block g T' v.cells.toList off w cur h1 (by simp; omega)
            intro ν' hν' _ _
            have : ν' = [] := List.eq_nil_of_length_eq_zero hν'
            subst this
            have hlg : lo ≤ g := H.lo ν g ⟨_, he, by simp [Ent.kind]⟩ (by rw [hl]; rfl)
            have := H.write (fz := []) (e' := .box (setAt l off cs)) he rfl (by simp [Ent.kind]) (fun x hx => by cases hx) (fun hx => by cases hx) (below_setCells H.fr hlg) (by rw [o1]; exact Nat.le_refl _) (fun b hb hne => o2 b (fun e => hne (by rw [hl, e]; rfl))) (fun E => by
              refine ⟨g, n, cp, wd, cur', T', hl, g1, by rw [g2, h2, setAt_len], fun j hj => ?_⟩
              rw [setAt_len] at hj
              rw [setAt_getD _ _ _ _ hfit, Array.getD_eq_getD_getElem?, g3 j]
              simp only [Array.length_toList]
              by_cases hr : off ≤ j ∧ j < off + cs.length
              · rw [if_pos hr, if_pos (by omega)]
                have := (c2 (j - off) (by omega)).evo E
                rw [agetD, List.getD_eq_getElem?_getD] at this
                exact this
              · rw [if_neg hr, if_neg (by omega)]
                have := (h3 j hj).evo E
                rw [Array.getD_eq_getD_getElem?] at this
                exact this)
            exact ⟨φ, this.1, this.2, .any _⟩
          · cases h
        · cases h
      · rename_i ν i' j'
        split at h
        · rename_i T' nn c he
          split at h
          · rename_i V ds fz hv hds
            split at h
            · rename_i c' hput
              injection h with h; subst h
              obtain ⟨hci, hj0, hnf⟩ := hc
              have hci : i' < V.len := hci
              subst hj0
              obtain ⟨g, o, n, cp, wd, hl, rfl⟩ := avc_ea ha he
              obtain ⟨V0, cur, hv0, hnn, rfl, rfl, h1, h2, h3, h4, hh, h5⟩ := arr_cells H he hl
              rw [hv] at hv0; injection hv0 with hv0; subst hv0
              obtain ⟨V', p1, p2, p3, p4, p5, p6, p7⟩ := putC_view hv hnn hci hput
              obtain ⟨d1, d2⟩ := toCs_spec hds
              have hwl : cs.length = V.wd := by omega
              have hin : i' * V.wd + V.wd ≤ V.len * V.wd := by rw [← Nat.succ_mul]; exact Nat.mul_le_mul_right _ hci
              have hcap : V.len * V.wd ≤ cp * V.wd := Nat.mul_le_mul_right _ h2
              refine ⟨_, run_storeV hok (by omega) c3 h1 (by simp only [Nat.add_zero]; omega), ?_⟩
              obtain ⟨o1, o2, o3, o4, o5⟩ := setCells_other g v.cells.toList (o + (i' * V.wd + 0)) w
              obtain ⟨cur', g1, g2, g3⟩ := setCells_block g T' v.cells.toList (o + (i' * V.wd + 0)) w cur h1 (by simp only [Nat.add_zero, Array.length_toList]; omega)
              intro ν' hν' _ _
              have : ν' = [] := List.eq_nil_of_length_eq_zero hν'
              subst this
              have hlive : Live hp ν := ⟨_, he, by simp [Ent.kind]⟩
              have hlg : lo ≤ g := H.lo ν g ⟨_, he, by simp [Ent.kind]⟩ (by rw [hl]; rfl)
              have hdom := toCs_dom hds
              have := H.write (fz := fz) (e' := .arr T' nn c') he rfl (by simp [Ent.kind]) (fun x hx => by obtain ⟨_, _, _, e⟩ := hdom x hx; exact ⟨_, e, rfl⟩) hnf (below_setCells H.fr hlg) (by rw [o1]; exact Nat.le_refl _) (fun b hb hne => o2 b (fun e => hne (by rw [hl, e]; rfl))) (fun E => by
                have hgu := given_up H (fz := fz) E (fun x hx => by rw [upd_ne (fun e => hnf (by subst e; exact hx)), hpUp_deads, if_pos hx]) (fun x hx hlx b hb => o2 b fun e => H.sep x ν b (fun e2 => hnf (by subst e2; exact hx)) hlx hlive hb (by rw [hl, e]; rfl)) (fun b ⟨y, hy1, hy2⟩ hb => by
                  by_cases ey : y = ν
                  · subst ey; exact ⟨y, hlive, hy2, hnf⟩
                  · unfold Live at hy1; rw [upd_ne ey] at hy1; have := live_deads.1 hy1; exact ⟨y, this.2, hy2, this.1⟩)
                refine ⟨V', p1, p2, .inr ⟨g, o, cp, cur', by rw [p3, p4]; exact hl, g1, by omega, h3, by rw [p4, g2]; exact h4, (fun e => by rw [p4, g2]; exact hh e), fun k hk q hq => ?_⟩⟩
                rw [p3] at hk; rw [p4] at hq ⊢
                rw [g3]
                simp only [Nat.add_zero, Array.length_toList]
                by_cases hki : k = i'
                · subst hki
                  rw [if_pos (by omega), show o + (k * V.wd + q) - (o + k * V.wd) = q by omega]
                  obtain ⟨f, t1, t2⟩ := d2 q (by omega)
                  have hq' : q < v.cells.toList.length := by simp; omega
                  refine ⟨_, List.getElem?_eq_getElem hq', ?_⟩
                  have hcv := c2 q (by omega)
                  rw [agetD, getD_get hq'] at hcv
                  have := toC_rd (w' := w.setCells g (o + (k * V.wd + 0)) v.cells.toList) (O' := Own φ (upd (hpUp hp (deads fz)) ν (some (.arr T' nn c')))) H t1 hcv (fun b hb hh => hgu b hb (hh.imp id fun ⟨y, y1, y2⟩ => ⟨y, t2 y y1, y2⟩)) (by rw [o1]; exact Nat.le_refl _)
                  exact p7 q hq _ _ _ this
                · have hne : ¬ (o + i' * V.wd ≤ o + (k * V.wd + q) ∧ o + (k * V.wd + q) < o + i' * V.wd + v.cells.size) := by
                    rintro ⟨r1, r2⟩
                    rcases Nat.lt_or_gt_of_ne hki with hlt | hgt
                    · have : k * V.wd + V.wd ≤ i' * V.wd := by rw [← Nat.succ_mul]; exact Nat.mul_le_mul_right _ hlt
                      omega
                    · have : i' * V.wd + V.wd ≤ k * V.wd := by rw [← Nat.succ_mul]; exact Nat.mul_le_mul_right _ hgt
                      omega
                  rw [if_neg hne]
                  obtain ⟨v', q1, q2⟩ := h5 k hk q hq
                  exact ⟨v', q1, by rw [p6 k q hk hki]; exact q2.mono E.bl E.sz⟩)
              rw [hpUp_app]
              exact ⟨φ, this.1, this.2, .any _⟩
            · cases h
          · cases h
        · cases h
      · cases h
    · cases h
  · cases h
end
end Go.Proofs.Ythdioaeekhkgcaa
namespace Go.Proofs.Ythdioaeekhkgcaa
set_option linter.unusedVariables false
set_option linter.unusedSimpArgs false
open Go.RowKit

theorem divmod {i j wd : Nat} (h : j < wd) : (i * wd + j) / wd = i ∧ (i * wd + j) % wd = j := by
  have hp : 0 < wd := by omega
  rw [Nat.mul_comm, Nat.mul_add_div hp, Nat.mul_add_mod, Nat.div_eq_of_lt h, Nat.mod_eq_of_lt h]
  exact ⟨rfl, rfl⟩
theorem inrow {i j n wd : Nat} (hi : i < n) (hj : j < wd) : i * wd + j < n * wd := by
  have : i * wd + wd ≤ n * wd := by rw [← Nat.succ_mul]; exact Nat.mul_le_mul_right _ hi
  omega
section
variable {P : Program} {ti : TI} {φ : Nat → Loc} {hp : Hp} {lo : Nat} {w0 w : World}

/-- The cells of a slice of plain data. -/
theorem rd_cells {O : Nat → Prop} {c : C} {V : View} {sa : Option Addr} {n cp : Nat} (h : Rd O w c (.slice sa n cp)) (hv : c.view = some V) :
    ∃ L : List Value, n = V.len ∧ L.length = n * V.wd ∧ (∀ w', w'.heap = w.heap → (Builtin.firstCells V.wd n (.slice sa n cp)).run P w' = .ok L.toArray w') ∧
      (∀ i, i < n → ∀ j, j < V.wd → Rd O w (V.at' i j) (L.getD (i * V.wd + j) undef)) ∧ ∀ u, u ∈ L → u.oneCell' = true := by
  cases h with
  | nul => cases hv
  | @sl _ V' _ _ vs hv' hn hc hm h0 hs cell rec =>
    rw [hv] at hv'; injection hv' with hv'; subst hv'
    have hwd := C.view_wd hv
    have hget : ∀ i, i < V.len → ∀ j, j < V.wd → ((List.range (V.len * V.wd)).map fun q => vs (q / V.wd) (q % V.wd)).getD (i * V.wd + j) undef = vs i j := by
      intro i hi j hj
      have := inrow hi hj
      simp [List.getD_eq_getElem?_getD, this, (divmod (i := i) hj).1, (divmod (i := i) hj).2]
    refine ⟨(List.range (V.len * V.wd)).map fun q => vs (q / V.wd) (q % V.wd), rfl, by simp, fun w' hw' => ?_, fun i hi j hj => ?_, fun u hu => ?_⟩
    · cases sa with
      | none =>
        have := (h0 rfl).1
        rw [this]
        simp [Builtin.firstCells]
      | some ad =>
        refine run_firstCells_some (P := P) w' V.wd V.len ad V.len cp _ (by simp) fun q v hq => ?_
        obtain ⟨hq1, hq2⟩ := List.getElem?_eq_some_iff.1 hq
        have hq1' : q < V.len * V.wd := by simpa using hq1
        have hlen : 0 < V.len := by rcases Nat.eq_zero_or_pos V.len with h | h; · rw [h, Nat.zero_mul] at hq1'; omega
                                    · exact h
        obtain ⟨s1, s2, s3⟩ := hs ad rfl hlen
        obtain ⟨b, o, s⟩ := ad
        simp only at s1; subst s1
        rw [add_at]
        have e := Nat.div_add_mod q V.wd
        have hi : q / V.wd < V.len := Nat.div_lt_of_lt_mul (by rwa [Nat.mul_comm] at hq1')
        have hj : q % V.wd < V.wd := Nat.mod_lt _ hwd
        have := cell _ rfl _ hi _ hj
        rw [show q / V.wd * V.wd + q % V.wd = q by rw [Nat.mul_comm]; exact e] at this
        rw [World.cell_same (w := w) (by rw [hw']), this]
        simp at hq2
        rw [← hq2]
    · rw [hget i hi j hj]; exact rec i hi j hj
    · obtain ⟨q, hq, e⟩ := List.mem_map.1 hu
      have hq' : q < V.len * V.wd := by simpa using hq
      have hi : q / V.wd < V.len := Nat.div_lt_of_lt_mul (by rwa [Nat.mul_comm] at hq')
      rw [← e]
      exact (rec _ hi _ (Nat.mod_lt _ hwd)).one
/-- The cells of a name's slice. -/
theorem ent_cells {ν : Nat} {T : TypeId} {nn : Fl} {c : C} {V : View} (H : HC φ hp lo w0 w) (he : hp ν = some (.arr T nn c)) (hv : c.view = some V) :
    ∃ L : List Value, L.length = V.len * V.wd ∧ (∀ w', w'.heap = w.heap → (Builtin.firstCells V.wd V.len (φ ν).val).run P w' = .ok L.toArray w') ∧
      (∀ i, i < V.len → ∀ j, j < V.wd → Rd (Own φ hp) w (V.at' i j) (L.getD (i * V.wd + j) undef)) ∧ (∀ u, u ∈ L → u.oneCell' = true) ∧ ∃ sa cp, (φ ν).val = .slice sa V.len cp := by
  have hwd := C.view_wd hv
  obtain ⟨V', hv', hnn, ⟨h0, h1, h2⟩ | ⟨g, o, cp, cur, h0, h1, h2, h3, h4, _, h5⟩⟩ := H.ent ν _ he
  · rw [hv] at hv'; injection hv' with hv'; subst hv'
    exact ⟨[], by simp [h1], fun w' hw' => by rw [h0]; simp [Loc.val, Builtin.firstCells], fun i hi => by omega, fun u hu => (by cases hu), none, 0, by rw [h0, h1]; rfl⟩
  · rw [hv] at hv'; injection hv' with hv'; subst hv'
    have hcap : V.len * V.wd ≤ cp * V.wd := Nat.mul_le_mul_right _ h2
    have hat : ∀ q, q < V.len * V.wd → ∃ v, cur[o + q]? = some v ∧ Rd (Own φ hp) w (V.at' (q / V.wd) (q % V.wd)) v := by
      intro q hq
      have hi : q / V.wd < V.len := Nat.div_lt_of_lt_mul (by rwa [Nat.mul_comm] at hq)
      obtain ⟨v, g1, g2⟩ := h5 _ hi _ (Nat.mod_lt _ hwd)
      rw [show q / V.wd * V.wd + q % V.wd = q by rw [Nat.mul_comm]; exact Nat.div_add_mod q V.wd] at g1
      exact ⟨v, g1, g2⟩
    refine ⟨(List.range (V.len * V.wd)).map fun q => (cur[o + q]?).getD undef, by simp, fun w' hw' => ?_, fun i hi j hj => ?_, fun u hu => ?_, _, _, by rw [h0]; rfl⟩
    · rw [h0]
      refine run_firstCells_some (P := P) w' V.wd V.len ⟨g, o, none⟩ V.len cp _ (by simp) fun q v hq => ?_
      obtain ⟨hq1, hq2⟩ := List.getElem?_eq_some_iff.1 hq
      obtain ⟨v', g1, g2⟩ := hat q (by simpa using hq1)
      simp [g1] at hq2
      subst hq2
      rw [add_at, World.cell_same (w := w) (by rw [hw'])]
      exact cell_of h1 g1
    · have hq := inrow hi hj
      obtain ⟨v, g1, g2⟩ := hat _ hq
      simp only [(divmod (i := i) hj).1, (divmod (i := i) hj).2] at g2
      have : ((List.range (V.len * V.wd)).map fun q => (cur[o + q]?).getD undef).getD (i * V.wd + j) undef = v := by
        simp [List.getD_eq_getElem?_getD, hq, g1]
      rw [this]; exact g2
    · obtain ⟨q, hq, e⟩ := List.mem_map.1 hu
      obtain ⟨v, g1, g2⟩ := hat q (by simpa using hq)
      rw [← e, g1]
      exact g2.one
/-- What is appended. -/
theorem src_cells (H : HC φ hp lo w0 w) {y : AV} {d : C} {m wd : Nat} {v : Value} (h : slC hp y = some d) (hm : lenC d = some m) (hv : AVC φ hp w y v) (hwd : ∀ Vd, d.view = some Vd → Vd.wd = wd) :
    ∃ L : List Value, L.length = m * wd ∧ (∀ w', w'.heap = w.heap → (Builtin.firstCells wd m v).run P w' = .ok L.toArray w') ∧
      (∀ Vd, d.view = some Vd → ∀ i, i < m → ∀ j, j < wd → Rd (Own φ hp) w (Vd.at' i j) (L.getD (i * wd + j) undef)) ∧ (∀ u, u ∈ L → u.oneCell' = true) ∧ ∃ sa cp, v = .slice sa m cp := by
  have fromRd : ∀ (d : C) (v : Value), lenC d = some m → Rd (Own φ hp) w d v → (∀ Vd, d.view = some Vd → Vd.wd = wd) → ∃ L : List Value, L.length = m * wd ∧ (∀ w', w'.heap = w.heap → (Builtin.firstCells wd m v).run P w' = .ok L.toArray w') ∧
      (∀ Vd, d.view = some Vd → ∀ i, i < m → ∀ j, j < wd → Rd (Own φ hp) w (Vd.at' i j) (L.getD (i * wd + j) undef)) ∧ (∀ u, u ∈ L → u.oneCell' = true) ∧ ∃ sa cp, v = .slice sa m cp := by
    intro d v hm hr hwd
    obtain ⟨sa, cp, rfl⟩ := rd_len hr hm
    cases hd : d.view with
    | none =>
      have : d = .nul := by cases d <;> simp_all [lenC]
      subst this
      cases hr with
      | nul => exact ⟨[], by simp, fun w' hw' => by simp [Builtin.firstCells], fun Vd h => (by cases h), fun u hu => (by cases hu), none, 0, rfl⟩
      | sl h => cases h
    | some Vd =>
      have e := hwd Vd hd
      subst e
      obtain ⟨L, h1, h2, h3, h4, h5⟩ := rd_cells (P := P) hr hd
      exact ⟨L, h2, h3, fun V' hV' i hi j hj => by injection hV' with hV'; subst hV'; exact h4 i hi j hj, h5, _, _, rfl⟩
  unfold slC at h
  split at h
  · injection h with h; subst h
    exact fromRd _ _ hm (avc_c hv) hwd
  · rename_i ν
    split at h
    · rename_i T nn c he
      injection h with h; subst h
      obtain ⟨V, hV, hnn, _⟩ := H.ent ν _ he
      have hV' : (if nn.nn then C.nn c else c).view = some V := by split <;> exact hV
      have e1 := hwd V hV'
      subst e1
      have e2 := lenC_view hV' hm
      subst e2
      obtain ⟨L, h1, h2, h3, h4, h5⟩ := ent_cells (P := P) H he hV
      obtain rfl := avc_sl hv he
      exact ⟨L, h1, h2, fun V' hq => by rw [hV'] at hq; injection hq with hq; subst hq; exact h3, h4, h5⟩
    · cases h
  · cases h

/-- append: there is room. -/
theorem run_app_room {T e ty : TypeId} {te : TInfo} {i : TypeInfo} {z : Value} {d : TypeDesc} (hu : P.underlying T = some (.slice e)) (hok : TOk P e te i z d) {g o n cp m : Nat} {y : Value} {sb : Option Addr} {cb : Nat} (hy : y = .slice sb m cb) {cur : Array Value} {T' : TypeId} {L : List Value}
    (hL : L.length = m * te.size) (hf : ∀ w', w'.heap = w.heap → (Builtin.firstCells te.size m y).run P w' = .ok L.toArray w') (h1 : ∀ u, u ∈ L → u.oneCell' = true) (hb : w.heap[g]? = some (.cells cur T' (0, 0))) (hroom : n + m ≤ cp) (hfit : o + n * te.size + L.length ≤ cur.size) :
    (Builtin.append_ #[T, T] ty #[.slice (some ⟨g, o, none⟩) n cp, y]).run P w = .ok (.slice (some ⟨g, o, none⟩) (n + m) cp) (w.setCells g (o + n * te.size) L) := by
  have hst := run_storeCells_cells (P := P) g (o + n * te.size) L 0 w (fun j hj => by simp [World.cell?, hb, show o + n * te.size + j < cur.size by omega]) (fun j hj => by simp [World.frozen?, hb]) h1
  simp only [Nat.add_zero] at hst
  have hf' := hf w rfl
  subst hy
  simp [Builtin.append_, run_underlying hu, sizeOf, typeInfo, hok.info, hok.size, Builtin.lenOf, hroom, hf', add_at, hst]
theorem run_app_nil0 {T e ty : TypeId} {te : TInfo} {i : TypeInfo} {z : Value} {d : TypeDesc} (hu : P.underlying T = some (.slice e)) (hok : TOk P e te i z d) {y : Value} {sb : Option Addr} {cb : Nat} (hy : y = .slice sb 0 cb)
    (hf : ∀ w', w'.heap = w.heap → (Builtin.firstCells te.size 0 y).run P w' = .ok #[] w') :
    (Builtin.append_ #[T, T] ty #[.slice none 0 0, y]).run P w = .ok (.slice none 0 0) w := by
  have hf' := hf w rfl
  subst hy
  simp [Builtin.append_, run_underlying hu, sizeOf, typeInfo, hok.info, hok.size, Builtin.lenOf, hf']
/-- append: a new block. -/
theorem run_app_grow {T e ty : TypeId} {te : TInfo} {i : TypeInfo} {z : Value} {d : TypeDesc} (hu : P.underlying T = some (.slice e)) (hok : TOk P e te i z d) {base : Option Addr} {n cp m : Nat} {y : Value} {sb : Option Addr} {cb : Nat} (hy : y = .slice sb m cb) {L0 L : List Value}
    (hf0 : ∀ w', w'.heap = w.heap → (Builtin.firstCells te.size n (.slice base n cp)).run P w' = .ok L0.toArray w') (hf : ∀ w', w'.heap = w.heap → (Builtin.firstCells te.size m y).run P w' = .ok L.toArray w') (hg : cp < n + m) (hb : n + m ≤ 1048576) :
    ∃ cap rest, n + m ≤ cap ∧ cap ≤ 9223372036854775807 ∧ rest.size = (cap - (n + m)) * te.size ∧ (Builtin.append_ #[T, T] ty #[.slice base n cp, y]).run P w = .ok (.slice (some ⟨w.heap.size, 0, none⟩) (n + m) cap) (w.drew.alloc (.cells (L0.toArray ++ L.toArray ++ rest) e)) := by
  have hn : ¬ (n + m ≤ cp) := by omega
  have h63' : ¬ (9223372036854775807 < ((n : Int) + (m : Int))) := by omega
  have hby := hok.bytes
  have hmul : (n + m) * i.bytes ≤ 1048576 * 1024 := Nat.mul_le_mul hb hby
  have h48 := growslice_fits (need := n + m) (old := cp) (bytes := i.bytes) hg (by omega)
  have h48' : ¬ (281474976710656 < Builtin.nextslicecap (n + m) cp * i.bytes) := by omega
  have e1 := hf0 w.drew rfl
  have e2 := hf w.drew rfl
  have hge := grownCap_ge w (n + m) cp e
  have hle := grownCap_le_maxLen w (n + m) cp e (by unfold maxLen; omega)
  refine ⟨grownCap w (n + m) cp e, Builtin.zeroCells z.cells (grownCap w (n + m) cp e - (n + m)), hge, by unfold maxLen at hle; omega, by rw [size_zeroCells, hok.zlen, hok.zlen2], ?_⟩
  subst hy
  simp [Builtin.append_, run_underlying hu, sizeOf, typeInfo, zeroValue, hok.info, hok.size, hok.zero, Builtin.lenOf, hn, h63', h48', Question.forced, e1, e2, newRow, grownCap]
  rw [← Array.append_assoc, show L0.toArray ++ L.toArray = (L0 ++ L).toArray from by simp]

/-- A new block with a list's cells. -/
theorem ent_new {φ' : Nat → Loc} {hp' : Hp} {w' : World} {T : TypeId} {nn : Fl} {c : C} {V : View} (hv : c.view = some V) (hnn : c.isNN = false) {cur : Array Value} {cap : Nat} (B : Nat) (hB : B = w'.heap.size) (h1 : V.len ≤ cap) (h2 : cap ≤ 9223372036854775807) (h3 : cap * V.wd = cur.size)
    (h : ∀ i, i < V.len → ∀ j, j < V.wd → ∃ v, cur[i * V.wd + j]? = some v ∧ Rd (Own φ' hp') (w'.alloc (.cells cur T)) (V.at' i j) v) :
    EntC φ' hp' (w'.alloc (.cells cur T)) (.at B 0 V.len cap V.wd) (.arr T nn c) := by
  subst hB
  exact ⟨V, hv, hnn, .inr ⟨_, 0, cap, cur, rfl, heap_alloc_new _ _, h1, h2, by omega, (fun _ => ⟨rfl, h3⟩), fun i hi j hj => by rw [Nat.zero_add]; exact h i hi j hj⟩⟩
theorem appendW_sound (hT : TIok P ti) (H : HC φ hp lo w0 w) {T ty : TypeId} {a b : AV} {u v : Value} {E : Eff} (h : appendW ti hp T a b = some E) (hc : E.cond) (ha : AVC φ hp w a u) (hb : AVC φ hp w b v) : Okv P φ hp lo w0 w E (Builtin.append_ #[T, T] ty #[u, v]) := by
  unfold appendW at h
  split at h
  · rename_i t ht
    obtain ⟨_, _, _, hok0⟩ := hT T t ht
    split at h
    · rename_i e hsh
      have hd := hok0.sh
      rw [hsh] at hd
      simp only [ShOK] at hd
      have hu := hok0.und
      rw [hd] at hu
      split at h
      · rename_i te hte
        obtain ⟨i, z, d, hok⟩ := hT e te hte
        split at h
        · rename_i cd em hcd hem
          split at h
          · rename_i m hm
            obtain ⟨emn, Ve, hve, hve0, hvew⟩ := hok.em em hem
            split at h
            · -- nil
              split at h
              · rename_i c' hcat
                injection h with h; subst h
                have hc' : m ≤ 1048576 := hc
                obtain rfl := avc_nul ha
                obtain ⟨V', p1, p2, p3, p4, p5, p6⟩ := catC_view hve emn hcat hm
                obtain ⟨L, g1, g2, g3, g4, sa, cp, rfl⟩ := src_cells (P := P) (wd := te.size) H hcd hm hb (fun Vd hVd => by rw [(p6 Vd hVd).1, hvew])
                have hwd' : V'.wd = te.size := by rw [p4, hvew]
                by_cases hm0 : m = 0
                · subst hm0
                  have hL0 : L = [] := List.eq_nil_of_length_eq_zero (by omega)
                  subst hL0
                  refine ⟨_, w, run_app_nil0 hu hok rfl g2, ?_⟩
                  intro ν hl hn hf
                  match ν, hl with
                  | [ν], _ =>
                    have hν := hf ν (by simp)
                    obtain ⟨h1, h2⟩ := H.put hν (fz := []) (fun x hx => by cases hx) (loc := .nil) (e := .arr e .may c') H.fr (Nat.le_refl _) (fun g hg => by cases hg) (fun b hb hne => rfl) (fun E => ⟨V', p1, p2, .inl ⟨rfl, by omega, rfl⟩⟩)
                    exact ⟨_, h1, h2, by have := AVC.sl (φ := upd φ ν .nil) (w := w) (upd_same (hpUp hp (deads [])) ν (some (Ent.arr e .may c'))) rfl; rw [upd_same] at this; exact this⟩
                · obtain ⟨cap, rest, r1, r2, r3, r4⟩ := run_app_grow (ty := ty) (base := none) (n := 0) (cp := 0) (L0 := []) hu hok rfl (fun w' _ => by simp [Builtin.firstCells]) g2 (by omega) (by omega)
                  rw [Nat.zero_add] at r1 r3 r4
                  refine ⟨_, _, r4, out_new H (fz := []) (fun x hx => by cases hx) ⟨rfl, rfl, rfl, rfl⟩ (.at w.heap.size 0 V'.len cap V'.wd) rfl (fun ν hν E => ent_new p1 p2 _ rfl (by omega) r2 ?_ fun i hi j hj => ?_) (fun ν => ?_)⟩
                  · rw [hwd']; simp only [Array.size_append, List.size_toArray, r3, g1, List.length_nil, Nat.zero_add, ← Nat.add_mul]; congr 1; omega
                  · rw [p3, hve0, Nat.zero_add] at hi
                    have hj : j < te.size := by omega
                    have hq := inrow hi hj
                    rw [show i * V'.wd + j = i * te.size + j by rw [hwd']]
                    obtain ⟨Vd, hVd⟩ : ∃ Vd, cd.view = some Vd := by
                      cases hcv : cd.view with
                      | none => exfalso; cases cd <;> simp_all [lenC]
                      | some Vd => exact ⟨Vd, rfl⟩
                    refine ⟨L.getD (i * te.size + j) undef, ?_, ?_⟩
                    · have hin : i * te.size + j < L.length := by omega
                      rw [Array.getElem?_append, if_pos (by simpa using hin)]
                      simp [List.getD_eq_getElem?_getD, hin]
                    · have := (g3 Vd hVd i hi j hj).mono E.bl E.sz
                      have e2 := (p6 Vd hVd).2 i j hi
                      rw [hve0, Nat.zero_add] at e2
                      rw [e2]; exact this
                  · have := AVC.sl (φ := upd φ ν (.at w.heap.size 0 V'.len cap V'.wd)) (w := w.drew.alloc (.cells (([] : List Value).toArray ++ L.toArray ++ rest) e)) (upd_same (hpUp hp (deads [])) ν (some (Ent.arr e .may c'))) rfl
                    rw [upd_same, show (Loc.at w.heap.size 0 V'.len cap V'.wd).val = .slice (some ⟨w.heap.size, 0, none⟩) m cap by rw [p3, hve0, Nat.zero_add]; rfl] at this
                    exact this
              · cases h
            · -- a name's slice
              rename_i ν0
              split at h
              · rename_i T' nn c he
                split at h
                · rename_i V c' hv hcat
                  split at h
                  · rename_i hTe
                    obtain ⟨rfl, hwd⟩ := hTe
                    injection h with h; subst h
                    have hc' : V.len + m ≤ 1048576 := hc
                    obtain rfl := avc_sl ha he
                    obtain ⟨_, hV0, hcnn, hent⟩ := H.ent ν0 _ he
                    rw [hv] at hV0; injection hV0 with hV0; subst hV0
                    obtain ⟨V', p1, p2, p3, p4, p5, p6⟩ := catC_view hv hcnn hcat hm
                    obtain ⟨L, g1, g2, g3, g4, sa, cp, rfl⟩ := src_cells (P := P) (wd := te.size) H hcd hm hb (fun Vd hVd => by rw [(p6 Vd hVd).1, hwd])
                    obtain ⟨L0, k1, k2, k3, k4, sb, cq, k5⟩ := ent_cells (P := P) H he hv
                    have hwd' : V'.wd = te.size := by rw [p4, hwd]
                    have hlive : Mine hp ν0 := ⟨_, he, by simp [Ent.kind]⟩
                    have hfz : ∀ x, x ∈ [ν0] → ∃ e, hp x = some e ∧ e.kind = 1 := fun x hx => by simp at hx; subst hx; exact ⟨_, he, rfl⟩
                    have hview : 0 < m → ∃ Vd, cd.view = some Vd := fun hpos => by
                      cases hcv : cd.view with
                      | none => exfalso; cases cd <;> simp_all [lenC]
                      | some Vd => exact ⟨Vd, rfl⟩
                    rcases hent with ⟨q0, q1, q2⟩ | ⟨g, o, cq', cur, q0, q1, q2, q3, q4, qh, q5⟩
                    · by_cases hm0 : m = 0
                      · subst hm0
                        have hL0 : L = [] := List.eq_nil_of_length_eq_zero (by omega)
                        subst hL0
                        refine ⟨_, w, by rw [q0]; exact run_app_nil0 hu hok rfl g2, ?_⟩
                        intro ν hl hn hf
                        match ν, hl with
                        | [ν], _ =>
                          have hν := hf ν (by simp)
                          obtain ⟨h1, h2⟩ := H.put hν (fz := [ν0]) hfz (loc := .nil) (e := .arr T' nn c') H.fr (Nat.le_refl _) (fun g hg => by cases hg) (fun b hb hne => rfl) (fun E => ⟨V', p1, p2, .inl ⟨rfl, by omega, q2⟩⟩)
                          exact ⟨_, h1, h2, by have := AVC.sl (φ := upd φ ν .nil) (w := w) (upd_same (hpUp hp (deads [ν0])) ν (some (Ent.arr T' nn c'))) rfl; rw [upd_same] at this; exact this⟩
                      · have hq0 : (φ ν0).val = .slice none 0 0 := by rw [q0]; rfl
                        obtain ⟨cap, rest, r1, r2, r3, r4⟩ := run_app_grow (ty := ty) (base := none) (n := 0) (cp := 0) (L0 := []) hu hok rfl (fun w' _ => by simp [Builtin.firstCells]) g2 (by omega) (by omega)
                        rw [Nat.zero_add] at r1 r3 r4
                        refine ⟨_, _, by rw [hq0]; exact r4, out_new (w1 := w.drew) H (fz := [ν0]) hfz ⟨rfl, rfl, rfl, rfl⟩ (.at w.heap.size 0 V'.len cap V'.wd) rfl (fun ν hν E => ent_new p1 p2 _ rfl (by omega) r2 ?_ fun i hi j hj => ?_) (fun ν => ?_)⟩
                        · rw [hwd']; simp only [Array.size_append, List.size_toArray, r3, g1, List.length_nil, Nat.zero_add, ← Nat.add_mul]; congr 1; omega
                        · rw [p3, q1, Nat.zero_add] at hi
                          have hj : j < te.size := by omega
                          have hq := inrow hi hj
                          rw [show i * V'.wd + j = i * te.size + j by rw [hwd']]
                          obtain ⟨Vd, hVd⟩ := hview (by omega)
                          refine ⟨L.getD (i * te.size + j) undef, ?_, ?_⟩
                          · have hin : i * te.size + j < L.length := by omega
                            rw [Array.getElem?_append, if_pos (by simpa using hin)]
                            simp [List.getD_eq_getElem?_getD, hin]
                          · have := (g3 Vd hVd i hi j hj).mono E.bl E.sz
                            have e2 := (p6 Vd hVd).2 i j hi
                            rw [q1, Nat.zero_add] at e2
                            rw [e2]; exact this
                        · have := AVC.sl (φ := upd φ ν (.at w.heap.size 0 V'.len cap V'.wd)) (w := w.drew.alloc (.cells (([] : List Value).toArray ++ L.toArray ++ rest) T')) (upd_same (hpUp hp (deads [ν0])) ν (some (Ent.arr T' nn c'))) rfl
                          rw [upd_same, show (Loc.at w.heap.size 0 V'.len cap V'.wd).val = .slice (some ⟨w.heap.size, 0, none⟩) m cap by rw [p3, q1, Nat.zero_add]; rfl] at this
                          exact this
                    · have hval : (φ ν0).val = .slice (some ⟨g, o, none⟩) V.len cq' := by rw [q0]; rfl
                      have hlg : lo ≤ g := H.lo ν0 g hlive (by rw [q0]; rfl)
                      by_cases hroom : V.len + m ≤ cq'
                      · have hcapw : (V.len + m) * te.size ≤ cq' * te.size := Nat.mul_le_mul_right _ hroom
                        rw [Nat.add_mul] at hcapw
                        rw [hwd] at q4 qh
                        refine ⟨_, _, by rw [hval]; exact run_app_room hu hok rfl g1 g2 g4 q1 hroom (by omega), ?_⟩
                        intro ν hl hn hf
                        match ν, hl with
                        | [ν], _ =>
                          have hν := hf ν (by simp)
                          obtain ⟨o1, o2, o3, o4, o5⟩ := setCells_other g L (o + V.len * te.size) w
                          obtain ⟨cur', s1, s2, s3⟩ := setCells_block g T' L (o + V.len * te.size) w cur q1 (by omega)
                          obtain ⟨h1, h2⟩ := H.put hν (fz := [ν0]) hfz (loc := .at g o V'.len cq' V'.wd) (e := .arr T' nn c') (w' := w.setCells g (o + V.len * te.size) L) (below_setCells H.fr hlg) (by rw [o1]; exact Nat.le_refl _) (fun g' hg' => .inr ⟨ν0, by simp, hlive, by rw [q0]; exact hg'⟩) (fun b hb hne => o2 b fun e => hne (by rw [e]; rfl)) (fun E => by
                            refine ⟨V', p1, p2, .inr ⟨g, o, cq', cur', rfl, s1, by omega, q3, by rw [hwd', s2]; exact q4, (fun e => by rw [hwd', s2]; exact qh e), fun k hk q hq => ?_⟩⟩
                            rw [p3] at hk
                            have hq : q < te.size := by omega
                            rw [show k * V'.wd + q = k * te.size + q by rw [hwd']]
                            rw [s3]
                            by_cases hkl : k < V.len
                            · have hq' := inrow hkl hq
                              rw [if_neg (by omega)]
                              obtain ⟨v, t1, t2⟩ := q5 k hkl q (by omega)
                              rw [hwd] at t1
                              exact ⟨v, t1, by rw [p5 k q hkl]; exact t2.mono E.bl E.sz⟩
                            · obtain ⟨k', rfl⟩ : ∃ k', k = V.len + k' := ⟨k - V.len, by omega⟩
                              have hk' : k' < m := by omega
                              have hq' := inrow hk' hq
                              rw [Nat.add_mul, if_pos (by omega), show o + (V.len * te.size + k' * te.size + q) - (o + V.len * te.size) = k' * te.size + q by omega]
                              obtain ⟨Vd, hVd⟩ := hview (by omega)
                              have hin : k' * te.size + q < L.length := by omega
                              refine ⟨_, List.getElem?_eq_getElem hin, ?_⟩
                              have := (g3 Vd hVd k' hk' q hq).mono E.bl E.sz
                              rw [getD_get hin] at this
                              rw [(p6 Vd hVd).2 k' q hk']; exact this)
                          refine ⟨_, h1, h2, ?_⟩
                          have := AVC.sl (φ := upd φ ν (.at g o V'.len cq' V'.wd)) (w := w.setCells g (o + V.len * te.size) L) (upd_same (hpUp hp (deads [ν0])) ν (some (Ent.arr T' nn c'))) rfl
                          rw [upd_same, show (Loc.at g o V'.len cq' V'.wd).val = .slice (some ⟨g, o, none⟩) (V.len + m) cq' by rw [p3]; rfl] at this
                          exact this
                      · obtain ⟨cap, rest, r1, r2, r3, r4⟩ := run_app_grow (ty := ty) (base := some ⟨g, o, none⟩) (n := V.len) (cp := cq') (L0 := L0) hu hok rfl (fun w' hw' => by have := k2 w' hw'; rw [hwd, hval] at this; exact this) g2 (by omega) hc'
                        refine ⟨_, _, by rw [hval]; exact r4, out_new (w1 := w.drew) H (fz := [ν0]) hfz ⟨rfl, rfl, rfl, rfl⟩ (.at w.heap.size 0 V'.len cap V'.wd) rfl (fun ν hν E => ent_new p1 p2 _ rfl (by omega) r2 ?_ fun k hk q hq => ?_) (fun ν => ?_)⟩
                        · rw [hwd']; simp only [Array.size_append, List.size_toArray, r3, g1, k1, hwd, ← Nat.add_mul]; congr 1; omega
                        · rw [p3] at hk
                          have hq : q < te.size := by omega
                          rw [show k * V'.wd + q = k * te.size + q by rw [hwd']]
                          rw [hwd] at k1 k3
                          by_cases hkl : k < V.len
                          · have hq' := inrow hkl hq
                            refine ⟨L0.getD (k * te.size + q) undef, ?_, ?_⟩
                            · have hin : k * te.size + q < L0.length := by omega
                              rw [Array.getElem?_append, if_pos (by simp; omega), Array.getElem?_append, if_pos (by simpa using hin)]
                              simp [List.getD_eq_getElem?_getD, hin]
                            · rw [p5 k q hkl]; exact (k3 k hkl q hq).mono E.bl E.sz
                          · obtain ⟨k', rfl⟩ : ∃ k', k = V.len + k' := ⟨k - V.len, by omega⟩
                            have hk' : k' < m := by omega
                            have hq' := inrow hk' hq
                            obtain ⟨Vd, hVd⟩ := hview (by omega)
                            have hin : k' * te.size + q < L.length := by omega
                            refine ⟨L.getD (k' * te.size + q) undef, ?_, ?_⟩
                            · rw [Nat.add_mul, Array.getElem?_append, if_pos (by simp; omega), Array.getElem?_append, if_neg (by simp; omega)]
                              simp only [List.size_toArray, List.getElem?_toArray, k1]
                              rw [show V.len * te.size + k' * te.size + q - V.len * te.size = k' * te.size + q by omega]
                              simp [List.getD_eq_getElem?_getD, hin]
                            · rw [(p6 Vd hVd).2 k' q hk']; exact (g3 Vd hVd k' hk' q hq).mono E.bl E.sz
                        · have := AVC.sl (φ := upd φ ν (.at w.heap.size 0 V'.len cap V'.wd)) (w := w.drew.alloc (.cells (L0.toArray ++ L.toArray ++ rest) T')) (upd_same (hpUp hp (deads [ν0])) ν (some (Ent.arr T' nn c'))) rfl
                          rw [upd_same, show (Loc.at w.heap.size 0 V'.len cap V'.wd).val = .slice (some ⟨w.heap.size, 0, none⟩) (V.len + m) cap by rw [p3]; rfl] at this
                          exact this
                  · cases h
                · cases h
              · cases h
            · cases h
          · cases h
        · cases h
      · cases h
    · cases h
  · cases h
end
end Go.Proofs.Ythdioaeekhkgcaa
