/-
  The library's compaction, reversal, deletion on a slice of numbers that the call owns; rising lists.
-/
import Derived.Test.YtfkiloibifigfaaZLsShelf
import Derived.Test.YtfkiloibifigfaaZLsCb
import Derived.Shelf.SlicesE.Delete
namespace Go.Proofs.Ytfkiloibifigfaa
set_option linter.unusedVariables false
set_option linter.unusedSimpArgs false
open Go.RowKit Go.Sort Go.Shelf Go.Lib
theorem mem_iff_gi' {xs : List Int} {x : Int} : x ∈ xs ↔ ∃ k, k < xs.length ∧ gi xs k = x := ⟨mem_gi, fun ⟨k, h, e⟩ => by rw [← e]; exact gi_mem h⟩
theorem inc_unique : ∀ (xs ys : List Int), xs.Pairwise (· < ·) → ys.Pairwise (· < ·) → (∀ x, x ∈ xs ↔ x ∈ ys) → xs = ys := by
  intro xs
  induction xs with
  | nil =>
    intro ys _ _ h
    cases ys with
    | nil => rfl
    | cons y ys => exact absurd ((h y).2 List.mem_cons_self) (by simp)
  | cons x xs ih =>
    intro ys hx hy h
    cases ys with
    | nil => exact absurd ((h x).1 List.mem_cons_self) (by simp)
    | cons y ys =>
      obtain ⟨hx1, hx2⟩ := List.pairwise_cons.1 hx
      obtain ⟨hy1, hy2⟩ := List.pairwise_cons.1 hy
      have e : x = y := by
        have h1 := (h x).1 List.mem_cons_self
        have h2 := (h y).2 List.mem_cons_self
        rcases List.mem_cons.1 h1 with h1 | h1
        · exact h1
        · rcases List.mem_cons.1 h2 with h2 | h2
          · exact h2.symm
          · have := hy1 x h1; have := hx1 y h2; omega
      subst e
      rw [ih ys hx2 hy2 fun z => ?_]
      constructor
      · intro hz
        have h3 := hx1 z hz
        rcases List.mem_cons.1 ((h z).1 (List.mem_cons_of_mem _ hz)) with e | h4
        · omega
        · exact h4
      · intro hz
        have h3 := hy1 z hz
        rcases List.mem_cons.1 ((h z).2 (List.mem_cons_of_mem _ hz)) with e | h4
        · omega
        · exact h4
theorem lst_inc (p : Nat → Prop) (k : Nat) : (lst p k).Pairwise (· < ·) := by
  induction k with
  | zero => simp [lst]
  | succ k ih =>
    by_cases h : p k
    · rw [lst_yes h, List.pairwise_append]
      refine ⟨ih, by simp, fun x hx y hy => ?_⟩
      obtain ⟨v, h1, _, rfl⟩ := mem_lst.1 hx
      simp at hy
      omega
    · rw [lst_no h]; exact ih
theorem inc_lst {xs : List Int} {n : Nat} (h : xs.Pairwise (· < ·)) (hb : ∀ x ∈ xs, 0 ≤ x ∧ x < n) : xs = lst (fun v => (v : Int) ∈ xs) n :=
  inc_unique _ _ h (lst_inc _ _) fun x => by
    rw [mem_lst]
    constructor
    · intro hx; have := hb x hx; exact ⟨x.toNat, by omega, by rw [Int.toNat_of_nonneg this.1]; exact hx, by omega⟩
    · rintro ⟨v, _, h2, rfl⟩; exact h2
theorem srt_le (xs : List Int) : (srt xs).Pairwise (· ≤ ·) := by
  have := List.pairwise_mergeSort (le := fun x y : Int => decide (x ≤ y)) (fun a b c h1 h2 => by simp at *; omega) (fun a b => by simp; omega) xs
  exact this.imp fun h => by simpa using h
theorem mem_srt {xs : List Int} {x : Int} : x ∈ srt xs ↔ x ∈ xs := by unfold srt; exact List.mem_mergeSort
def cmpct (xs : List Int) : List Int := compactUpTo xs.toArray xs.length
theorem cmpct_aux (xs : List Int) (h : xs.Pairwise (· ≤ ·)) : ∀ m, m ≤ xs.length → (compactUpTo xs.toArray m).Pairwise (· < ·) ∧ (∀ x, x ∈ compactUpTo xs.toArray m ↔ ∃ j, j < m ∧ gi xs j = x) := by
  have hget : ∀ j, j < xs.length → xs.toArray[j]! = gi xs j := fun j hj => by rw [getElem!_pos xs.toArray j (by simpa using hj)]; simp [gi_get hj]
  have hle : ∀ i j, i < j → j < xs.length → gi xs i ≤ gi xs j := fun i j hij hj => by
    rw [gi_get hj, gi_get (by omega)]
    exact List.pairwise_iff_getElem.1 h i j (by omega) hj hij
  intro m
  induction m with
  | zero => intro _; simp [compactUpTo]
  | succ m ih =>
    intro hm
    obtain ⟨i1, i2⟩ := ih (by omega)
    rw [compactUpTo_succ]
    by_cases hk : keeps xs.toArray m = true
    · rw [if_pos hk, hget m (by omega)]
      refine ⟨?_, fun x => ?_⟩
      · rw [List.pairwise_append]
        refine ⟨i1, by simp, fun x hx y hy => ?_⟩
        simp at hy
        subst hy
        obtain ⟨j, hj, rfl⟩ := (i2 x).1 hx
        have h1 := hle j m hj (by omega)
        unfold keeps at hk
        simp only [decide_eq_true_eq] at hk
        rcases hk with hk | hk
        · omega
        · rw [hget m (by omega), hget (m - 1) (by omega)] at hk
          have h2 : gi xs j ≤ gi xs (m - 1) := by
            by_cases e : j = m - 1
            · rw [e]; omega
            · exact hle j (m - 1) (by omega) (by omega)
          have h3 := hle (m - 1) m (by omega) (by omega)
          omega
      · rw [List.mem_append, i2]
        constructor
        · rintro (⟨j, hj, e⟩ | hx)
          · exact ⟨j, by omega, e⟩
          · simp at hx; exact ⟨m, by omega, hx.symm⟩
        · rintro ⟨j, hj, e⟩
          by_cases ej : j = m
          · right; rw [← e, ej]; simp
          · left; exact ⟨j, by omega, e⟩
    · rw [if_neg hk, List.append_nil]
      refine ⟨i1, fun x => ?_⟩
      rw [i2]
      constructor
      · rintro ⟨j, hj, e⟩; exact ⟨j, by omega, e⟩
      · rintro ⟨j, hj, e⟩
        by_cases ej : j = m
        · unfold keeps at hk
          simp only [decide_eq_true_eq, not_or, Classical.not_not] at hk
          rw [hget m (by omega), hget (m - 1) (by omega)] at hk
          exact ⟨m - 1, by omega, by rw [← e, ej, hk.2]⟩
        · exact ⟨j, by omega, e⟩
theorem cmpct_srt {xs : List Int} {n : Nat} (hb : ∀ x ∈ xs, 0 ≤ x ∧ x < n) : cmpct (srt xs) = lst (fun v => (v : Int) ∈ xs) n := by
  obtain ⟨h1, h2⟩ := cmpct_aux (srt xs) (srt_le xs) _ (Nat.le_refl _)
  have hm : ∀ x, x ∈ cmpct (srt xs) ↔ x ∈ xs := fun x => (h2 x).trans (mem_iff_gi'.symm.trans mem_srt)
  exact (inc_lst (xs := cmpct (srt xs)) (n := n) h1 fun x hx => hb x ((hm x).1 hx)).trans (lst_congr fun v _ => hm v)
def Try.cmpL_ren : Go.Shelf.Ren := ⟨fun | 43 => 139 | n => n, fun | 22 => 22 | 23 => 2 | 3 => 3 | 4 => 4 | 0 => 0 | n => n, fun | n => n⟩
theorem Try.cmpL : Go.Proofs.SlLaysE.n43 Try.prog Try.cmpL_ren := {
    mixed := by kernel_rfl
    f43 := ⟨Try.f139.name, by decide, Try.func139.trans (congrArg some (by kernel_rfl))⟩
    t0 := Try.underlying0
    a0 := Try.isAgg0
    z0 := Try.sizeOf0
    v0 := Try.zeroValue0
    t3 := Try.underlying3
    a3 := Try.isAgg3
    z3 := Try.sizeOf3
    v3 := Try.zeroValue3
    t4 := Try.underlying4
    a4 := Try.isAgg4
    z4 := Try.sizeOf4
    v4 := Try.zeroValue4
    t22 := Try.underlying22
    a22 := Try.isAgg22
    z22 := Try.sizeOf22
    v22 := Try.zeroValue22
    a23 := Try.isAgg2
    z23 := Try.sizeOf2 }
theorem compact_own {lo hi : Nat} {w : World} {sa : Option Addr} {n c : Nat} {xs : List Int} (h : OwnI lo hi w (.slice sa n c) xs) (hn : n ≤ 1048576) (h0 : 0 < n) :
    Calls Try.prog 139 #[.slice sa n c] w fun e w' => ∃ k, e = .returned (.slice sa k c) ∧ OwnI lo hi w' (.slice sa k c) (cmpct xs) ∧ w.grownBy w' (blk (.slice sa n c)) := by
  have hl := h.len
  have hcap : n ≤ c := by
    obtain ⟨_, _, _, e, hI⟩ := h.is
    injection e with _ e2 e3
    have := hI.2.cap
    omega
  obtain ⟨g, cap, e, _, _, hg, _⟩ := h.at (k := 0) (by omega)
  injection e with e1 e2 e3
  subst e1 e3
  have hc := AnyE.slices_Compact Try.cmpL (Value.int .i64) (fun _ => rfl) (EqlAt.intD _ _ .i64) (NeqAt.intD _ _ .i64) 0 Try.zeroValue2 g 0 c xs.toArray w (holds_own h) (by simp; omega) (by simp; omega)
  rw [show xs.toArray.size = n by simpa using hl] at hc
  change Calls Try.prog 139 _ _ _ at hc
  refine hc.mono fun e w' ⟨he, q, hw⟩ => ⟨_, he, ?_⟩
  have hlen : (compactUpTo xs.toArray n).length ≤ n := by
    unfold compactUpTo; rw [List.length_map]; exact Nat.le_trans (List.length_filter_le _ _) (by simp)
  have hp := put_own h (compactUpTo xs.toArray n ++ List.replicate (n - (compactUpTo xs.toArray n).length) 0) (by simp; omega) q #[] (compactUpTo xs.toArray n).length hlen
  rw [grow_empty, List.take_left] at hp
  rw [hw]
  unfold cmpct
  rw [hl]
  exact hp
def Try.revL_ren : Go.Shelf.Ren := ⟨fun | 35 => 127 | n => n, fun | 22 => 22 | 23 => 2 | 3 => 3 | 4 => 4 | 0 => 0 | n => n, fun | n => n⟩
theorem Try.revL : Go.Proofs.SlLaysE.n35 Try.prog Try.revL_ren := {
    mixed := by kernel_rfl
    f35 := ⟨Try.f127.name, by decide, Try.func127.trans (congrArg some (by kernel_rfl))⟩
    t0 := Try.underlying0
    a0 := Try.isAgg0
    z0 := Try.sizeOf0
    v0 := Try.zeroValue0
    t3 := Try.underlying3
    a3 := Try.isAgg3
    z3 := Try.sizeOf3
    v3 := Try.zeroValue3
    t4 := Try.underlying4
    a4 := Try.isAgg4
    z4 := Try.sizeOf4
    v4 := Try.zeroValue4
    t22 := Try.underlying22
    a22 := Try.isAgg22
    z22 := Try.sizeOf22
    v22 := Try.zeroValue22
    a23 := Try.isAgg2
    z23 := Try.sizeOf2 }
theorem reverse_own {lo hi : Nat} {w : World} {sa : Option Addr} {n c : Nat} {xs : List Int} (h : OwnI lo hi w (.slice sa n c) xs) (hn : n ≤ 1048576) :
    Calls Try.prog 127 #[.slice sa n c] w fun e w' => e = .returned (.tuple #[]) ∧ OwnI lo hi w' (.slice sa n c) xs.reverse ∧ w.grownBy w' (blk (.slice sa n c)) := by
  have hl := h.len
  by_cases h0 : n = 0
  · subst h0
    have hx : xs = [] := List.eq_nil_of_length_eq_zero hl
    subst hx
    have hc := AnyE.slices_Reverse_empty Try.revL sa c w
    change Calls Try.prog 127 _ _ _ at hc
    refine hc.mono fun e w' ⟨he, hw⟩ => ⟨he, ?_, ?_⟩
    · rw [hw]; simpa using h
    · rw [hw]; exact World.grownBy.refl _ _
  · obtain ⟨g, cap, e, _, _, hg, _⟩ := h.at (k := 0) (by omega)
    injection e with e1 e2 e3
    subst e1 e3
    have hc := AnyE.slices_Reverse Try.revL (Value.int .i64) (fun _ => rfl) g 0 c xs w (holds_own h) (by omega)
    rw [hl] at hc
    change Calls Try.prog 127 _ _ _ at hc
    refine hc.mono fun e w' ⟨he, q, hw⟩ => ⟨he, ?_⟩
    have hp := put_own h xs.reverse (by simpa using hl) q #[] n (Nat.le_refl _)
    rw [grow_empty, List.take_of_length_le (by simp; omega)] at hp
    rw [hw]
    exact hp
end Go.Proofs.Ytfkiloibifigfaa
