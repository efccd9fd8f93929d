/-
  append onto an empty slice: a copy in new memory; at a plain region's list and at a step of a region that draws its order.
-/
import Derived.Test.YthdioaeekhkgcaaOps
import Derived.ArgAppend
namespace Go.Proofs.Ythdioaeekhkgcaa
set_option linter.unusedVariables false
set_option linter.unusedSimpArgs false
open Go.RowKit
section
variable {w : World} {o : Oper} {a : Act} {Q : Exit → Act → World → Prop} {K : Act → World → Prop}
theorem wp_copy_ints (s x : Operand) (hop : o.op = .call { callee := .builtin .append, args := #[s, x], argTypes := #[22, 22] })
    (b : Addr) (hs : a.eval s = .slice (some b) 0 0) {sx : Option Addr} {m c : Nat} {ys : List Int} (hx : a.eval x = .slice sx m c) (hI : Ints w sx m c ys) (hm : 0 < m) (hn : m ≤ 1048576)
    (hK : ∀ sa c' w', OwnI w.heap.size w'.heap.size w' (.slice sa m c') ys → Below w.heap.size w w' → K (a.put o.dst (.slice sa m c')) w') : o.wp Try.prog a w K Q := by
  obtain ⟨i0, hi', hz0, hz1, hz2⟩ := info_parts Try.infoI
  obtain ⟨bb, oo, rfl, hbl, hc⟩ := hI.get hm
  have hcells : ∀ (j : Nat) (u : Value), (ys.map (Value.int .i64))[j]? = some u → w.cell? ((⟨bb, oo, none⟩ : Addr).add j) = some u := by
    intro j u hj
    have hj' : j < m := by
      rcases Nat.lt_or_ge j m with h | h
      · exact h
      · rw [List.getElem?_eq_none (by simp [hI.1]; omega)] at hj; cases hj
    have hcj := hc j hj'
    have hu : u = .int .i64 (gi ys j) := by
      rw [List.getElem?_map, gi_eq (by rw [hI.1]; exact hj')] at hj
      simpa using hj.symm
    rw [hu]
    by_cases e : j = 0
    · subst e; simpa [Addr.add] using hcj
    · simpa [Addr.add, e] using hcj
  have h1c : ∀ u ∈ ys.map (Value.int .i64), u.oneCell' = true := by
    intro u hu
    obtain ⟨z, _, rfl⟩ := List.mem_map.1 hu
    rfl
  have hnil : ∀ (j : Nat) (u : Value), ([] : List Value)[j]? = some u → w.cell? (b.add j) = some u := by
    intro j u h; simp at h
  obtain ⟨v', w', hrun, r1, r2⟩ := run_append_arg_grows (P := Try.prog) w 22 o.type 2 i0 (.int .i64 0) 1 8 Try.underlying22 hi' hz0 hz1 hz2 rfl (by decide) b 0 0 [] rfl hnil ⟨bb, oo, none⟩ m c (ys.map (.int .i64)) (by simp [hI.1]) hcells (by omega) (by unfold maxLen; omega) (by omega)
  have h3 : OwnI w.heap.size w'.heap.size w' v' ys := by
    have := ownV_of_row r1
    unfold OwnI; simpa using this
  obtain ⟨sa, n', c', rfl, hJ⟩ := h3.is
  have hn' : n' = m := by rw [← hJ.1, hI.1]
  subst hn'
  unfold Oper.wp execOp
  simp only [hop, resolve, invoke, builtin, Sem.run_bind, Sem.run_pure, Result.andThen_ok, List.map_toArray, List.map_cons, List.map_nil, hs, hx, hrun]
  exact hK sa c' w' h3 ((Below.refl _ _).grown r2 (Nat.le_refl _) (fun k h => by cases h))

theorem step_copy_ints {ops : Array Oper} {E : Prop} (hg : o.guard = none) (s x : Operand) (hop : o.op = .call { callee := .builtin .append, args := #[s, x], argTypes := #[22, 22] })
    (b : Addr) (hs : a.eval s = .slice (some b) 0 0) {sx : Option Addr} {m c : Nat} {ys : List Int} (hx : a.eval x = .slice sx m c) (hI : Ints w sx m c ys) (hm : 0 < m) (hn : m ≤ 1048576)
    (hK : ∀ sa c' w', OwnI w.heap.size w'.heap.size w' (.slice sa m c') ys → Below w.heap.size w w' → K (a.put o.dst (.slice sa m c')) w') :
    if Region.wanted o (yielded ops a.tmps) = true then Oper.wp Try.prog o a w K Q else E := by
  have hw : Region.wanted o (yielded ops a.tmps) = true := by simp [Region.wanted, hg]
  rw [if_pos hw]
  exact wp_copy_ints s x hop b hs hx hI hm hn hK
theorem copy_ints {ops : Array Oper} {rest : List Oper} (hg : o.guard = none) (s x : Operand) (hop : o.op = .call { callee := .builtin .append, args := #[s, x], argTypes := #[22, 22] })
    (b : Addr) (hs : a.eval s = .slice (some b) 0 0) {sx : Option Addr} {m c : Nat} {ys : List Int} (hx : a.eval x = .slice sx m c) (hI : Ints w sx m c ys) (hm : 0 < m) (hn : m ≤ 1048576)
    (hK : ∀ sa c' w', OwnI w.heap.size w'.heap.size w' (.slice sa m c') ys → Below w.heap.size w w' → wpList Try.prog ops Q rest (a.put o.dst (.slice sa m c')) w') :
    wpList Try.prog ops Q (o :: rest) a w :=
  wpList_plain hg fun _ hK' => wp_copy_ints s x hop b hs hx hI hm hn fun sa c' w' h1 h2 => hK' _ _ (hK sa c' w' h1 h2)

/-- append(s, y), s empty and without room: new memory. -/
theorem app_fresh {ops : Array Oper} {rest : List Oper} (hg : o.guard = none) (s x : Operand) (hop : o.op = .call { callee := .builtin .append, args := #[s, x], argTypes := #[22, 22] })
    (b : Addr) (hs : a.eval s = .slice (some b) 0 0) (y : Int) (bx c : Nat) (hx : a.eval x = .slice (some ⟨bx, 0, none⟩) 1 c) (hcell : w.cell? ⟨bx, 0, none⟩ = some (.int .i64 y))
    (hK : ∀ sa c' w', OwnI w.heap.size w'.heap.size w' (.slice sa 1 c') [y] → Below w.heap.size w w' → wpList Try.prog ops Q rest (a.put o.dst (.slice sa 1 c')) w') :
    wpList Try.prog ops Q (o :: rest) a w := by
  obtain ⟨i0, hi', hz0, hz1, hz2⟩ := info_parts Try.infoI
  refine wpList_append_grows w hg s x 22 hop 2 i0 (.int .i64 0) 1 8 Try.underlying22 hi' hz0 hz1 hz2 rfl (by decide) (some b) 0 0 [] hs (by intro h; cases h) rfl (by intro b' _ j u h; simp at h) ⟨bx, 0, none⟩ 1 c [.int .i64 y] hx rfl ?_ ?_ (by omega) (by unfold maxLen; omega) (by omega) ?_
  · intro j u hj
    match j, hj with
    | 0, hj => simp at hj; subst hj; simpa [Addr.add] using hcell
  · intro u hu; simp at hu; subst hu; rfl
  · intro v' w' h1 h2
    have h3 : OwnI w.heap.size w'.heap.size w' v' [y] := by
      have := ownV_of_row h1
      unfold OwnI; simpa using this
    obtain ⟨sa, n', c', rfl, hJ⟩ := h3.is
    have hn' : n' = 1 := by have := hJ.1; simpa using this.symm
    subst hn'
    exact hK sa c' w' h3 ((Below.refl _ _).grown h2 (Nat.le_refl _) (fun k h => by cases h))
end
/-- A slice that is owned from lo on, or that of the beginning, empty and without room. -/
def OwnE (b : Addr) (lo hi : Nat) (w : World) (v : Value) (xs : List Int) : Prop := OwnI lo hi w v xs ∨ (v = .slice (some b) 0 0 ∧ xs = [])
theorem OwnE.len {b : Addr} {lo hi : Nat} {w : World} {sa : Option Addr} {n cap : Nat} {xs : List Int} (h : OwnE b lo hi w (.slice sa n cap) xs) : xs.length = n := by
  rcases h with h | ⟨h, rfl⟩
  · exact h.len
  · injection h with _ h2 _; rw [h2]; rfl
end Go.Proofs.Ythdioaeekhkgcaa
