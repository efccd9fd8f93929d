/-
  append of a number to a row of an owned slice of slices; make at a step of a region that draws its order.
-/
import Derived.Test.YthdioaeekhkgcaaOps4
import Derived.Test.YthdioaeekhkgcaaOps3
namespace Go.Proofs.Ythdioaeekhkgcaa
set_option linter.unusedVariables false
set_option linter.unusedSimpArgs false
open Go.RowKit
theorem run_app_row {w : World} (ty : TypeId) {lo hi : Nat} {v : Value} {xs : List Int} (hown : OwnI lo hi w v xs) (y : Int) (bx c : Nat) (hcell : w.cell? ⟨bx, 0, none⟩ = some (.int .i64 y)) (hlen : xs.length ≤ 1048576) (hbase : lo ≤ w.heap.size) :
    ∃ sa c' w', (Builtin.append_ #[22, 22] ty #[v, .slice (some ⟨bx, 0, none⟩) 1 c]).run Try.prog w = .ok (.slice sa (xs.length + 1) c') w' ∧ OwnI lo w'.heap.size w' (.slice sa (xs.length + 1) c') (xs ++ [y]) ∧ w.grownBy w' (blk v) ∧ ∀ g, blk (.slice sa (xs.length + 1) c') = some g → blk v = some g ∨ w.heap.size ≤ g := by
  obtain ⟨i0, hi', hz0, hz1, hz2⟩ := info_parts Try.infoI
  have hcells : ∀ (j : Nat) (u : Value), [Value.int .i64 y][j]? = some u → w.cell? ((⟨bx, 0, none⟩ : Addr).add j) = some u := by
    intro j u hj
    match j, hj with
    | 0, hj => simp at hj; subst hj; simpa [Addr.add] using hcell
  have h1c : ∀ u ∈ [Value.int .i64 y], u.oneCell' = true := by intro u hu; simp at hu; subst hu; rfl
  have fin : ∀ (v' : Value) (w' : World) (lo' : Nat), lo ≤ lo' → w'.ownsRow lo' 2 1 v' (xs.length + 1) (xs.map (.int .i64) ++ [.int .i64 y]) → ∃ sa c', v' = .slice sa (xs.length + 1) c' ∧ OwnI lo' w'.heap.size w' v' (xs ++ [y]) := by
    intro v' w' lo' hl h1
    have h3 : OwnI lo' w'.heap.size w' v' (xs ++ [y]) := by
      have := ownV_of_row h1
      rwa [show xs.map (Value.int .i64) ++ [.int .i64 y] = (xs ++ [y]).map (.int .i64) by simp] at this
    obtain ⟨sa, n', c', rfl, hJ⟩ := h3.is
    have hn' : n' = xs.length + 1 := by have := hJ.1; simp at this; omega
    subst hn'
    exact ⟨sa, c', rfl, h3⟩
  have hrow : w.ownsRow lo 2 1 v xs.length (xs.map (.int .i64)) := by have := OwnV.row hown; rwa [List.length_map] at this
  rcases hown with ⟨rfl, hx⟩ | ⟨g, cap, cur, rfl, h1, h1', h2, h3, h4, h5, h6⟩
  · have hx : xs = [] := by simpa using hx
    subst hx
    obtain ⟨v', w', hrun, r1, r2, _⟩ := run_append_own (P := Try.prog) w w.heap.size 22 ty 2 i0 (.int .i64 0) 1 8 Try.underlying22 hi' hz0 hz1 hz2 rfl (by decide) (.slice none 0 0) 0 [] (World.ownsRow_nil w _ _ 1) ⟨bx, 0, none⟩ 1 c [.int .i64 y] rfl hcells h1c (by unfold maxLen; omega) (by omega) (Nat.le_refl _)
    obtain ⟨sa, c', rfl, h⟩ := fin v' w' w.heap.size hbase (by simpa using r1)
    exact ⟨sa, c', w', hrun, OwnI.mono h hbase (Nat.le_refl _), r2, fun g hg => .inr (OwnI.blks h g hg).1⟩
  · rw [List.length_map] at h3 h6 hrow ⊢
    by_cases hroom : xs.length + 1 ≤ cap
    · obtain ⟨w', hrun, r1, r2⟩ := run_append_fits (P := Try.prog) w lo 22 ty 2 i0 1 Try.underlying22 hi' hz1 g xs.length cap (xs.map (.int .i64)) hrow ⟨bx, 0, none⟩ 1 c [.int .i64 y] rfl hcells h1c hroom
      obtain ⟨sa, c', e, h⟩ := fin _ w' lo (Nat.le_refl _) r1
      injection e with e1 e2 e3
      subst e1 e3
      exact ⟨_, _, w', hrun, h, r2, fun g' hg => .inl (by simpa [blk, Value.ownBlock] using hg)⟩
    · have holds : ∀ (j : Nat) (u : Value), (xs.map (Value.int .i64))[j]? = some u → w.cell? ((⟨g, 0, none⟩ : Addr).add j) = some u := fun j u hj => hrow.cells (g := g) rfl j u hj
      obtain ⟨v', w', hrun, r1, r2⟩ := run_append_arg_grows (P := Try.prog) w 22 ty 2 i0 (.int .i64 0) 1 8 Try.underlying22 hi' hz0 hz1 hz2 rfl (by decide) ⟨g, 0, none⟩ xs.length cap (xs.map (.int .i64)) (by simp) holds ⟨bx, 0, none⟩ 1 c [.int .i64 y] rfl hcells (by omega) (by unfold maxLen; omega) (by omega)
      obtain ⟨sa, c', rfl, h⟩ := fin v' w' w.heap.size hbase r1
      exact ⟨sa, c', w', hrun, OwnI.mono h hbase (Nat.le_refl _), ⟨r2.os, r2.tape, r2.output, r2.size, fun k hk _ => r2.block k hk (fun e => by cases e)⟩, fun g hg => .inr (OwnI.blks h g hg).1⟩

/-- A row replaced by one that began as it. -/
theorem OwnR.put {lo hi : Nat} {w w' : World} {gv nv cv : Nat} {xss : List (List Int)} {vs : List Value} (h : OwnR lo hi w (.slice (some ⟨gv, 0, none⟩) nv cv) xss vs) {k : Nat} (hk : k < xss.length) {u : Value} {ys : List Int}
    (hu : OwnI lo w'.heap.size w' u ys) (hg : w.grownBy w' (blk (vs.getD k (.slice none 0 0)))) (hf : ∀ g, blk u = some g → blk (vs.getD k (.slice none 0 0)) = some g ∨ w.heap.size ≤ g) :
    OwnR lo w'.heap.size (w'.setCell ⟨gv, k, none⟩ u) (.slice (some ⟨gv, 0, none⟩) nv cv) (xss.set k ys) (vs.set k u) := by
  have hne : blk (.slice (some ⟨gv, 0, none⟩) nv cv) ≠ blk (vs.getD k (.slice none 0 0)) := fun e => by
    have := own_ne h.2.1 (h.2.2.1 k hk) (by decide) gv rfl
    exact this (by rw [← e]; rfl)
  have hV : OwnV 22 lo w'.heap.size w' (.slice (some ⟨gv, 0, none⟩) nv cv) vs := (OwnV.top (OwnV.keep h.2.1 (w' := w') fun g hg' => hg.block g (OwnV.lt h.2.1 g hg').2.2 (by
    intro e; exact hne (by rw [hg', e])))) 
  have hvu : ∀ g, blk u = some g → gv ≠ g := fun g hg' e => own_ne hV hu (by decide) gv rfl (by rw [hg', e])
  refine ⟨by simp [h.1], (OwnV.set hV k u), fun j hj => ?_, ?_⟩
  · rw [List.length_set] at hj
    rw [gr_set hk]
    have hgd : (vs.set k u).getD j (.slice none 0 0) = if j = k then u else vs.getD j (.slice none 0 0) := by
      simp only [List.getD_eq_getElem?_getD, List.getElem?_set]
      by_cases e : k = j
      · subst e; simp [h.1, hk]
      · rw [if_neg e, if_neg (fun h => e h.symm)]
    rw [hgd]
    by_cases e : j = k
    · rw [if_pos e, if_pos e]
      exact OwnV.other hu (fun e' => hvu gv e' rfl) k u
    · rw [if_neg e, if_neg e]
      have hj' := h.2.2.1 j hj
      have hd := nodup_ne h.2.2.2 (i := j) (j := k) (by rw [h.1]; exact hj) (by rw [h.1]; exact hk) e (.slice none 0 0)
      have h1 : OwnI lo w'.heap.size w' (vs.getD j (.slice none 0 0)) (gr xss j) := OwnV.top (OwnV.keep hj' (w' := w') fun g hg' => hg.block g (OwnV.lt hj' g hg').2.2 (fun e' => hd g hg' e'.symm))
      exact OwnV.other h1 (fun e' => own_ne hV h1 (by decide) gv rfl e') k u
  · have hlt : ∀ g, g ∈ vs.filterMap blk → g < w.heap.size := by
      intro g hg'
      obtain ⟨x, hx, e⟩ := List.mem_filterMap.1 hg'
      obtain ⟨j, hj, e2⟩ := List.getElem_of_mem hx
      have := h.2.2.1 j (by rw [← h.1]; exact hj)
      rw [List.getD_eq_getElem?_getD, List.getElem?_eq_getElem hj] at this
      simp only [Option.getD_some, e2] at this
      exact (OwnV.lt this g e).2.2
    have hk' : k < vs.length := by rw [h.1]; exact hk
    have e1 : vs = vs.take k ++ vs.getD k (.slice none 0 0) :: vs.drop (k + 1) := by
      rw [List.getD_eq_getElem?_getD, List.getElem?_eq_getElem hk', Option.getD_some, List.getElem_cons_drop, List.take_append_drop]
    have hn := h.2.2.2
    rw [e1] at hn hlt
    rw [List.set_eq_take_append_cons_drop, if_pos hk']
    revert hn hlt hf
    generalize vs.getD k (.slice none 0 0) = o
    generalize vs.take k = a
    generalize vs.drop (k + 1) = b
    intro hf hlt hn
    rw [List.filterMap_append, List.filterMap_cons] at hn hlt ⊢
    cases hu' : blk u with
    | none =>
      simp only
      cases ho : blk o with
      | none => rw [ho] at hn; exact hn
      | some q => rw [ho] at hn; simp only at hn; exact (hn.sublist (List.Sublist.append (List.Sublist.refl _) (List.sublist_cons_self _ _)))
    | some p =>
      simp only
      rcases hf p hu' with e | e
      · rw [e] at hn; exact hn
      · have hn2 : (a.filterMap blk ++ b.filterMap blk).Nodup := by
          cases ho : blk o with
          | none => rw [ho] at hn; exact hn
          | some q => rw [ho] at hn; simp only at hn; exact (hn.sublist (List.Sublist.append (List.Sublist.refl _) (List.sublist_cons_self _ _)))
        have hm : ∀ g, g ∈ a.filterMap blk ++ b.filterMap blk → g < w.heap.size := by
          intro g hg'
          apply hlt g
          rcases List.mem_append.1 hg' with h' | h'
          · exact List.mem_append.2 (.inl h')
          · cases ho : blk o with
            | none => exact List.mem_append.2 (.inr h')
            | some q => exact List.mem_append.2 (.inr (List.mem_cons_of_mem _ h'))
        have hp : ¬ p ∈ a.filterMap blk ++ b.filterMap blk := fun h' => by have := hm p h'; omega
        exact (List.perm_middle.nodup_iff).2 (List.nodup_cons.2 ⟨hp, hn2⟩)
end Go.Proofs.Ythdioaeekhkgcaa
