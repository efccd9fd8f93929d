/-
  append of a slice of numbers to a slice of such slices that the call owns.
-/
import Derived.Test.YthdioaeekhkgcaaMark2
namespace Go.Proofs.Ythdioaeekhkgcaa
set_option linter.unusedVariables false
set_option linter.unusedSimpArgs false
open Go.RowKit
theorem own_blk_ne {lo hi lo' hi' : Nat} {w : World} {v u : Value} {xss : List (List Int)} {vs : List Value} {row : List Int} (h : OwnR lo hi w v xss vs) (hu : OwnI lo' hi' w u row) : ∀ g, blk u = some g → blk v ≠ some g :=
  fun g hg e => own_ne h.2.1 hu (by decide) g e hg
theorem gr_append {xss : List (List Int)} {row : List Int} {k : Nat} : gr (xss ++ [row]) k = if k < xss.length then gr xss k else if k = xss.length then row else [] := by
  by_cases h1 : k < xss.length
  · rw [if_pos h1]; simp [gr, List.getD_eq_getElem?_getD, List.getElem?_append_left h1]
  · rw [if_neg h1]
    by_cases h2 : k = xss.length
    · rw [if_pos h2, h2]; simp [gr, List.getD_eq_getElem?_getD]
    · rw [if_neg h2]; rw [gr_out (by simp; omega)]
theorem take_gr {xss : List (List Int)} {k : Nat} (h : k < xss.length) : xss.take (k + 1) = xss.take k ++ [gr xss k] := by
  rw [List.take_succ_eq_append_getElem h, gr_get h]
theorem getD_append {vs : List Value} {u d : Value} {k : Nat} : (vs ++ [u]).getD k d = if k < vs.length then vs.getD k d else if k = vs.length then u else d := by
  by_cases h1 : k < vs.length
  · rw [if_pos h1]; simp [List.getD_eq_getElem?_getD, List.getElem?_append_left h1]
  · rw [if_neg h1]
    by_cases h2 : k = vs.length
    · rw [if_pos h2, h2]; simp [List.getD_eq_getElem?_getD]
    · rw [if_neg h2]; simp [List.getD_eq_getElem?_getD, List.getElem?_eq_none (show (vs ++ [u]).length ≤ k by simp; omega)]
theorem ownR_nil (lo hi : Nat) (w : World) : OwnR lo hi w (.slice none 0 0) [] [] := ⟨rfl, ownV_nil _ _ _ _, fun k hk => by simp at hk, by simp⟩
theorem ownR_empty (lo : Nat) (w : World) (hlo : lo ≤ w.heap.size) : OwnR lo (w.alloc (.cells #[] 22)).heap.size (w.alloc (.cells #[] 22)) (.slice (some ⟨w.heap.size, 0, none⟩) 0 0) [] [] :=
  ⟨rfl, .inr ⟨w.heap.size, 0, #[], rfl, hlo, by simp, heap_alloc_new _ _, by simp, by simp, by simp, by simp⟩, fun k hk => by simp at hk, by simp⟩

theorem app_row {w : World} {ops : Array Oper} {rest : List Oper} {o : Oper} {a : Act} {Q : Exit → Act → World → Prop} (hg : o.guard = none) (s x : Operand) (hop : o.op = .call { callee := .builtin .append, args := #[s, x], argTypes := #[23, 23] })
    {lo hi : Nat} {v : Value} {xss : List (List Int)} {vs : List Value} (hs : a.eval s = v) (hown : OwnR lo hi w v xss vs) {su : Option Addr} {nu cu : Nat} {row : List Int} (hu : OwnI lo w.heap.size w (.slice su nu cu) row) (hne : ∀ g, blk (.slice su nu cu) = some g → ¬ g ∈ vs.filterMap blk)
    (b c : Nat) (hx : a.eval x = .slice (some ⟨b, 0, none⟩) 1 c) (hcell : w.cell? ⟨b, 0, none⟩ = some (.slice su nu cu)) (hlen : xss.length ≤ 1048576) (hbase : lo ≤ w.heap.size)
    (hK : ∀ sa c' w', OwnR lo w'.heap.size w' (.slice sa (xss.length + 1) c') (xss ++ [row]) (vs ++ [.slice su nu cu]) → w.grownBy w' (blk v) → wpList Try.prog ops Q rest (a.put o.dst (.slice sa (xss.length + 1) c')) w') :
    wpList Try.prog ops Q (o :: rest) a w := by
  obtain ⟨i0, hi', hz0, hz1, hz2⟩ := info_parts Try.infoS
  have hcells : ∀ (j : Nat) (u : Value), [Value.slice su nu cu][j]? = some u → w.cell? ((⟨b, 0, none⟩ : Addr).add j) = some u := by
    intro j u hj
    match j, hj with
    | 0, hj => simp at hj; subst hj; simpa [Addr.add] using hcell
  have h1c : ∀ u ∈ [Value.slice su nu cu], u.oneCell' = true := by intro u hu; simp at hu; subst hu; rfl
  refine wpList_append_own _ hg s x 23 hop lo 22 i0 (.slice none 0 0) 1 24 Try.underlying23 hi' hz0 hz1 hz2 rfl (by decide) v xss.length vs hs (by have := OwnV.row hown.2.1; rwa [hown.1] at this) ⟨b, 0, none⟩ 1 c [.slice su nu cu] hx rfl hcells h1c (by unfold maxLen; omega) (by omega) hbase ?_
  intro v' w' h1 h2 _
  have hV : OwnV 22 lo w'.heap.size w' v' (vs ++ [.slice su nu cu]) := ownV_of_row h1
  have hR : OwnR lo w'.heap.size w' v' (xss ++ [row]) (vs ++ [.slice su nu cu]) := by
    refine ⟨by simp [hown.1], hV, fun k hk => ?_, ?_⟩
    · rw [gr_append, getD_append, hown.1]
      simp only [List.length_append, List.length_singleton] at hk
      by_cases e : k < xss.length
      · rw [if_pos e, if_pos e]
        have hk' := hown.2.2.1 k e
        have hm : ∀ g, blk (vs.getD k (.slice none 0 0)) = some g → blk v ≠ some g := own_blk_ne hown hk'
        exact ((hk'.grown h2 (fun g hg' e' => hm g hg' (by rw [← e']))).top).mono (Nat.le_refl _) (Nat.le_refl _)
      · have e2 : k = xss.length := by omega
        rw [if_neg e, if_neg e, if_pos e2, if_pos e2]
        exact (hu.grown h2 (fun g hg' e' => own_blk_ne hown hu g hg' (by rw [← e']))).top
    · rw [List.filterMap_append, List.nodup_append]
      refine ⟨hown.2.2.2, ?_, ?_⟩
      · cases hq : blk (Value.slice su nu cu) <;> simp [hq]
      · intro y hy z hz e
        subst e
        cases hq : blk (Value.slice su nu cu) with
        | none => simp [hq] at hz
        | some q => simp [hq] at hz; subst hz; exact hne y hq hy
  obtain ⟨sa, n', c', rfl, hI⟩ := hR.is
  have hn : n' = xss.length + 1 := by have := hI.len; simp at this; omega
  subst hn
  exact hK sa c' w' hR h2
end Go.Proofs.Ythdioaeekhkgcaa
