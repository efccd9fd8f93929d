/-
  append at a step of a region that draws its order, onto a slice that is owned or still the empty one of the beginning.
-/
import Derived.Test.YthdioaeekhkgcaaOps2
namespace Go.Proofs.Ythdioaeekhkgcaa
set_option linter.unusedVariables false
set_option linter.unusedSimpArgs false
open Go.RowKit
theorem OwnE.below {b : Addr} {lo hi : Nat} {w w' : World} {v : Value} {xs : List Int} (h : OwnE b lo hi w v xs) (hb : Below w.heap.size w w') : OwnE b lo hi w' v xs := h.imp (fun h => h.below hb) id
section
variable {w : World} {o : Oper} {a : Act} {Q : Exit → Act → World → Prop} {K : Act → World → Prop}
/-- append(s, y) at a step of a region. -/
theorem wp_appE_int (s x : Operand) (hop : o.op = .call { callee := .builtin .append, args := #[s, x], argTypes := #[22, 22] })
    {b : Addr} {lo hi : Nat} {v : Value} {xs : List Int} (hs : a.eval s = v) (hown : OwnE b lo hi w v xs) (y : Int) (bx c : Nat) (hx : a.eval x = .slice (some ⟨bx, 0, none⟩) 1 c) (hcell : w.cell? ⟨bx, 0, none⟩ = some (.int .i64 y))
    (hlen : xs.length ≤ 1048576) (hbase : lo ≤ w.heap.size)
    (hK : ∀ sa c' w', OwnI lo w'.heap.size w' (.slice sa (xs.length + 1) c') (xs ++ [y]) → Outside lo hi w w' → K (a.put o.dst (.slice sa (xs.length + 1) c')) w') : o.wp Try.prog a w K Q := by
  obtain ⟨i0, hi', hz0, hz1, hz2⟩ := info_parts Try.infoI
  have hcells : ∀ (j : Nat) (u : Value), [Value.int .i64 y][j]? = some u → w.cell? ((⟨bx, 0, none⟩ : Addr).add j) = some u := by
    intro j u hj
    match j, hj with
    | 0, hj => simp at hj; subst hj; simpa [Addr.add] using hcell
  have h1c : ∀ u ∈ [Value.int .i64 y], u.oneCell' = true := by intro u hu; simp at hu; subst hu; rfl
  rcases hown with hown | ⟨rfl, rfl⟩
  · refine wp_append_own w s x 22 hop lo 2 i0 (.int .i64 0) 1 8 Try.underlying22 hi' hz0 hz1 hz2 rfl (by decide) v xs.length (xs.map (.int .i64)) hs (by have := OwnV.row hown; rwa [List.length_map] at this) ⟨bx, 0, none⟩ 1 c [.int .i64 y] hx rfl hcells h1c (by unfold maxLen; omega) (by omega) hbase ?_
    intro v' w' h1 h2 _
    have h3 : OwnI lo w'.heap.size w' v' (xs ++ [y]) := by
      have := ownV_of_row h1
      rwa [show xs.map (Value.int .i64) ++ [.int .i64 y] = (xs ++ [y]).map (.int .i64) by simp] at this
    obtain ⟨sa, n', c', rfl, hI⟩ := h3.is
    have hn : n' = xs.length + 1 := by have := hI.1; simp at this; omega
    subst hn
    exact hK sa c' w' h3 (out_of_grown hown h2)
  · have hnil : ∀ (j : Nat) (u : Value), ([] : List Value)[j]? = some u → w.cell? (b.add j) = some u := by
      intro j u h; simp at h
    obtain ⟨v', w', hrun, r1, r2⟩ := run_append_arg_grows (P := Try.prog) w 22 o.type 2 i0 (.int .i64 0) 1 8 Try.underlying22 hi' hz0 hz1 hz2 rfl (by decide) b 0 0 [] rfl hnil ⟨bx, 0, none⟩ 1 c [.int .i64 y] rfl hcells (by omega) (by unfold maxLen; omega) (by omega)
    have h3 : OwnI w.heap.size w'.heap.size w' v' [y] := by
      have := ownV_of_row r1
      unfold OwnI; simpa using this
    obtain ⟨sa, n', c', rfl, hJ⟩ := h3.is
    have hn' : n' = 1 := by have := hJ.1; simpa using this.symm
    subst hn'
    unfold Oper.wp execOp
    simp only [hop, resolve, invoke, builtin, Sem.run_bind, Sem.run_pure, Result.andThen_ok, List.map_toArray, List.map_cons, List.map_nil, hs, hx, hrun]
    exact hK sa c' w' (h3.mono hbase (Nat.le_refl _)) (Go.Proofs.Ythdioaeekhkgcaa.Below.outside ((Below.refl _ _).grown r2 (Nat.le_refl _) (fun k h => by cases h)) _ _)
theorem step_appE_int {ops : Array Oper} {E : Prop} (hg : o.guard = none) (s x : Operand) (hop : o.op = .call { callee := .builtin .append, args := #[s, x], argTypes := #[22, 22] })
    {b : Addr} {lo hi : Nat} {v : Value} {xs : List Int} (hs : a.eval s = v) (hown : OwnE b lo hi w v xs) (y : Int) (bx c : Nat) (hx : a.eval x = .slice (some ⟨bx, 0, none⟩) 1 c) (hcell : w.cell? ⟨bx, 0, none⟩ = some (.int .i64 y))
    (hlen : xs.length ≤ 1048576) (hbase : lo ≤ w.heap.size)
    (hK : ∀ sa c' w', OwnI lo w'.heap.size w' (.slice sa (xs.length + 1) c') (xs ++ [y]) → Outside lo hi w w' → K (a.put o.dst (.slice sa (xs.length + 1) c')) w') :
    if Region.wanted o (yielded ops a.tmps) = true then Oper.wp Try.prog o a w K Q else E := by
  have hw : Region.wanted o (yielded ops a.tmps) = true := by simp [Region.wanted, hg]
  rw [if_pos hw]
  exact wp_appE_int s x hop hs hown y bx c hx hcell hlen hbase hK
end
end Go.Proofs.Ythdioaeekhkgcaa
