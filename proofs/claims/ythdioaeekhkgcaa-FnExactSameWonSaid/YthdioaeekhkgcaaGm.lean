/-
  The reference's game with both ways of its edges: l7Of, l7Edge, l7Degree.
-/
import Derived.Test.YthdioaeekhkgcaaOps5
import Derived.Test.YthdioaeekhkgcaaMark2
import Derived.Test.YthdioaeekhkgcaaSetC
import Derived.Test.YthdioaeekhkgcaaPok
namespace Go.Proofs.Ythdioaeekhkgcaa
set_option linter.unusedVariables false
set_option linter.unusedSimpArgs false
open Go.RowKit
attribute [local go_sem ↓] Go.wp_at_zero Go.wp_at_succ

def tabr (n : Nat) (f : Nat → List Int) : List (List Int) := (List.range n).map f
@[simp] theorem tabr_len (n : Nat) (f : Nat → List Int) : (tabr n f).length = n := by simp [tabr]
theorem gr_tabr {n k : Nat} (f : Nat → List Int) (h : k < n) : gr (tabr n f) k = f k := by simp [gr, tabr, List.getD, h]
theorem eq_tabr {xs : List (List Int)} {n : Nat} {f : Nat → List Int} (hl : xs.length = n) (h : ∀ k, k < n → gr xs k = f k) : xs = tabr n f := by
  apply List.ext_getElem (by simp [hl])
  intro k h1 h2
  have := h k (by omega)
  rw [← gr_tabr f (by omega : k < n)] at this
  rw [gr_get (by omega), gr_get (by simp; omega)] at this
  exact this
theorem tabr_set {n k : Nat} {f : Nat → List Int} {x : List Int} (hk : k < n) : (tabr n f).set k x = tabr n fun i => if i = k then x else f i :=
  eq_tabr (by simp) fun j hj => by rw [gr_set (by simpa using hk), gr_tabr f hj]
theorem tabr_congr {n : Nat} {f g : Nat → List Int} (h : ∀ k, k < n → f k = g k) : tabr n f = tabr n g := eq_tabr (by simp) fun k hk => by rw [gr_tabr _ hk, h k hk]
/-- From which of the first rows u is reached, once for each time. -/
def prevRow (row : List Int) (v u : Nat) : Nat → List Int
  | 0 => []
  | i + 1 => prevRow row v u i ++ if (gi row i).toNat = u then [(v : Int)] else []
def prevTo (nxt : List (List Int)) (u : Nat) : Nat → List Int
  | 0 => []
  | k + 1 => prevTo nxt u k ++ prevRow (gr nxt k) k u (gr nxt k).length
theorem prevRow_len (row : List Int) (v u : Nat) : ∀ i, (prevRow row v u i).length ≤ i := by
  intro i
  induction i with
  | zero => simp [prevRow]
  | succ i ih => unfold prevRow; rw [List.length_append]; split <;> simp <;> omega
theorem prevTo_len {nxt : List (List Int)} {m : Nat} (u : Nat) : ∀ k, (∀ j, j < k → (gr nxt j).length ≤ m) → (prevTo nxt u k).length ≤ m * k := by
  intro k
  induction k with
  | zero => intro _; simp [prevTo]
  | succ k ih =>
    intro h
    have h1 := ih fun j hj => h j (by omega)
    have h2 := prevRow_len (gr nxt k) k u (gr nxt k).length
    have h3 := h k (by omega)
    unfold prevTo
    rw [List.length_append, Nat.mul_succ]
    omega

structure Gm where
  own : List Int
  prio : List Int
  nxt : List (List Int)
  prev : List (List Int)
  pick : List Int
def gmOf (g : Pa) : Gm := ⟨g.ar.own, g.prio, g.ar.nxt, tabr g.prio.length fun u => prevTo g.ar.nxt u g.prio.length, tab g.prio.length fun _ => -1⟩
def IsG (w : World) (v : Value) (g : Gm) : Prop := ∃ vo vp vn vq vk, v = .agg #[vo, vp, vn, vq, vk] ∧ IsI w vo g.own ∧ IsI w vp g.prio ∧ IsII w vn g.nxt ∧ IsII w vq g.prev ∧ IsI w vk g.pick
theorem IsG.below {w w' : World} {v : Value} {g : Gm} (h : IsG w v g) (hb : Below w.heap.size w w') : IsG w' v g :=
  let ⟨vo, vp, vn, vq, vk, e, h1, h2, h3, h4, h5⟩ := h; ⟨vo, vp, vn, vq, vk, e, h1.below hb, h2.below hb, h3.below hb, h4.below hb, h5.below hb⟩

section
variable {w : World} {ops : Array Oper} {o : Oper} {a : Act} {Q : Exit → Act → World → Prop} {K : Act → World → Prop} {E : Prop}
theorem step_app_row (hg : o.guard = none) (s x : Operand) (hop : o.op = .call { callee := .builtin .append, args := #[s, x], argTypes := #[22, 22] })
    {lo hi : Nat} {v : Value} {xs : List Int} (hs : a.eval s = v) (hown : OwnI lo hi w v xs) (y : Int) (bx c : Nat) (hx : a.eval x = .slice (some ⟨bx, 0, none⟩) 1 c) (hcell : w.cell? ⟨bx, 0, none⟩ = some (.int .i64 y))
    (hlen : xs.length ≤ 1048576) (hbase : lo ≤ w.heap.size)
    (hK : ∀ sa c' w', OwnI lo w'.heap.size w' (.slice sa (xs.length + 1) c') (xs ++ [y]) → w.grownBy w' (blk v) → (∀ g, blk (.slice sa (xs.length + 1) c') = some g → blk v = some g ∨ w.heap.size ≤ g) → K (a.put o.dst (.slice sa (xs.length + 1) c')) w') :
    if Region.wanted o (yielded ops a.tmps) = true then Oper.wp Try.prog o a w K Q else E := by
  have hw : Region.wanted o (yielded ops a.tmps) = true := by simp [Region.wanted, hg]
  rw [if_pos hw]
  obtain ⟨sa, c', w', hrun, h1, h2, h3⟩ := run_app_row o.type hown y bx c hcell hlen hbase
  unfold Oper.wp execOp
  simp only [hop, resolve, invoke, builtin, Sem.run_bind, Sem.run_pure, Result.andThen_ok, List.map_toArray, List.map_cons, List.map_nil, hs, hx, hrun]
  exact hK sa c' w' h1 h2 h3
theorem wp_mk_ints (l c : Operand) (hop : o.op = Op.makeSlice 22 l c) (kl kc : IntKind) (L C : Int) (n : Nat) (hl : a.eval l = .int kl L) (hc : a.eval c = .int kc C) (hL : L = (n : Int)) (hC : C = (n : Int)) (hn : n ≤ 1048576)
    (hK : ∀ b w', b = w.heap.size → OwnI b w'.heap.size w' (.slice (some ⟨b, 0, none⟩) n n) (tab n fun _ => 0) → Below b w w' → b < w'.heap.size → K (a.put o.dst (.slice (some ⟨b, 0, none⟩) n n)) w') : o.wp Try.prog a w K Q := by
  obtain ⟨i0, hi, hz0, hz1, hz2⟩ := info_parts Try.infoI
  obtain ⟨w', hrun, r1, r2⟩ := run_make_full (P := Try.prog) w w.heap.size 22 2 i0 (.int .i64 0) 1 Try.underlying22 hi hz0 hz1 kl kc n (by rw [hz2]; omega) (by unfold maxLen; omega) (Nat.le_refl _)
  subst hL
  subst hC
  rw [Nat.mul_one, show (Value.int .i64 0).cells = #[.int .i64 0] from rfl, made_ints] at r1
  unfold Oper.wp
  simp [execOp, hop, hl, hc, hrun, Result.andThen]
  exact hK _ w' rfl (ownV_of_row r1) ((Below.refl _ _).grown r2 (Nat.le_refl _) (fun k h => by cases h)) (r1.lt _ rfl).2
theorem wp_mk_rows (l c : Operand) (hop : o.op = Op.makeSlice 23 l c) (kl kc : IntKind) (L C : Int) (n : Nat) (hl : a.eval l = .int kl L) (hc : a.eval c = .int kc C) (hL : L = (n : Int)) (hC : C = (n : Int)) (hn : n ≤ 1048576)
    (hK : ∀ b w', b = w.heap.size → OwnR b w'.heap.size w' (.slice (some ⟨b, 0, none⟩) n n) (tabr n fun _ => []) (List.replicate n (.slice none 0 0)) → Below b w w' → b < w'.heap.size → K (a.put o.dst (.slice (some ⟨b, 0, none⟩) n n)) w') : o.wp Try.prog a w K Q := by
  obtain ⟨i0, hi, hz0, hz1, hz2⟩ := info_parts Try.infoS
  obtain ⟨w', hrun, r1, r2⟩ := run_make_full (P := Try.prog) w w.heap.size 23 22 i0 (.slice none 0 0) 1 Try.underlying23 hi hz0 hz1 kl kc n (by rw [hz2]; omega) (by unfold maxLen; omega) (Nat.le_refl _)
  subst hL
  subst hC
  rw [Nat.mul_one, show (Value.slice none 0 0).cells = #[.slice none 0 0] from rfl, made_slices] at r1
  unfold Oper.wp
  simp [execOp, hop, hl, hc, hrun, Result.andThen]
  refine hK _ w' rfl ⟨by simp, ?_, fun k hk => ?_, ?_⟩ ((Below.refl _ _).grown r2 (Nat.le_refl _) (fun k h => by cases h)) (r1.lt _ rfl).2
  · have := ownV_of_row r1
    exact this
  · rw [tabr_len] at hk
    rw [gr_tabr _ hk, show (List.replicate n (Value.slice none 0 0)).getD k (.slice none 0 0) = .slice none 0 0 by simp [List.getD_eq_getElem?_getD, List.getElem?_replicate]; split <;> rfl]
    exact ownV_nil _ _ _ _
  · rw [show (List.replicate n (Value.slice none 0 0)).filterMap blk = [] from by simp [blk, Value.ownBlock, List.filterMap_replicate]]
    exact List.nodup_nil
theorem step_mk_ints (hg : o.guard = none) (l c : Operand) (hop : o.op = Op.makeSlice 22 l c) (kl kc : IntKind) (L C : Int) (n : Nat) (hl : a.eval l = .int kl L) (hc : a.eval c = .int kc C) (hL : L = (n : Int)) (hC : C = (n : Int)) (hn : n ≤ 1048576)
    (hK : ∀ b w', b = w.heap.size → OwnI b w'.heap.size w' (.slice (some ⟨b, 0, none⟩) n n) (tab n fun _ => 0) → Below b w w' → b < w'.heap.size → K (a.put o.dst (.slice (some ⟨b, 0, none⟩) n n)) w') :
    if Region.wanted o (yielded ops a.tmps) = true then Oper.wp Try.prog o a w K Q else E := by
  have hw : Region.wanted o (yielded ops a.tmps) = true := by simp [Region.wanted, hg]
  rw [if_pos hw]
  exact wp_mk_ints l c hop kl kc L C n hl hc hL hC hn hK
theorem step_mk_rows (hg : o.guard = none) (l c : Operand) (hop : o.op = Op.makeSlice 23 l c) (kl kc : IntKind) (L C : Int) (n : Nat) (hl : a.eval l = .int kl L) (hc : a.eval c = .int kc C) (hL : L = (n : Int)) (hC : C = (n : Int)) (hn : n ≤ 1048576)
    (hK : ∀ b w', b = w.heap.size → OwnR b w'.heap.size w' (.slice (some ⟨b, 0, none⟩) n n) (tabr n fun _ => []) (List.replicate n (.slice none 0 0)) → Below b w w' → b < w'.heap.size → K (a.put o.dst (.slice (some ⟨b, 0, none⟩) n n)) w') :
    if Region.wanted o (yielded ops a.tmps) = true then Oper.wp Try.prog o a w K Q else E := by
  have hw : Region.wanted o (yielded ops a.tmps) = true := by simp [Region.wanted, hg]
  rw [if_pos hw]
  exact wp_mk_rows l c hop kl kc L C n hl hc hL hC hn hK
end
end Go.Proofs.Ythdioaeekhkgcaa
