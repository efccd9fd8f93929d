/-
  Lists by a property; small functions that make them.
-/
import Derived.Test.YthdioaeekhkgcaaOps
import Derived.Test.YthdioaeekhkgcaaOk
namespace Go.Proofs.Ythdioaeekhkgcaa
set_option linter.unusedVariables false
set_option linter.unusedSimpArgs false
open Go.RowKit
attribute [local go_sem ↓] Go.wp_at_zero Go.wp_at_succ

/-- The numbers below k with p, rising. -/
noncomputable def lst (p : Nat → Prop) : Nat → List Int
  | 0 => []
  | k + 1 => @ite _ (p k) (Classical.propDecidable _) (lst p k ++ [(k : Int)]) (lst p k)
theorem lst_yes {p : Nat → Prop} {k : Nat} (h : p k) : lst p (k + 1) = lst p k ++ [(k : Int)] := if_pos h
theorem lst_no {p : Nat → Prop} {k : Nat} (h : ¬ p k) : lst p (k + 1) = lst p k := if_neg h
theorem lst_len (p : Nat → Prop) (k : Nat) : (lst p k).length ≤ k := by
  induction k with
  | zero => simp [lst]
  | succ k ih =>
    by_cases h : p k
    · rw [lst_yes h]; simp; omega
    · rw [lst_no h]; omega
theorem mem_lst {p : Nat → Prop} {k : Nat} {x : Int} : x ∈ lst p k ↔ ∃ v, v < k ∧ p v ∧ x = v := by
  induction k with
  | zero => simp [lst]
  | succ k ih =>
    by_cases h : p k
    · rw [lst_yes h, List.mem_append, ih]
      constructor
      · rintro (⟨v, h1, h2, h3⟩ | h1)
        · exact ⟨v, by omega, h2, h3⟩
        · simp at h1; exact ⟨k, by omega, h, h1⟩
      · rintro ⟨v, h1, h2, h3⟩
        by_cases e : v = k
        · subst e; right; simp [h3]
        · left; exact ⟨v, by omega, h2, h3⟩
    · rw [lst_no h, ih]
      constructor
      · rintro ⟨v, h1, h2⟩; exact ⟨v, by omega, h2⟩
      · rintro ⟨v, h1, h2, h3⟩
        by_cases e : v = k
        · subst e; exact absurd h2 h
        · exact ⟨v, by omega, h2, h3⟩
theorem lst_congr {p q : Nat → Prop} {n : Nat} (h : ∀ v, v < n → (p v ↔ q v)) : lst p n = lst q n := by
  induction n with
  | zero => rfl
  | succ n ih =>
    have ih := ih fun v hv => h v (by omega)
    by_cases hp : p n
    · rw [lst_yes hp, lst_yes ((h n (by omega)).1 hp), ih]
    · rw [lst_no hp, lst_no (fun hq => hp ((h n (by omega)).2 hq)), ih]
/-- Of each below n whether p. -/
noncomputable def mks (n : Nat) (p : Nat → Prop) : List Bool := tabb n fun k => tf (p k)
theorem mks_len (n : Nat) (p : Nat → Prop) : (mks n p).length = n := tabb_len _ _
theorem gb_mks {n k : Nat} (p : Nat → Prop) (h : k < n) : gb (mks n p) k = tf (p k) := gb_tabb _ h
theorem mks_congr {p q : Nat → Prop} {n : Nat} (h : ∀ v, v < n → (p v ↔ q v)) : mks n p = mks n q := tabb_congr fun k hk => tf_congr (h k hk)
/-- Of the first k of a list those with p. -/
noncomputable def filt (p : Int → Prop) (xs : List Int) : Nat → List Int
  | 0 => []
  | k + 1 => @ite _ (p (gi xs k)) (Classical.propDecidable _) (filt p xs k ++ [gi xs k]) (filt p xs k)
theorem filt_yes {p : Int → Prop} {xs : List Int} {k : Nat} (h : p (gi xs k)) : filt p xs (k + 1) = filt p xs k ++ [gi xs k] := if_pos h
theorem filt_no {p : Int → Prop} {xs : List Int} {k : Nat} (h : ¬ p (gi xs k)) : filt p xs (k + 1) = filt p xs k := if_neg h
theorem filt_len (p : Int → Prop) (xs : List Int) (k : Nat) : (filt p xs k).length ≤ k := by
  induction k with
  | zero => simp [filt]
  | succ k ih =>
    by_cases h : p (gi xs k)
    · rw [filt_yes h]; simp; omega
    · rw [filt_no h]; omega
theorem tab_succ (n : Nat) (f : Nat → Int) : tab (n + 1) f = tab n f ++ [f n] := by simp [tab, List.range_succ]
theorem tabb_succ (n : Nat) (f : Nat → Bool) : tabb (n + 1) f = tabb n f ++ [f n] := by simp [tabb, List.range_succ]
/-- All elements are vertices below m. -/
def Bnd (xs : List Int) (m : Nat) : Prop := ∀ k, k < xs.length → 0 ≤ gi xs k ∧ gi xs k < m
theorem IsSet.bnd {xs : List Int} {m : Nat} (h : IsSet xs m) : Bnd xs m := fun k hk => ⟨(h k hk).1, (h k hk).2.1⟩
theorem own_nil (lo : Nat) (w : World) (c : Nat) (hlo : lo ≤ w.heap.size) : OwnI lo (w.alloc (.cells #[] 2)).heap.size (w.alloc (.cells #[] 2)) (.slice (some ⟨w.heap.size, 0, none⟩) 0 0) [] :=
  .inr ⟨w.heap.size, 0, #[], rfl, hlo, by simp, heap_alloc_new _ _, by simp, by simp, by simp, by simp⟩

set_option maxHeartbeats 400000 in
theorem noPlan_i (v : Value) (a : Ar) (w : World) (hA : IsA w v a) (hn : a.own.length ≤ 1048576) : Calls Try.prog 102 #[v] w (RetI' w (tab a.own.length fun _ => -1)) := by
  obtain ⟨_, _, rfl, ⟨s1, n1, c1, rfl, h1⟩, ⟨s2, n2, c2, rfl, h2⟩⟩ := hA
  have hm := h1.max
  obtain rfl := h1.1
  go_enter Try.func102, Try.ntmps102
  go_wp2_with (at_make; refine mk_ints rfl _ _ rfl _ _ _ _ a.own.length rfl rfl rfl rfl hn ?_; intro w1 ho1 hb1 hz1)
  replace hb1 : Below w.heap.size w w1 := (below_alloc _ _).trans (hb1.mono (by simp))
  go_loopw [11] (fun i wr => ∃ k : Nat, k ≤ a.own.length ∧ i = .int .i64 k ∧ OwnI w.heap.size wr.heap.size wr (.slice (some ⟨w.heap.size + 1, 0, none⟩) a.own.length a.own.length) (tab a.own.length fun j => if j < k then -1 else 0) ∧ Below w.heap.size w wr) (fun i _ => a.own.length - (intOf i).toNat)
  case atStart => exact ⟨0, by omega, rfl, by simpa using ho1.mono (by simp) (Nat.le_refl _), hb1⟩
  case round =>
    obtain ⟨k, hk, rfl, ho, hb⟩ := hrel
    by_cases hlt : k < a.own.length
    · obtain ⟨q1, q2, q3, q4⟩ := ho.cell hlt
      go_wp2
      go_roundw
      case rel =>
        refine ⟨k + 1, by omega, by go_num, ?_, below_set hb (by omega) _⟩
        have := (OwnI.set ho k (-1)).top
        rwa [tab_fill (f := fun _ => -1) (d := fun _ => 0) hlt] at this
      case measure => simp [intOf]; omega
    · go_wp2
      go_ret
      have e : k = a.own.length := by omega
      subst e
      refine ⟨_, _, _, rfl, ?_, hb⟩
      rwa [tab_congr (g := fun _ => -1) (fun j hj => if_pos hj)] at ho

set_option maxHeartbeats 400000 in
theorem l7None_s (n : Nat) (w : World) (hn : n ≤ 1048576) : Calls Try.prog 100 #[.int .i64 n] w (RetI' w (tab n fun _ => -1)) := by
  go_enter Try.func100, Try.ntmps100
  go_wp2
  go_loopw [3, 4] (fun v i wr => ∃ (k c : Nat) (sa : Option Addr), k ≤ n ∧ i = .int .i64 k ∧ v = .slice sa k c ∧ OwnI w.heap.size wr.heap.size wr (.slice sa k c) (tab k fun _ => -1) ∧ Below w.heap.size w wr) (fun _ i _ => n - (intOf i).toNat)
  case atStart => exact ⟨0, 0, _, by omega, rfl, rfl, own_nil _ _ 0 (Nat.le_refl _), below_alloc _ _⟩
  case round =>
    obtain ⟨k, c, sa, hk, rfl, rfl, ho, hb⟩ := hrel
    by_cases hlt : k < n
    · go_wp2_with (at_builtin; refine app_int rfl _ _ rfl rfl (OwnI.alloc ho _) (-1) _ _ rfl (by simp) (by simp; omega) (by have := hb.size; simp; omega) ?_; intro sa' c' w2 ho2 hO2)
      go_roundw
      case rel =>
        rw [tab_len] at *
        exact ⟨k + 1, c', sa', by omega, by go_num, rfl, by rwa [← tab_succ (f := fun _ => -1)] at ho2, bel_app hb hO2⟩
      case measure => simp [intOf]; omega
    · go_wp2
      go_ret
      have e : k = n := by omega
      subst e
      exact ⟨_, _, _, rfl, ho, hb⟩
theorem size_i (v : Value) (a : Ar) (w : World) (hA : IsA w v a) : Calls Try.prog 84 #[v] w (Bi w a.own.length) := by
  obtain ⟨_, _, rfl, ⟨s1, n1, c1, rfl, h1⟩, ⟨s2, n2, c2, rfl, h2⟩⟩ := hA
  have H1 := Lib.hid h1.1
  have hm := h1.max
  go_enter Try.func84, Try.ntmps84
  go_wp2
  go_ret
  exact ⟨ret_int (by rw [H1.out]), (by repeat' (first | (with_reducible exact Below.refl _ _) | (with_reducible apply Below.alloc) | (with_reducible apply Below.drew) | (with_reducible apply below_drawn) | omega | (simp only [World.size_alloc, World.size_setCell, World.size_drew]; omega)))⟩
end Go.Proofs.Ythdioaeekhkgcaa
