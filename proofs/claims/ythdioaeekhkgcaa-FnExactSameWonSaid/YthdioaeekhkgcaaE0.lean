/-
  Games with links both ways: a right game's links are right.
-/
import Derived.Test.YthdioaeekhkgcaaE1
namespace Go.Proofs.Ythdioaeekhkgcaa
set_option linter.unusedVariables false
set_option linter.unusedSimpArgs false
open Go.RowKit

theorem mem_prevRow {row : List Int} {v u : Nat} {x : Int} : ∀ {k : Nat}, x ∈ prevRow row v u k ↔ x = v ∧ ∃ i, i < k ∧ (gi row i).toNat = u := by
  intro k
  induction k with
  | zero => simp [prevRow]
  | succ k ih =>
    unfold prevRow
    rw [List.mem_append, ih]
    constructor
    · rintro (⟨h1, i, h2, h3⟩ | h)
      · exact ⟨h1, i, by omega, h3⟩
      · split at h
        · rename_i hu; simp at h; exact ⟨h, k, by omega, hu⟩
        · simp at h
    · rintro ⟨h1, i, h2, h3⟩
      rcases Nat.lt_or_ge i k with h | h
      · exact .inl ⟨h1, i, h, h3⟩
      · have : i = k := by omega
        subst this
        rw [if_pos h3]; exact .inr (by simp [h1])
theorem mem_prevTo {nxt : List (List Int)} {u : Nat} {x : Int} : ∀ {k : Nat}, x ∈ prevTo nxt u k ↔ ∃ v, v < k ∧ x = (v : Int) ∧ ∃ i, i < (gr nxt v).length ∧ (gi (gr nxt v) i).toNat = u := by
  intro k
  induction k with
  | zero => simp [prevTo]
  | succ k ih =>
    unfold prevTo
    rw [List.mem_append, ih, mem_prevRow]
    constructor
    · rintro (⟨v, h1, h2⟩ | ⟨h1, h2⟩)
      · exact ⟨v, by omega, h2⟩
      · exact ⟨k, by omega, h1, h2⟩
    · rintro ⟨v, h1, h2⟩
      rcases Nat.lt_or_ge v k with h | h
      · exact .inl ⟨v, h, h2⟩
      · have : v = k := by omega
        subst this; exact .inr h2
theorem set_lt {xs : List Int} {m : Int} (h : IsSet xs m) : ∀ {t s : Nat}, s < t → t < xs.length → gi xs s < gi xs t := by
  intro t
  induction t with
  | zero => intro s h1; omega
  | succ t ih =>
    intro s h1 h2
    have := (h (t + 1) h2).2.2 (by omega)
    simp only [Nat.add_sub_cancel] at this
    rcases Nat.lt_or_ge s t with h3 | h3
    · have := ih h3 (by omega); omega
    · have : s = t := by omega
      subst this; omega
theorem set_uniq {xs : List Int} {m : Int} (h : IsSet xs m) {s t : Nat} (hs : s < xs.length) (ht : t < xs.length) (e : gi xs s = gi xs t) : s = t := by
  rcases Nat.lt_trichotomy s t with h' | h' | h'
  · have := set_lt h h' ht; omega
  · exact h'
  · have := set_lt h h' hs; omega
theorem nodup_uniq {xs : List Int} (h : xs.Nodup) {s t : Nat} (hs : s < xs.length) (ht : t < xs.length) (e : gi xs s = gi xs t) : s = t := by
  rw [gi_get hs, gi_get ht] at e
  exact (List.getElem_inj (h₀ := hs) (h₁ := ht) h).1 e
theorem prevRow_nodup {row : List Int} {m : Int} (h : IsSet row m) (v u : Nat) : ∀ i, i ≤ row.length → (prevRow row v u i = [] ∨ (prevRow row v u i = [(v : Int)] ∧ ∃ j, j < i ∧ (gi row j).toNat = u)) := by
  intro i
  induction i with
  | zero => intro _; exact .inl rfl
  | succ i ih =>
    intro hi
    unfold prevRow
    by_cases e : (gi row i).toNat = u
    · rw [if_pos e]
      rcases ih (by omega) with h1 | ⟨_, j, h1, h2⟩
      · rw [h1]; exact .inr ⟨rfl, i, by omega, e⟩
      · have a := (h j (by omega)).1
        have b := (h i (by omega)).1
        have := set_uniq h (s := j) (t := i) (by omega) (by omega) (by omega)
        omega
    · rw [if_neg e, List.append_nil]
      rcases ih (by omega) with h1 | ⟨h0, j, h1, h2⟩
      · exact .inl h1
      · exact .inr ⟨h0, j, by omega, h2⟩
theorem prevTo_nodup {nxt : List (List Int)} {n : Nat} {m : Int} (h : ∀ v, v < n → IsSet (gr nxt v) m) (u : Nat) : (prevTo nxt u n).Nodup := by
  induction n with
  | zero => exact List.nodup_nil
  | succ n ih =>
    unfold prevTo
    rcases prevRow_nodup (h n (by omega)) n u _ (Nat.le_refl _) with e | ⟨e, _⟩
    · rw [e, List.append_nil]; exact ih fun v hv => h v (by omega)
    · rw [e, List.nodup_append]
      refine ⟨ih fun v hv => h v (by omega), by simp, fun x hx y hy => ?_⟩
      obtain ⟨v, h1, h2, _⟩ := mem_prevTo.1 hx
      simp at hy
      omega
theorem prevTo_iff {nxt : List (List Int)} {n : Nat} (hv : ∀ v, v < n → ∀ i, i < (gr nxt v).length → 0 ≤ gi (gr nxt v) i ∧ gi (gr nxt v) i < n) (u v : Nat) : (∃ t, t < (prevTo nxt u n).length ∧ gi (prevTo nxt u n) t = (v : Int)) ↔ v < n ∧ ∃ t, t < (gr nxt v).length ∧ gi (gr nxt v) t = (u : Int) := by
  constructor
  · rintro ⟨t, h1, h2⟩
    have hm : (v : Int) ∈ prevTo nxt u n := by rw [← h2]; exact gi_mem h1
    obtain ⟨v', h3, h4, i, h5, h6⟩ := mem_prevTo.1 hm
    have e : v' = v := by omega
    subst e
    exact ⟨h3, i, h5, by have := hv v' h3 i h5; omega⟩
  · rintro ⟨h1, t, h2, h3⟩
    have hm : (v : Int) ∈ prevTo nxt u n := mem_prevTo.2 ⟨v, h1, rfl, t, h2, by omega⟩
    exact mem_gi hm
theorem gmOk_of {g : Pa} (hg : PaOk g) : GmOk (gmOf g) g.prio.length := by
  have h1 := hg.ar.le
  have h2 := hg.len
  have h3 := hg.ar.len
  have hv : ∀ v, v < g.prio.length → (gr g.ar.nxt v).length ≤ 16 ∧ ∀ i, i < (gr g.ar.nxt v).length → 0 ≤ gi (gr g.ar.nxt v) i ∧ gi (gr g.ar.nxt v) i < g.prio.length := fun v hv => by
    obtain ⟨_, _, _, a, b⟩ := hg.ar.vert v (by omega)
    exact ⟨a, fun i hi => by have := b.bnd i hi; omega⟩
  refine ⟨by omega, h2.symm, rfl, by show g.ar.nxt.length = _; omega, tabr_len _ _, tab_len _ _, fun v hv' => ⟨by have := (hv v hv').1; show (gr g.ar.nxt v).length ≤ _; omega, (hv v hv').2⟩, fun v s t hv' hs ht e => set_uniq (hg.ar.vert v (by omega)).2.2.2.2 hs ht e, fun u v hu => ?_, fun u s t hu hs ht e => ?_, fun v hv' => by have := hg.ar.vert v (by omega); exact ⟨this.1, this.2.1⟩, fun v hv' => hg.prio v hv', fun u hu => ?_⟩
  · rw [show gr (gmOf g).prev u = prevTo g.ar.nxt u g.prio.length from gr_tabr _ hu]
    exact prevTo_iff (fun v hv' i hi => (hv v hv').2 i hi) u v
  · rw [show gr (gmOf g).prev u = prevTo g.ar.nxt u g.prio.length from gr_tabr _ hu] at hs ht e
    exact nodup_uniq (prevTo_nodup (fun v hv' => hg.ar.vert v (by omega) |>.2.2.2.2) u) hs ht e
  have e : gr (gmOf g).prev u = prevTo g.ar.nxt u g.prio.length := gr_tabr _ hu
  rw [e]
  refine ⟨?_, fun i hi => ?_⟩
  · have := prevTo_len (nxt := g.ar.nxt) (m := 16) u g.prio.length fun j hj => (hv j hj).1
    have : 16 * g.prio.length ≤ 16 * 256 := Nat.mul_le_mul_left _ (by omega)
    omega
  · obtain ⟨v, k1, k2, _⟩ := mem_prevTo.1 (gi_mem hi)
    omega
end Go.Proofs.Ythdioaeekhkgcaa
