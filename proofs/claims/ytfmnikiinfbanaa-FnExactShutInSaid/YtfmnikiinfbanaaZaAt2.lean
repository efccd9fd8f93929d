/-
  Attraction by ranks: the program's ranks, and what they mean.
-/
import Derived.Test.YtfmnikiinfbanaaZaAt1
namespace Go.Proofs.Ytfmnikiinfbanaa
set_option linter.unusedVariables false
set_option linter.unusedSimpArgs false
open Go.RowKit
theorem mem_filtA {p : Int → Prop} {xs : List Int} {x : Int} : ∀ k, k ≤ xs.length → (x ∈ filt p xs k ↔ ∃ j, j < k ∧ gi xs j = x ∧ p x)
  | 0, _ => ⟨fun h => (by cases h), fun ⟨j, h, _⟩ => absurd h (Nat.not_lt_zero _)⟩
  | k + 1, hk => by
    have ih := mem_filtA (p := p) (xs := xs) (x := x) k (by omega)
    by_cases h : p (gi xs k)
    · rw [filt_yes h, List.mem_append, ih, List.mem_singleton]
      constructor
      · rintro (⟨j, h1, h2⟩ | rfl)
        · exact ⟨j, by omega, h2⟩
        · exact ⟨k, by omega, rfl, h⟩
      · rintro ⟨j, h1, h2, h3⟩
        rcases Nat.lt_or_ge j k with h' | h'
        · exact .inl ⟨j, h', h2, h3⟩
        · rw [show j = k by omega] at h2; exact .inr h2.symm
    · rw [filt_no h, ih]
      constructor
      · rintro ⟨j, h1, h2⟩; exact ⟨j, by omega, h2⟩
      · rintro ⟨j, h1, h2, h3⟩
        rcases Nat.lt_or_ge j k with h' | h'
        · exact ⟨j, h', h2, h3⟩
        · rw [show j = k by omega] at h2; exact absurd (h2 ▸ h3) h
def pgA (g : Pa) : PG.Gm := pgOf (gmOf g) g.prio.length
theorem pgA_E {g : Pa} (v u : Nat) : (pgA g).E v u ↔ v < g.prio.length ∧ u < g.prio.length ∧ ∃ t, t < (gr g.ar.nxt v).length ∧ gi (gr g.ar.nxt v) t = (u : Int) := by
  show v < _ ∧ u < _ ∧ edg (gmOf g) v u = true ∧ _ ↔ _
  constructor
  · rintro ⟨a, b, _, c⟩; exact ⟨a, b, c⟩
  · rintro ⟨a, b, c⟩
    refine ⟨a, b, ?_, c⟩
    have : gi (gmOf g).pick v = -1 := gi_tab _ (by omega)
    simp [edg, this]
theorem pgA_own {g : Pa} (hg : PaOk g) {v : Nat} (hv : v < g.prio.length) : (pgA g).own v = gi g.ar.own v := own_of (gmOk_of hg) hv
noncomputable def rkV (P : PG.Gm) (who : Int) (S T : Nat → Prop) : Nat → Nat → Int
  | 0, v => @ite _ (S v ∧ T v) (Classical.propDecidable _) 0 (-1)
  | k + 1, v => @ite _ (0 ≤ rkV P who S T k v) (Classical.propDecidable _) (rkV P who S T k v) (@ite _ (PG.AttrN P who S T (k + 1) v) (Classical.propDecidable _) ((k : Int) + 1) (-1))
section
variable {P : PG.Gm} {who : Int} {S T : Nat → Prop}
theorem rkV_iff : ∀ k v, 0 ≤ rkV P who S T k v ↔ PG.AttrN P who S T k v
  | 0, v => by
    unfold rkV
    by_cases h : S v ∧ T v
    · rw [if_pos h]; exact ⟨fun _ => h, fun _ => Int.le_refl _⟩
    · rw [if_neg h]; exact ⟨fun h' => absurd h' (by decide), fun h' => absurd h' h⟩
  | k + 1, v => by
    have ih := rkV_iff k v
    unfold rkV
    by_cases h : 0 ≤ rkV P who S T k v
    · rw [if_pos h]; exact ⟨fun _ => PG.attrN_succ (ih.1 h), fun _ => h⟩
    · rw [if_neg h]
      by_cases h' : PG.AttrN P who S T (k + 1) v
      · rw [if_pos h']; exact ⟨fun _ => h', fun _ => by omega⟩
      · rw [if_neg h']; exact ⟨fun h' => absurd h' (by decide), fun h2 => absurd h2 h'⟩
theorem rkV_ge (k v : Nat) : -1 ≤ rkV P who S T k v := by
  induction k with
  | zero => unfold rkV; split <;> decide
  | succ k ih =>
    unfold rkV
    split
    · exact ih
    · split <;> omega
theorem rkV_old {k v : Nat} (h : 0 ≤ rkV P who S T k v) : rkV P who S T (k + 1) v = rkV P who S T k v := if_pos h
theorem rkV_new {k v : Nat} (h : ¬ 0 ≤ rkV P who S T k v) (h' : PG.AttrN P who S T (k + 1) v) : rkV P who S T (k + 1) v = (k : Int) + 1 := (if_neg h).trans (if_pos h')
theorem rkV_none {k v : Nat} (h : ¬ 0 ≤ rkV P who S T k v) (h' : ¬ PG.AttrN P who S T (k + 1) v) : rkV P who S T (k + 1) v = rkV P who S T k v := by
  have := rkV_ge (P := P) (who := who) (S := S) (T := T) k v
  rw [(if_neg h).trans (if_neg h') |> fun e => (e : rkV P who S T (k + 1) v = -1)]
  omega
theorem attrN_stop {k : Nat} (h : ∀ v, PG.AttrN P who S T (k + 1) v → PG.AttrN P who S T k v) : ∀ m, k ≤ m → ∀ v, PG.AttrN P who S T m v → PG.AttrN P who S T k v := by
  intro m hm
  induction m with
  | zero => intro v hv; rw [show k = 0 by omega]; exact hv
  | succ m ih =>
    intro v hv
    rcases Nat.lt_or_ge k (m + 1) with hk | hk
    · have ih := ih (by omega)
      rcases hv with hv | ⟨h1, h2, u, h3, h4⟩ | ⟨h1, h2, h3, h4⟩
      · exact ih v hv
      · exact h v (.inr (.inl ⟨h1, h2, u, h3, ih u h4⟩))
      · exact h v (.inr (.inr ⟨h1, h2, h3, fun u a b => ih u (h4 u a b)⟩))
    · rw [show k = m + 1 by omega]; exact hv
theorem rkV_stop {k : Nat} (h : ∀ v, PG.AttrN P who S T (k + 1) v → PG.AttrN P who S T k v) : ∀ m, k ≤ m → ∀ v, rkV P who S T m v = rkV P who S T k v := by
  intro m hm
  induction m with
  | zero => intro v; rw [show k = 0 by omega]
  | succ m ih =>
    intro v
    rcases Nat.lt_or_ge k (m + 1) with hk | hk
    · have ih := ih (by omega) v
      by_cases h0 : 0 ≤ rkV P who S T m v
      · rw [rkV_old h0, ih]
      · rw [rkV_none h0 (fun h' => h0 ((rkV_iff m v).2 (PG.attrN_mono (by omega) (attrN_stop h (m + 1) (by omega) v h')))), ih]
    · rw [show k = m + 1 by omega]
end
theorem pul_iff {g : Pa} (hg : PaOk g) {xs : List Int} {who : Int} {T : Nat → Prop} {k v : Nat} (hv : v < g.prio.length) (hS : (v : Int) ∈ xs) (hx : Bnd xs g.prio.length) (hr : ¬ 0 ≤ rkV (pgA g) who (fun v => (v : Int) ∈ xs) T k v) :
    PulP g.ar who (mks g.prio.length fun v => (v : Int) ∈ xs) (tab g.prio.length (rkV (pgA g) who (fun v => (v : Int) ∈ xs) T k)) v ↔ PG.AttrN (pgA g) who (fun v => (v : Int) ∈ xs) T (k + 1) v := by
  have hl := hg.len
  have ho := pgA_own hg hv
  have hnx : ∀ i, i < (gr g.ar.nxt v).length → ∃ u : Nat, gi (gr g.ar.nxt v) i = u ∧ u < g.prio.length := fun i hi => by
    have := nxtA hg.ar (by omega : v < g.ar.own.length) hi
    exact ⟨(gi (gr g.ar.nxt v) i).toNat, by omega, by omega⟩
  have hin : ∀ u, u < g.prio.length → (gb (mks g.prio.length fun v => (v : Int) ∈ xs) u = true ↔ (u : Int) ∈ xs) := fun u hu => by rw [gb_mks _ hu]; exact tf_eq
  have hrk : ∀ u, u < g.prio.length → (0 ≤ gi (tab g.prio.length (rkV (pgA g) who (fun v => (v : Int) ∈ xs) T k)) u ↔ PG.AttrN (pgA g) who (fun v => (v : Int) ∈ xs) T k u) := fun u hu => by rw [gi_tab _ hu]; exact rkV_iff k u
  constructor
  · rintro (⟨h1, i, h2, h3, h4⟩ | ⟨h1, ⟨i, h2, h3⟩, h4⟩)
    · obtain ⟨u, e, hu⟩ := hnx i h2
      rw [e, Int.toNat_natCast] at h3 h4
      exact .inr (.inl ⟨hS, by rw [ho]; exact h1, u, (pgA_E v u).2 ⟨hv, hu, i, h2, e⟩, (hrk u hu).1 h4⟩)
    · obtain ⟨u, e, hu⟩ := hnx i h2
      rw [e, Int.toNat_natCast] at h3
      refine .inr (.inr ⟨hS, by rw [ho]; exact h1, ⟨u, (pgA_E v u).2 ⟨hv, hu, i, h2, e⟩, (hin u hu).1 h3⟩, fun u' hE hu' => ?_⟩)
      obtain ⟨_, hu2, t, h5, h6⟩ := (pgA_E v u').1 hE
      have := h4 t h5
      rw [h6, Int.toNat_natCast] at this
      exact (hrk u' hu2).1 (this ((hin u' hu2).2 hu'))
  · rintro (h | ⟨_, h1, u, h2, h3⟩ | ⟨_, h1, ⟨u, h2, h3⟩, h4⟩)
    · exact absurd ((rkV_iff k v).2 h) hr
    · obtain ⟨_, hu, t, h5, h6⟩ := (pgA_E v u).1 h2
      refine .inl ⟨by rw [← ho]; exact h1, t, h5, ?_⟩
      rw [h6, Int.toNat_natCast]
      exact ⟨(hin u hu).2 (PG.attrN_in h3), (hrk u hu).2 h3⟩
    · obtain ⟨_, hu, t, h5, h6⟩ := (pgA_E v u).1 h2
      refine .inr ⟨by rw [← ho]; exact h1, ⟨t, h5, by rw [h6, Int.toNat_natCast]; exact (hin u hu).2 h3⟩, fun i hi hb => ?_⟩
      obtain ⟨u', e, hu'⟩ := hnx i hi
      rw [e, Int.toNat_natCast] at hb ⊢
      exact (hrk u' hu').2 (h4 u' ((pgA_E v u').2 ⟨hv, hu', i, hi, e⟩) ((hin u' hu').1 hb))
end Go.Proofs.Ytfmnikiinfbanaa
