/-
  Who wins: every total part is parted; the recursive solver's two ends.
-/
import Derived.Test.YthdioaeekhkgcaaAtt
namespace Go.Proofs.Ythdioaeekhkgcaa
set_option linter.unusedVariables false
set_option linter.unusedSimpArgs false
open Go.RowKit

theorem num_lt {p q : Nat → Prop} : ∀ {k : Nat}, (∀ t, t < k → q t → p t) → (∃ t, t < k ∧ p t ∧ ¬ q t) → num q k < num p k := by
  intro k
  induction k with
  | zero => rintro _ ⟨t, h, _⟩; omega
  | succ k ih =>
    rintro h ⟨t, h1, h2, h3⟩
    have hle : ∀ {k : Nat}, (∀ t, t < k → q t → p t) → num q k ≤ num p k := by
      intro k
      induction k with
      | zero => intro _; exact Nat.le_refl _
      | succ k ih =>
        intro h
        have := ih fun t ht => h t (by omega)
        by_cases hq : q k
        · rw [num_yes hq, num_yes (h k (by omega) hq)]; omega
        · rw [num_no hq]
          by_cases hp : p k
          · rw [num_yes hp]; omega
          · rw [num_no hp]; exact this
    rcases Nat.lt_or_ge t k with h' | h'
    · have := ih (fun t ht => h t (by omega)) ⟨t, h', h2, h3⟩
      by_cases hq : q k
      · rw [num_yes hq, num_yes (h k (by omega) hq)]; omega
      · rw [num_no hq]
        by_cases hp : p k
        · rw [num_yes hp]; omega
        · rw [num_no hp]; exact this
    · have e : t = k := by omega
      subst e
      have := hle (k := t) fun s hs => h s (by omega)
      rw [num_no h3, num_yes h2]; omega
namespace PG
variable {G : PG.Gm} {n : Nat}
theorem max_ex (S : Nat → Prop) : ∀ n, (∃ v, v < n ∧ S v) → ∃ v, v < n ∧ S v ∧ ∀ u, u < n → S u → G.prio u ≤ G.prio v := by
  intro n
  induction n with
  | zero => rintro ⟨v, h, _⟩; omega
  | succ n ih =>
    rintro ⟨v, hv, hs⟩
    by_cases hx : ∃ v, v < n ∧ S v
    · obtain ⟨u, h1, h2, h3⟩ := ih hx
      by_cases hn : S n ∧ G.prio u < G.prio n
      · refine ⟨n, by omega, hn.1, fun w hw hsw => ?_⟩
        rcases Nat.lt_or_ge w n with h | h
        · have := h3 w h hsw; omega
        · have : w = n := by omega
          subst this; exact Int.le_refl _
      · refine ⟨u, by omega, h2, fun w hw hsw => ?_⟩
        rcases Nat.lt_or_ge w n with h | h
        · exact h3 w h hsw
        · have : w = n := by omega
          subst this
          rcases Int.lt_or_le (G.prio u) (G.prio w) with h' | h'
          · exact absurd ⟨hsw, h'⟩ hn
          · exact h'
    · have : v = n := by
        rcases Nat.lt_or_ge v n with h | h
        · exact absurd ⟨v, h, hs⟩ hx
        · omega
      subst this
      refine ⟨v, by omega, hs, fun w hw hsw => ?_⟩
      rcases Nat.lt_or_ge w v with h | h
      · exact absurd ⟨w, h, hsw⟩ hx
      · have : w = v := by omega
        subst this; exact Int.le_refl _
theorem Split.for_ {S A B : Nat → Prop} (h : Split G S A B) {i : Int} (hi : i = 0 ∨ i = 1) : ∃ A' B', SplitFor G i S A' B' := by
  rcases hi with rfl | rfl
  · exact ⟨A, B, h.zero, h.one, h.all⟩
  · exact ⟨B, A, h.one, h.zero, fun v hv => (h.all v hv).symm⟩
theorem SplitFor.ex {S A B : Nat → Prop} {i : Int} (hi : i = 0 ∨ i = 1) (h : SplitFor G i S A B) : ∃ A' B', Split G S A' B' := by
  rcases hi with rfl | rfl
  · exact ⟨_, _, h.split⟩
  · exact ⟨_, _, h.split1⟩
/-- Every total part is parted. -/
theorem split_ex (hf : Fin G n) : ∀ (N : Nat) (S : Nat → Prop), (∀ v, S v → v < n) → num S n ≤ N → Total G S → ∃ A B, Split G S A B := by
  intro N
  induction N with
  | zero =>
    intro S hS hN ht
    have hno : ∀ v, ¬ S v := fun v hv => num_zero.1 (Nat.le_zero.1 hN) v (hS v hv) hv
    exact ⟨_, _, dom_empty 0 S, dom_empty 1 S, fun v hv => absurd hv (hno v)⟩
  | succ N ih =>
    intro S hS hN ht
    by_cases hx : ∃ v, v < n ∧ S v
    · obtain ⟨v0, h1, h2, h3⟩ := max_ex (G := G) S n hx
      have hi : G.prio v0 % 2 = 0 ∨ G.prio v0 % 2 = 1 := by omega
      have hsm : ∀ (D : Nat → Prop), (∃ v, S v ∧ D v) → num (Diff S D) n ≤ N := fun D ⟨v, a, b⟩ => by
        have := num_lt (p := S) (q := Diff S D) (k := n) (fun t _ h => h.1) ⟨v, hS v a, a, fun h => h.2 b⟩
        omega
      obtain ⟨A, B, hAB⟩ := ih (Diff S (Attr G (G.prio v0 % 2) S fun v => G.prio v = G.prio v0)) (fun v h => hS v h.1) (hsm _ ⟨v0, h2, attr_goal h2 rfl⟩) (total_diff hf ht)
      obtain ⟨A', B', hF⟩ := hAB.for_ hi
      by_cases hB : ∃ v, B' v
      · obtain ⟨b, hb⟩ := hB
        obtain ⟨σ, eB⟩ := id hF.2.1
        have hbS : S b := (eB.sub b hb).1
        obtain ⟨A2, B2, h2'⟩ := ih (Diff S (Attr G (1 - G.prio v0 % 2) S B')) (fun v h => hS v h.1) (hsm _ ⟨b, hbS, attr_goal hbS hb⟩) (total_diff hf ht)
        obtain ⟨A3, B3, hF2⟩ := h2'.for_ hi
        exact (step_again hi (step_lost hi hF) hF2).ex hi
      · have hD := step_end rfl ht (fun v _ h => h) (fun v hv => h3 v (hS v hv) hv) hF (fun v h => hB ⟨v, h⟩)
        exact SplitFor.ex hi ⟨hD, dom_empty _ _, fun v hv => .inl hv⟩
    · have hno : ∀ v, ¬ S v := fun v hv => hx ⟨v, hS v hv, hv⟩
      exact ⟨_, _, dom_empty 0 S, dom_empty 1 S, fun v hv => absurd hv (hno v)⟩
theorem won_split (hf : Fin G n) {S : Nat → Prop} (hS : ∀ v, S v → v < n) (ht : Total G S) : Split G S (Won G 0 S) (Won G 1 S) := by
  obtain ⟨A, B, h⟩ := split_ex hf _ S hS (Nat.le_refl _) ht
  exact ⟨dom_set (fun _ => Iff.rfl) (fun v => (h.won0 v).symm) h.zero, dom_set (fun _ => Iff.rfl) (fun v => (h.won1 v).symm) h.one, fun v hv => (h.all v hv).imp (h.won0 v).2 (h.won1 v).2⟩
theorem won_in {i : Int} {S : Nat → Prop} {v : Nat} (h : Won G i S v) : S v := by
  obtain ⟨R, ⟨σ, d⟩, hr⟩ := h
  exact d.sub v hr
theorem won_not (hf : Fin G n) {S : Nat → Prop} (hS : ∀ v, S v → v < n) (ht : Total G S) {v : Nat} (hv : S v) : Won G 1 S v ↔ ¬ Won G 0 S v := by
  have h := won_split hf hS ht
  refine ⟨fun h1 h0 => h.not v h0 h1, fun h0 => (h.all v hv).resolve_left h0⟩
theorem won_for (hf : Fin G n) {S : Nat → Prop} (hS : ∀ v, S v → v < n) (ht : Total G S) {i : Int} (hi : i = 0 ∨ i = 1) : SplitFor G i S (Won G i S) (Won G (1 - i) S) := by
  have h := won_split hf hS ht
  rcases hi with rfl | rfl
  · exact ⟨h.zero, h.one, h.all⟩
  · exact ⟨h.one, h.zero, fun v hv => (h.all v hv).symm⟩
/-- Nothing is lost: the owner of the top wins it all. -/
theorem win_all (hf : Fin G n) {S T : Nat → Prop} (hS : ∀ v, S v → v < n) (ht : Total G S) {d i : Int} (hd : d % 2 = i) (hT : ∀ v, S v → T v → G.prio v = d) (hm : ∀ v, S v → G.prio v ≤ d)
    (hB : ∀ v, ¬ Won G (1 - i) (Diff S (Attr G i S T)) v) : ∀ v, Won G i S v ↔ S v := by
  have hi : i = 0 ∨ i = 1 := by omega
  have hF := won_for hf (S := Diff S (Attr G i S T)) (fun v h => hS v h.1) (total_diff hf ht) hi
  have hD := step_end hd ht hT hm hF hB
  exact fun v => ⟨won_in, fun h => ⟨S, hD, h⟩⟩
/-- Something is lost: it and what it attracts is the other's; the rest is played again. -/
theorem win_some (hf : Fin G n) {S T : Nat → Prop} (hS : ∀ v, S v → v < n) (ht : Total G S) {i : Int} (hi : i = 0 ∨ i = 1) {L : Nat → Prop} (hL : ∀ v, L v ↔ Won G (1 - i) (Diff S (Attr G i S T)) v) :
    ∀ v, (Won G i S v ↔ Won G i (Diff S (Attr G (1 - i) S L)) v) ∧ (Won G (1 - i) S v ↔ Won G (1 - i) (Diff S (Attr G (1 - i) S L)) v ∨ Attr G (1 - i) S L v) := by
  have eL : L = Won G (1 - i) (Diff S (Attr G i S T)) := funext fun v => propext (hL v)
  subst eL
  have hF := won_for hf (S := Diff S (Attr G i S T)) (fun v h => hS v h.1) (total_diff hf ht) hi
  have hF2 := won_for hf (S := Diff S (Attr G (1 - i) S (Won G (1 - i) (Diff S (Attr G i S T))))) (fun v h => hS v h.1) (total_diff hf ht) hi
  have h := step_again hi (step_lost hi hF) hF2
  intro v
  rcases hi with rfl | rfl
  · exact ⟨h.split.won0 v, h.split.won1 v⟩
  · exact ⟨h.split1.won1 v, h.split1.won0 v⟩
end PG
end Go.Proofs.Ythdioaeekhkgcaa
