/-
  Priority promotion: a step leads from a right stage to a right one, and the stages come to an end. Plain theory, no program.
-/
import Derived.Test.YtfmnikiinfbanaaZaP1
namespace Go.Proofs.Ytfmnikiinfbanaa
set_option linter.unusedVariables false
set_option linter.unusedSimpArgs false
open Go.RowKit
theorem total_cg {P : PG.Gm} {S S' : Nat → Prop} (h : ∀ v, S' v ↔ S v) (ht : PG.Total P S) : PG.Total P S' := by
  rw [show S' = S from funext fun v => propext (h v)]; exact ht
section
variable {g : Pa} {s : St}
theorem StOk.opn (h : StOk g s) {v : Nat} (hv : v < g.prio.length) (h0 : 0 ≤ gi s.region v) : gi s.won v = -1 ∧ gi g.prio v ≤ gi s.region v ∧ gi s.region v ≤ 40 := by
  rcases h.reg v hv with h1 | h1
  · exact h1
  · omega
theorem down_gi {v : Nat} (hv : v < g.prio.length) : gi (downS g s).region v = @ite Int (Pul g s v) (Classical.propDecidable _) s.at_ (gi s.region v) := gi_tab _ hv
theorem rise_gi {up : Int} {v : Nat} (hv : v < g.prio.length) : gi (riseS g s up).region v = @ite Int (Pul g s v) (Classical.propDecidable _) up (if 0 ≤ gi s.region v ∧ gi s.region v < up then gi g.prio v else gi s.region v) := by
  rw [riseS, gi_tab _ hv]
theorem down_max (hg : PaOk g) (h : StOk g s) (h0 : 0 ≤ s.at_) (hs : ¬ ShutP g s) : ∃ v, Blw g s s.at_ v ∧ ¬ Pul g s v ∧ (downS g s).at_ = gi s.region v ∧ gi s.region v < s.at_ := by
  obtain ⟨w, hw1, hw2⟩ := down_at h h0 hs
  rcases mxN_is (p := fun v => Blw g s s.at_ v ∧ ¬ Pul g s v) (f := gi s.region) g.prio.length with ⟨h1, h2⟩ | ⟨v, h1, ⟨h2, h3⟩, h4⟩
  · have := h2 w hw1.1 ⟨hw1, hw2⟩
    have := hw1.2.1
    omega
  · refine ⟨v, h2, h3, h4, ?_⟩
    have h5 := h2.2.2
    rcases Int.lt_or_le (gi s.region v) s.at_ with h6 | h6
    · exact h6
    · exact absurd (gol_pul h h0 h2.1 (by omega)) h3
theorem down_ok (hg : PaOk g) (h : StOk g s) (h0 : 0 ≤ s.at_) (hs : ¬ ShutP g s) : StOk g (downS g s) := by
  have ha : s.at_ ≤ 40 := by rcases h.at' with h1 | h1 <;> omega
  obtain ⟨w, w1, w2, w3, w4⟩ := down_max hg h h0 hs
  have hup := fun v (hv : v < g.prio.length) hp => mxN_up (p := fun v => Blw g s s.at_ v ∧ ¬ Pul g s v) (f := gi s.region) g.prio.length v hv hp
  refine ⟨h.lw, tab_len _ _, fun v hv => ?_, .inr ⟨by have := w1.2.1; omega, by omega, w, w1.1, by rw [down_gi w1.1, if_neg w2, w3]⟩, fun p hp hp0 => ?_⟩
  · rw [down_gi hv]
    by_cases hP : Pul g s v
    · rw [if_pos hP]
      have hb := pul_in hP
      have := h.opn hv hb.2.1
      have := hb.2.2
      exact .inl ⟨(h.opn hv hb.2.1).1, by omega, ha⟩
    · rw [if_neg hP]; exact h.reg v hv
  · rcases Int.lt_or_le p s.at_ with hlt | hle
    · refine total_cg (S := PG.Diff (Blw g s s.at_) (PG.Attr (pgA g) (s.at_.tmod 2) (Blw g s s.at_) (Gol g s))) (fun v => ?_) (PG.total_diff fin_A (h.tot s.at_ (Int.le_refl _) h0))
      constructor
      · rintro ⟨hv, h1, h2⟩
        rw [down_gi hv] at h1 h2
        by_cases hP : Pul g s v
        · rw [if_pos hP] at h2; omega
        · rw [if_neg hP] at h1 h2
          exact ⟨⟨hv, h1, by omega⟩, hP⟩
      · rintro ⟨h1, h2⟩
        have h3 : ¬ Pul g s v := h2
        refine ⟨h1.1, ?_, ?_⟩ <;> rw [down_gi h1.1, if_neg h3]
        · exact h1.2.1
        · have : gi s.region v ≤ (downS g s).at_ := hup v h1.1 ⟨h1, h3⟩
          omega
    · refine total_cg (fun v => ?_) (h.tot p hle hp0)
      constructor
      · rintro ⟨hv, h1, h2⟩
        rw [down_gi hv] at h1 h2
        by_cases hP : Pul g s v
        · have := pul_in hP; exact ⟨hv, this.2.1, by have := this.2.2; omega⟩
        · rw [if_neg hP] at h1 h2; exact ⟨hv, h1, h2⟩
      · rintro ⟨hv, h1, h2⟩
        refine ⟨hv, ?_, ?_⟩ <;> rw [down_gi hv] <;> by_cases hP : Pul g s v
        · rw [if_pos hP]; exact h0
        · rw [if_neg hP]; exact h1
        · rw [if_pos hP]; exact hle
        · rw [if_neg hP]; exact h2
theorem up_spec (h : StOk g s) (h0 : 0 ≤ s.at_) (hs : ShutP g s) (hu : 0 ≤ upV g s) : s.at_ < upV g s ∧ upV g s ≤ 40 := by
  rcases lsN_spec (Exits g s) 41 with ⟨h1, _⟩ | ⟨k, h1, h2, ⟨v, u, e1, e2, e3, e4, e5⟩, _⟩
  · unfold upV at hu; omega
  · unfold upV at hu ⊢
    rw [h2] at hu ⊢
    have hun := ((pgA_E v u).1 e3).2.1
    refine ⟨?_, by omega⟩
    rcases Int.lt_or_le s.at_ (k : Int) with h' | h'
    · exact h'
    · exact absurd ((hs v e1).2 e2 u e3 ⟨hun, by omega, by omega⟩) e4
theorem rise_ok (hg : PaOk g) (h : StOk g s) (h0 : 0 ≤ s.at_) (hs : ShutP g s) (hu : 0 ≤ upV g s) : StOk g (riseS g s (upV g s)) := by
  obtain ⟨u1, u2⟩ := up_spec h h0 hs hu
  obtain ⟨w, hw⟩ := pul_ex h h0
  generalize upV g s = up at *
  refine ⟨h.lw, tab_len _ _, fun v hv => ?_, .inr ⟨by show 0 ≤ up; exact hu, u2, w, (pul_in hw).1, by rw [rise_gi (pul_in hw).1, if_pos hw]; rfl⟩, fun p hp hp0 => ?_⟩
  · rw [rise_gi hv]
    by_cases hP : Pul g s v
    · rw [if_pos hP]
      have hb := pul_in hP
      have h3 := h.opn hv hb.2.1
      have h4 := hb.2.2
      exact .inl ⟨h3.1, by omega, u2⟩
    · rw [if_neg hP]
      by_cases h' : 0 ≤ gi s.region v ∧ gi s.region v < up
      · rw [if_pos h']
        have h3 := h.opn hv h'.1
        exact .inl ⟨h3.1, Int.le_refl _, by omega⟩
      · rw [if_neg h']; exact h.reg v hv
  · have hp' : up ≤ p := hp
    refine total_cg (fun v => ?_) (h.tot p (by omega) hp0)
    constructor
    · rintro ⟨hv, h1, h2⟩
      rw [rise_gi hv] at h1 h2
      by_cases hP : Pul g s v
      · have := pul_in hP; exact ⟨hv, this.2.1, by have := this.2.2; omega⟩
      · rw [if_neg hP] at h1 h2
        by_cases h' : 0 ≤ gi s.region v ∧ gi s.region v < up
        · exact ⟨hv, h'.1, by omega⟩
        · rw [if_neg h'] at h1 h2; exact ⟨hv, h1, h2⟩
    · rintro ⟨hv, h1, h2⟩
      have h3 := h.opn hv h1
      have h4 := hg.prio v hv
      refine ⟨hv, ?_, ?_⟩ <;> rw [rise_gi hv] <;> by_cases hP : Pul g s v
      · rw [if_pos hP]; exact hu
      · rw [if_neg hP]; split <;> omega
      · rw [if_pos hP]; exact hp'
      · rw [if_neg hP]; split <;> omega
theorem win_reg {v : Nat} (hv : v < g.prio.length) : gi (winS g s).region v = @ite Int (Blw g s 40 v ∧ ¬ AllW g s v) (Classical.propDecidable _) (gi g.prio v) (-1) := by
  rw [winS, gi_tab _ hv]
  by_cases h : Blw g s 40 v ∧ ¬ AllW g s v
  · simp only [h, not_false_eq_true, and_self, if_true]
  · simp only [h, if_false]
theorem win_won {v : Nat} (hv : v < g.prio.length) : gi (winS g s).won v = @ite Int (AllW g s v) (Classical.propDecidable _) (s.at_.tmod 2) (gi s.won v) := gi_tab _ hv
theorem win_ok (hg : PaOk g) (h : StOk g s) (h0 : 0 ≤ s.at_) : StOk g (winS g s) := by
  have ha : s.at_ ≤ 40 := by rcases h.at' with h1 | h1 <;> omega
  have hup := fun v (hv : v < g.prio.length) hp => mxN_up (p := fun v => Blw g s 40 v ∧ ¬ AllW g s v) (f := gi g.prio) g.prio.length v hv hp
  refine ⟨tab_len _ _, tab_len _ _, fun v hv => ?_, ?_, fun p hp hp0 => ?_⟩
  · rw [win_reg hv, win_won hv]
    by_cases hA : AllW g s v
    · rw [if_pos hA, if_neg fun h' => h'.2 hA]
      refine .inr ⟨?_, rfl⟩
      rw [Int.tmod_eq_emod_of_nonneg h0]; omega
    · rw [if_neg hA]
      by_cases hB : Blw g s 40 v
      · rw [if_pos ⟨hB, hA⟩]
        exact .inl ⟨(h.opn hv hB.2.1).1, Int.le_refl _, (hg.prio v hv).2⟩
      · rw [if_neg fun h' => hB h'.1]
        rcases h.reg v hv with h1 | h1
        · exact absurd ⟨hv, by have := hg.prio v hv; omega, h1.2.2⟩ hB
        · exact .inr ⟨h1.1, rfl⟩
  · rcases mxN_is (p := fun v => Blw g s 40 v ∧ ¬ AllW g s v) (f := gi g.prio) g.prio.length with ⟨h1, h2⟩ | ⟨v, h1, h2, h3⟩
    · refine .inl ⟨h1, fun v hv => ?_⟩
      rw [win_reg hv, if_neg]
      intro h'
      have := h2 v hv h'
      have := hg.prio v hv
      omega
    · have := hg.prio v h1
      exact .inr ⟨by show 0 ≤ mxN _ _ _; omega, by show mxN _ _ _ ≤ 40; omega, v, h1, by rw [win_reg h1, if_pos h2]; exact h3.symm⟩
  · refine total_cg (S := PG.Diff (Blw g s 40) (PG.Attr (pgA g) (s.at_.tmod 2) (Blw g s 40) (Pul g s))) (fun v => ?_) (PG.total_diff fin_A (h.tot 40 ha (by decide)))
    constructor
    · rintro ⟨hv, h1, h2⟩
      rw [win_reg hv] at h1
      by_cases hB : Blw g s 40 v ∧ ¬ AllW g s v
      · exact hB
      · rw [if_neg hB] at h1; exact absurd h1 (by decide)
    · intro hB
      have hB' : Blw g s 40 v ∧ ¬ AllW g s v := hB
      have hv := hB'.1.1
      refine ⟨hv, ?_, ?_⟩ <;> rw [win_reg hv, if_pos hB']
      · exact (hg.prio v hv).1
      · have : gi g.prio v ≤ (winS g s).at_ := hup v hv hB'
        omega
theorem step_ok (hg : PaOk g) (h : StOk g s) (h0 : 0 ≤ s.at_) : StOk g (stepS g s).1 := by
  unfold stepS
  by_cases h1 : ShutP g s
  · rw [if_neg (fun h' => h' h1)]
    by_cases h2 : 0 ≤ upV g s
    · rw [if_pos h2]; exact rise_ok hg h h0 h1 h2
    · rw [if_neg h2]; exact win_ok hg h h0
  · rw [if_pos h1]; exact down_ok hg h h0 h1
end
end Go.Proofs.Ytfmnikiinfbanaa
