/-
  Priority promotion: stages and steps. Plain theory, no program.
-/
import Derived.Test.YtfmnikiinfbanaaZaAt4
import Derived.Test.YtfmnikiinfbanaaZaM1
import Derived.Test.YtfmnikiinfbanaaZaStage
namespace Go.Proofs.Ytfmnikiinfbanaa
set_option linter.unusedVariables false
set_option linter.unusedSimpArgs false
open Go.RowKit
noncomputable def mxN (p : Nat → Prop) (f : Nat → Int) : Nat → Int
  | 0 => -1
  | k + 1 => @ite _ (p k) (Classical.propDecidable _) (max (mxN p f k) (f k)) (mxN p f k)
theorem mxN_yes {p : Nat → Prop} {f : Nat → Int} {k : Nat} (h : p k) : mxN p f (k + 1) = max (mxN p f k) (f k) := if_pos h
theorem mxN_no {p : Nat → Prop} {f : Nat → Int} {k : Nat} (h : ¬ p k) : mxN p f (k + 1) = mxN p f k := if_neg h
theorem mxN_ge {p : Nat → Prop} {f : Nat → Int} : ∀ n, -1 ≤ mxN p f n
  | 0 => Int.le_refl _
  | n + 1 => by
    have := mxN_ge (p := p) (f := f) n
    by_cases h : p n
    · rw [mxN_yes h]; omega
    · rw [mxN_no h]; exact this
theorem mxN_up {p : Nat → Prop} {f : Nat → Int} : ∀ n v, v < n → p v → f v ≤ mxN p f n
  | 0, v, h, _ => absurd h (Nat.not_lt_zero _)
  | n + 1, v, h, hp => by
    rcases Nat.lt_or_ge v n with h' | h'
    · have := mxN_up (p := p) (f := f) n v h' hp
      by_cases h : p n
      · rw [mxN_yes h]; omega
      · rw [mxN_no h]; exact this
    · obtain rfl : v = n := by omega
      rw [mxN_yes hp]; omega
theorem mxN_is {p : Nat → Prop} {f : Nat → Int} : ∀ n, (mxN p f n = -1 ∧ ∀ v, v < n → p v → f v ≤ -1) ∨ ∃ v, v < n ∧ p v ∧ mxN p f n = f v
  | 0 => .inl ⟨rfl, fun v h => absurd h (Nat.not_lt_zero _)⟩
  | n + 1 => by
    rcases mxN_is (p := p) (f := f) n with ⟨h1, h2⟩ | ⟨v, h1, h2, h3⟩
    · by_cases h : p n
      · rw [mxN_yes h, h1]
        by_cases hf : f n ≤ -1
        · refine .inl ⟨by omega, fun v hv hp => ?_⟩
          rcases Nat.lt_or_ge v n with h' | h'
          · exact h2 v h' hp
          · rw [show v = n by omega]; exact hf
        · exact .inr ⟨n, by omega, h, by omega⟩
      · rw [mxN_no h]
        refine .inl ⟨h1, fun v hv hp => ?_⟩
        rcases Nat.lt_or_ge v n with h' | h'
        · exact h2 v h' hp
        · rw [show v = n by omega] at hp; exact absurd hp h
    · by_cases h : p n
      · rw [mxN_yes h]
        rcases Int.lt_or_le (mxN p f n) (f n) with h' | h'
        · exact .inr ⟨n, by omega, h, by omega⟩
        · exact .inr ⟨v, by omega, h2, by omega⟩
      · rw [mxN_no h]; exact .inr ⟨v, by omega, h2, h3⟩
noncomputable def lsN (p : Nat → Prop) : Nat → Int
  | 0 => -1
  | n + 1 => @ite _ (0 ≤ lsN p n) (Classical.propDecidable _) (lsN p n) (@ite _ (p n) (Classical.propDecidable _) (n : Int) (-1))
theorem lsN_spec (p : Nat → Prop) : ∀ n, (lsN p n = -1 ∧ ∀ j, j < n → ¬ p j) ∨ ∃ k, k < n ∧ lsN p n = k ∧ p k ∧ ∀ j, j < k → ¬ p j
  | 0 => .inl ⟨rfl, fun j h => absurd h (Nat.not_lt_zero _)⟩
  | n + 1 => by
    unfold lsN
    rcases lsN_spec p n with ⟨h1, h2⟩ | ⟨k, h1, h2, h3, h4⟩
    · rw [h1, if_neg (by decide)]
      by_cases h : p n
      · rw [if_pos h]; exact .inr ⟨n, by omega, rfl, h, h2⟩
      · rw [if_neg h]
        refine .inl ⟨rfl, fun j hj => ?_⟩
        rcases Nat.lt_or_ge j n with h' | h'
        · exact h2 j h'
        · rw [show j = n by omega]; exact h
    · rw [h2, if_pos (by omega)]
      exact .inr ⟨k, by omega, rfl, h3, h4⟩
section
variable (g : Pa) (s : St)
def Blw (p : Int) (v : Nat) : Prop := v < g.prio.length ∧ 0 ≤ gi s.region v ∧ gi s.region v ≤ p
def Gol (v : Nat) : Prop := v < g.prio.length ∧ gi s.region v = s.at_
def Pul (v : Nat) : Prop := PG.Attr (pgA g) (s.at_.tmod 2) (Blw g s s.at_) (Gol g s) v
def ShutP : Prop := ∀ v, Pul g s v → ((pgA g).own v = s.at_.tmod 2 → ∃ u, (pgA g).E v u ∧ Pul g s u) ∧ ((pgA g).own v ≠ s.at_.tmod 2 → ∀ u, (pgA g).E v u → Blw g s s.at_ u → Pul g s u)
def Exits (p : Nat) : Prop := ∃ v u, Pul g s v ∧ (pgA g).own v ≠ s.at_.tmod 2 ∧ (pgA g).E v u ∧ ¬ Pul g s u ∧ gi s.region u = (p : Int)
noncomputable def upV : Int := lsN (Exits g s) 41
open Classical in
noncomputable def downS : St := ⟨s.won, tab g.prio.length fun v => if Pul g s v then s.at_ else gi s.region v, mxN (fun v => Blw g s s.at_ v ∧ ¬ Pul g s v) (gi s.region) g.prio.length⟩
open Classical in
noncomputable def riseS (up : Int) : St := ⟨s.won, tab g.prio.length fun v => if Pul g s v then up else if 0 ≤ gi s.region v ∧ gi s.region v < up then gi g.prio v else gi s.region v, up⟩
def AllW (v : Nat) : Prop := PG.Attr (pgA g) (s.at_.tmod 2) (Blw g s 40) (Pul g s) v
open Classical in
noncomputable def winS : St := ⟨tab g.prio.length fun v => if AllW g s v then s.at_.tmod 2 else gi s.won v, tab g.prio.length fun v => if Blw g s 40 v ∧ ¬ AllW g s v then gi g.prio v else -1, mxN (fun v => Blw g s 40 v ∧ ¬ AllW g s v) (gi g.prio) g.prio.length⟩
open Classical in
noncomputable def stepS : St × Int := if ¬ ShutP g s then (downS g s, 1) else if 0 ≤ upV g s then (riseS g s (upV g s), 2) else (winS g s, 3)
structure StOk : Prop where
  lw : s.won.length = g.prio.length
  lr : s.region.length = g.prio.length
  reg : ∀ v, v < g.prio.length → (gi s.won v = -1 ∧ gi g.prio v ≤ gi s.region v ∧ gi s.region v ≤ 40) ∨ ((gi s.won v = 0 ∨ gi s.won v = 1) ∧ gi s.region v = -1)
  at' : (s.at_ = -1 ∧ ∀ v, v < g.prio.length → gi s.region v = -1) ∨ (0 ≤ s.at_ ∧ s.at_ ≤ 40 ∧ ∃ v, v < g.prio.length ∧ gi s.region v = s.at_)
  tot : ∀ p, s.at_ ≤ p → 0 ≤ p → PG.Total (pgA g) (Blw g s p)
end
theorem fin_A {g : Pa} : PG.Fin (pgA g) g.prio.length := fun v u h => ((pgA_E v u).1 h).2.1
section
variable {g : Pa} {s : St}
theorem pul_in {v : Nat} (h : Pul g s v) : Blw g s s.at_ v := PG.attr_in h
theorem gol_pul (h : StOk g s) (h0 : 0 ≤ s.at_) {v : Nat} (hv : v < g.prio.length) (hr : gi s.region v = s.at_) : Pul g s v := PG.attr_goal ⟨hv, by omega, by omega⟩ ⟨hv, hr⟩
theorem pul_ex (h : StOk g s) (h0 : 0 ≤ s.at_) : ∃ v, Pul g s v := by
  rcases h.at' with ⟨h1, _⟩ | ⟨_, _, v, hv, hr⟩
  · omega
  · exact ⟨v, gol_pul h h0 hv hr⟩
theorem down_at (h : StOk g s) (h0 : 0 ≤ s.at_) (hs : ¬ ShutP g s) : ∃ v, Blw g s s.at_ v ∧ ¬ Pul g s v := by
  refine Classical.byContradiction fun hno => hs fun v hv => ⟨fun _ => ?_, fun _ u _ hu => ?_⟩
  · obtain ⟨u, h1, h2⟩ := h.tot s.at_ (Int.le_refl _) h0 v (pul_in hv)
    exact ⟨u, h1, Classical.byContradiction fun h3 => hno ⟨u, h2, h3⟩⟩
  · exact Classical.byContradiction fun h3 => hno ⟨u, hu, h3⟩
end
end Go.Proofs.Ytfmnikiinfbanaa
