/-
  Measures: their order, what a vertex asks for, tables that are steady. Plain theory, no program.
-/
import Derived.Test.YtfkiloibifigfaaZLsCa
namespace Go.Proofs.Ytfkiloibifigfaa
set_option linter.unusedVariables false
set_option linter.unusedSimpArgs false
open Go.RowKit
namespace MS
def lx : List Int → List Int → Prop
  | [], [] => False
  | [], _ :: _ => True
  | _ :: _, [] => False
  | a :: ar, b :: bs => a < b ∨ (a = b ∧ lx ar bs)
theorem lx_irrefl : ∀ a, ¬ lx a a
  | [], h => h
  | a :: ar, h => h.elim (fun h => by omega) fun h => lx_irrefl ar h.2
theorem lx_trans : ∀ {a b c}, lx a b → lx b c → lx a c
  | [], [], _, h, _ => h.elim
  | [], _ :: _, [], _, h => h.elim
  | [], _ :: _, _ :: _, _, _ => trivial
  | _ :: _, [], _, h, _ => h.elim
  | _ :: _, _ :: _, [], _, h => h.elim
  | a :: ar, b :: bs, c :: cs, h, k => by
    rcases h with h | ⟨rfl, h⟩ <;> rcases k with k | ⟨rfl, k⟩
    · exact .inl (by omega)
    · exact .inl h
    · exact .inl k
    · exact .inr ⟨rfl, lx_trans h k⟩
theorem lx_total : ∀ a b, lx a b ∨ a = b ∨ lx b a
  | [], [] => .inr (.inl rfl)
  | [], _ :: _ => .inl trivial
  | _ :: _, [] => .inr (.inr trivial)
  | a :: ar, b :: bs => by
    rcases Int.lt_trichotomy a b with h | rfl | h
    · exact .inl (.inl h)
    · rcases lx_total ar bs with h | rfl | h
      · exact .inl (.inr ⟨rfl, h⟩)
      · exact .inr (.inl rfl)
      · exact .inr (.inr (.inr ⟨rfl, h⟩))
    · exact .inr (.inr (.inl h))
theorem lx_asymm {a b : List Int} (h : lx a b) : ¬ lx b a := fun k => lx_irrefl _ (lx_trans h k)
theorem lx_ne {a b : List Int} (h : lx a b) : a ≠ b := fun e => lx_irrefl _ (e ▸ h)
def le (a b : List Int) : Prop := ¬ lx b a
theorem le_refl (a : List Int) : le a a := lx_irrefl a
theorem le_iff {a b : List Int} : le a b ↔ lx a b ∨ a = b :=
  ⟨fun h => (lx_total a b).imp_right fun k => k.elim id fun k => absurd k h, fun h => h.elim lx_asymm fun e => e ▸ lx_irrefl a⟩
theorem le_of_lx {a b : List Int} (h : lx a b) : le a b := lx_asymm h
theorem le_trans {a b c : List Int} (h : le a b) (k : le b c) : le a c := by
  rcases le_iff.1 h with h | rfl
  · rcases le_iff.1 k with k | rfl
    · exact le_of_lx (lx_trans h k)
    · exact le_of_lx h
  · exact k
theorem le_anti {a b : List Int} (h : le a b) (k : le b a) : a = b := by
  rcases le_iff.1 h with h | h
  · exact absurd h k
  · exact h
noncomputable def cmp (a b : List Int) : Int := @ite _ (lx a b) (Classical.propDecidable _) (-1) (@ite _ (a = b) (Classical.propDecidable _) 0 1)
theorem cmp_lt {a b : List Int} : cmp a b < 0 ↔ lx a b := by
  unfold cmp
  split
  · simp_all
  · split <;> simp_all
theorem cmp_gt {a b : List Int} : 0 < cmp a b ↔ lx b a := by
  unfold cmp
  split
  · rename_i h; simp; exact lx_asymm h
  · split
    · rename_i e; subst e; simp; exact lx_irrefl _
    · rename_i h1 h2; simp
      rcases lx_total a b with h | h | h
      · exact absurd h h1
      · exact absurd h h2
      · exact h
def dif (c : Nat) (a b : List Int) : Prop := ∃ i, i ≤ c ∧ (∀ j, j < i → gi a j = gi b j) ∧ gi a i < gi b i
theorem lx_dif : ∀ {a b : List Int}, a.length = b.length → (lx a b ↔ ∃ i, i < a.length ∧ (∀ j, j < i → gi a j = gi b j) ∧ gi a i < gi b i)
  | [], [], _ => ⟨fun h => h.elim, fun ⟨i, h, _⟩ => by simp at h⟩
  | a :: ar, b :: bs, hl => by
    have hl' : ar.length = bs.length := by simpa using hl
    constructor
    · rintro (h | ⟨rfl, h⟩)
      · exact ⟨0, by simp, fun j hj => absurd hj (Nat.not_lt_zero _), h⟩
      · obtain ⟨i, h1, h2, h3⟩ := (lx_dif hl').1 h
        refine ⟨i + 1, by simp; exact h1, fun j hj => ?_, h3⟩
        match j with
        | 0 => rfl
        | j + 1 => exact h2 j (by omega)
    · rintro ⟨i, h1, h2, h3⟩
      match i with
      | 0 => exact .inl h3
      | i + 1 => exact .inr ⟨h2 0 (by omega), (lx_dif hl').2 ⟨i, by simpa using h1, fun j hj => h2 (j + 1) (by omega), h3⟩⟩
section
variable {K : Nat} {mx : Nat → Int}
def Ok (K : Nat) (mx : Nat → Int) (m : List Int) : Prop := m = [1] ∨ (m.length = K + 1 ∧ gi m 0 = 0 ∧ ∀ i, i < K → 0 ≤ gi m (i + 1) ∧ gi m (i + 1) ≤ mx i)
theorem Ok.h0 {m : List Int} (h : Ok K mx m) : gi m 0 = 0 ∨ m = [1] := h.elim .inr fun h => .inl h.2.1
theorem Ok.pos {m : List Int} (h : Ok K mx m) : 0 < m.length := by
  rcases h with rfl | h
  · decide
  · omega
theorem Ok.lost {m : List Int} (h : Ok K mx m) : gi m 0 = 1 ↔ m = [1] := ⟨fun e => h.h0.elim (fun k => by omega) id, fun e => by rw [e]; rfl⟩
theorem Ok.live {m : List Int} (h : Ok K mx m) (h1 : gi m 0 ≠ 1) : m.length = K + 1 ∧ gi m 0 = 0 ∧ ∀ i, i < K → 0 ≤ gi m (i + 1) ∧ gi m (i + 1) ≤ mx i := by
  rcases h with rfl | h
  · exact absurd rfl h1
  · exact h
theorem ok_lost : Ok K mx [1] := .inl rfl
theorem gi_out {m : List Int} {i : Nat} (h : m.length ≤ i) : gi m i = 0 := by simp [gi, List.getD_eq_getElem?_getD, List.getElem?_eq_none h]
theorem ok_ext {a b : List Int} (ha : Ok K mx a) (hb : Ok K mx b) (h : ∀ i, i ≤ K → gi a i = gi b i) : a = b := by
  have h00 := h 0 (Nat.zero_le _)
  by_cases e : gi a 0 = 1
  · rw [ha.lost.1 e, hb.lost.1 (by omega)]
  · have h1 := ha.live e
    have h2 := hb.live (by omega)
    exact ext_gi (by omega) fun k hk => h k (by omega)
theorem lx_ok {a b : List Int} (ha : Ok K mx a) (hb : Ok K mx b) : lx a b ↔ dif K a b := by
  by_cases e : gi a 0 = gi b 0
  · have hl : a.length = b.length := by
      rcases ha with rfl | ha <;> rcases hb with rfl | hb
      · rfl
      · exact absurd (e.trans hb.2.1) (by decide)
      · exact absurd (ha.2.1.symm.trans e) (by decide)
      · omega
    rw [lx_dif hl]
    constructor
    · rintro ⟨i, h1, h2⟩
      refine ⟨i, ?_, h2⟩
      rcases ha with rfl | ha
      · simp at h1; omega
      · omega
    · rintro ⟨i, h1, h2, h3⟩
      refine ⟨i, ?_, h2, h3⟩
      rcases Nat.lt_or_ge i a.length with h | h
      · exact h
      · rw [gi_out h, gi_out (by omega)] at h3; omega
  · rcases ha.h0 with h0 | rfl <;> rcases hb.h0 with k0 | rfl
    · omega
    · match a, ha.pos with
      | x :: xs, _ =>
        have h0' : x = 0 := h0
        subst h0'
        exact ⟨fun _ => ⟨0, Nat.zero_le _, fun j hj => absurd hj (Nat.not_lt_zero _), (by decide : (0 : Int) < 1)⟩, fun _ => Or.inl (by decide)⟩
    · match b, hb.pos with
      | x :: xs, _ =>
        have h0' : x = 0 := k0
        subst h0'
        constructor
        · rintro (h | h)
          · exact absurd h (by decide)
          · exact absurd h.1 (by decide)
        · rintro ⟨i, h1, h2, h3⟩
          rcases i with _ | i
          · exact absurd (show (1 : Int) < 0 from h3) (by decide)
          · exact absurd (show (1 : Int) = 0 from h2 0 (by omega)) (by decide)
    · exact absurd rfl e
theorem dif_mono {c d : Nat} {a b : List Int} (h : dif c a b) (hc : c ≤ d) : dif d a b := let ⟨i, h1, h2⟩ := h; ⟨i, by omega, h2⟩
def cut (K c : Nat) (m : List Int) : List Int := tab (K + 1) fun i => if i ≤ c then gi m i else 0
def inc (mx : Nat → Int) : Nat → List Int → List Int
  | 0, _ => [1]
  | i + 1, m => if gi m (i + 1) < mx i then m.set (i + 1) (gi m (i + 1) + 1) else inc mx i (m.set (i + 1) 0)
def ask (K : Nat) (mx : Nat → Int) (c : Nat) (od : Bool) (m : List Int) : List Int :=
  if gi m 0 = 1 then [1] else if od then inc mx c (cut K c m) else cut K c m
theorem cut_len (K c : Nat) (m : List Int) : (cut K c m).length = K + 1 := tab_len _ _
theorem gi_cut {c : Nat} (hc : c ≤ K) (m : List Int) (i : Nat) : gi (cut K c m) i = if i ≤ c then gi m i else 0 := by
  rcases Nat.lt_or_ge i (K + 1) with h | h
  · exact gi_tab _ h
  · rw [gi_out (by rw [cut_len]; exact h), if_neg (by omega)]
theorem cut_ok {c : Nat} (hc : c ≤ K) (hx : ∀ i, 0 ≤ mx i) {m : List Int} (h : Ok K mx m) (h1 : gi m 0 ≠ 1) : Ok K mx (cut K c m) := by
  have h2 := h.live h1
  refine .inr ⟨cut_len _ _ _, ?_, fun i hi => ?_⟩
  · rw [gi_cut hc, if_pos (Nat.zero_le _)]; exact h2.2.1
  · rw [gi_cut hc]
    split
    · exact h2.2.2 i hi
    · exact ⟨Int.le_refl _, hx i⟩
theorem inc_spec : ∀ (c : Nat) (m : List Int), c < m.length → ((∀ j, j < c → ¬ gi m (j + 1) < mx j) ∧ inc mx c m = [1]) ∨ ∃ k, k < c ∧ gi m (k + 1) < mx k ∧ (∀ j, k < j → j < c → ¬ gi m (j + 1) < mx j) ∧ (inc mx c m).length = m.length ∧ ∀ j, gi (inc mx c m) j = if j ≤ k then gi m j else if j = k + 1 then gi m j + 1 else if j ≤ c then 0 else gi m j
  | 0, m, _ => .inl ⟨fun j hj => absurd hj (Nat.not_lt_zero _), rfl⟩
  | c + 1, m, hm => by
    unfold inc
    by_cases h : gi m (c + 1) < mx c
    · rw [if_pos h]
      refine .inr ⟨c, by omega, h, fun j h1 h2 => by omega, List.length_set, fun j => ?_⟩
      rw [gi_set hm]
      by_cases e : j = c + 1
      · subst e; rw [if_pos rfl, if_neg (by omega), if_pos rfl]
      · rw [if_neg e]
        by_cases e1 : j ≤ c
        · rw [if_pos e1]
        · rw [if_neg e1, if_neg e, if_neg (by omega)]
    · rw [if_neg h]
      have hg : ∀ j, j ≠ c + 1 → gi (m.set (c + 1) 0) j = gi m j := fun j hj => by rw [gi_set hm, if_neg hj]
      rcases inc_spec c (m.set (c + 1) 0) (by rw [List.length_set]; omega) with ⟨h1, h2⟩ | ⟨k, h1, h2, h3, h4, h5⟩
      · refine .inl ⟨fun j hj => ?_, h2⟩
        by_cases e : j = c
        · subst e; exact h
        · have := h1 j (by omega); rwa [hg _ (by omega)] at this
      · rw [hg _ (by omega)] at h2
        refine .inr ⟨k, by omega, h2, fun j h6 h7 => ?_, by rw [h4, List.length_set], fun j => ?_⟩
        · by_cases e : j = c
          · subst e; exact h
          · have := h3 j h6 (by omega); rwa [hg _ (by omega)] at this
        · rw [h5 j]
          by_cases e1 : j ≤ k
          · rw [if_pos e1, if_pos e1, hg _ (by omega)]
          · rw [if_neg e1, if_neg e1]
            by_cases e2 : j = k + 1
            · rw [if_pos e2, if_pos e2, hg _ (by omega)]
            · rw [if_neg e2, if_neg e2]
              by_cases e3 : j ≤ c
              · rw [if_pos e3, if_pos (by omega)]
              · rw [if_neg e3]
                by_cases e4 : j = c + 1
                · subst e4; rw [gi_set hm, if_pos rfl, if_pos (by omega)]
                · rw [if_neg (by omega), hg _ e4]
theorem inc_ok {c : Nat} (hc : c ≤ K) (hx : ∀ i, 0 ≤ mx i) {m : List Int} (h : Ok K mx m) (h1 : gi m 0 ≠ 1) : Ok K mx (inc mx c m) := by
  obtain ⟨hl, h0, hd⟩ := h.live h1
  rcases inc_spec (mx := mx) c m (by omega) with ⟨_, e⟩ | ⟨k, k1, k2, k3, k4, k5⟩
  · rw [e]; exact ok_lost
  · refine .inr ⟨by omega, by rw [k5, if_pos (Nat.zero_le _)]; exact h0, fun i hi => ?_⟩
    rw [k5]
    have := hd i hi
    split
    · exact this
    · split
      · rename_i e
        have : i = k := by omega
        subst this; omega
      · split
        · exact ⟨Int.le_refl _, hx i⟩
        · exact this
theorem ask_ok {c : Nat} {od : Bool} (hc : c ≤ K) (hx : ∀ i, 0 ≤ mx i) {m : List Int} (h : Ok K mx m) : Ok K mx (ask K mx c od m) := by
  unfold ask
  split
  · exact ok_lost
  · rename_i h1
    have h2 := cut_ok hc hx h h1
    split
    · refine inc_ok hc hx h2 ?_
      rw [gi_cut hc, if_pos (Nat.zero_le _)]; exact h1
    · exact h2
theorem inc_least {c : Nat} (hc : c ≤ K) {m b : List Int} (h : Ok K mx m) (h1 : gi m 0 ≠ 1) (hz : ∀ j, c < j → gi m j = 0) (hb : Ok K mx b) (hx : ∀ i, 0 ≤ mx i) (hd : dif c m b) : le (inc mx c m) b := by
  obtain ⟨hl, h0, hdg⟩ := h.live h1
  obtain ⟨i, i1, i2, i3⟩ := hd
  have hi := inc_ok hc hx h h1
  rcases inc_spec (mx := mx) c m (by omega) with ⟨k1, e⟩ | ⟨k, k1, k2, k3, k4, k5⟩
  · rcases i with _ | i
    · rw [h0] at i3
      rcases hb.h0 with e' | e'
      · omega
      · rw [e, e']; exact le_refl _
    · have hb0 : gi b 0 = 0 := (i2 0 (by omega)).symm.trans h0
      have := (hb.live (by omega)).2.2 i (by omega)
      exact absurd i3 (by have := k1 i (by omega); omega)
  · by_cases e : i ≤ k
    · refine le_of_lx ((lx_ok hi hb).2 ⟨i, by omega, fun j hj => ?_, ?_⟩)
      · rw [k5, if_pos (by omega)]; exact i2 j hj
      · rw [k5, if_pos e]; exact i3
    · have hb0 : gi b 0 = 0 := (i2 0 (by omega)).symm.trans h0
      have hbl := (hb.live (by omega)).2.2
      have : i = k + 1 := by
        rcases Nat.lt_or_ge (k + 1) i with h' | h'
        · exfalso
          have a1 := k3 (i - 1) (by omega) (by omega)
          have a2 := hbl (i - 1) (by omega)
          rw [show i - 1 + 1 = i by omega] at a1 a2
          omega
        · omega
      subst this
      intro hlt
      obtain ⟨t, t1, t2, t3⟩ := (lx_ok hb hi).1 hlt
      rw [k5] at t3
      by_cases e1 : t ≤ k
      · rw [if_pos e1, i2 t (by omega)] at t3; omega
      · rw [if_neg e1] at t3
        by_cases e2 : t = k + 1
        · rw [if_pos e2, e2] at t3; omega
        · rw [if_neg e2] at t3
          have hbt : 0 ≤ gi b t := by
            have := hbl (t - 1) (by omega)
            rw [show t - 1 + 1 = t by omega] at this
            exact this.1
          split at t3
          · omega
          · rw [hz t (by omega)] at t3; omega
theorem inc_more {c : Nat} (hc : c ≤ K) {m : List Int} (h : Ok K mx m) (h1 : gi m 0 ≠ 1) : dif c m (inc mx c m) := by
  obtain ⟨hl, h0, hdg⟩ := h.live h1
  rcases inc_spec (mx := mx) c m (by omega) with ⟨_, e⟩ | ⟨k, k1, k2, k3, k4, k5⟩
  · refine ⟨0, Nat.zero_le _, fun j hj => absurd hj (Nat.not_lt_zero _), ?_⟩
    rw [e, h0]; decide
  · refine ⟨k + 1, by omega, fun j hj => by rw [k5, if_pos (by omega)], ?_⟩
    rw [k5, if_neg (by omega), if_pos rfl]; omega
theorem ask_mono {c : Nat} {od : Bool} (hc : c ≤ K) (hx : ∀ i, 0 ≤ mx i) {a b : List Int} (ha : Ok K mx a) (hb : Ok K mx b) (h : le a b) : le (ask K mx c od a) (ask K mx c od b) := by
  rcases le_iff.1 h with h | rfl
  · have hd := (lx_ok ha hb).1 h
    obtain ⟨i, i1, i2, i3⟩ := hd
    unfold ask
    by_cases eb : gi b 0 = 1
    · rw [if_pos eb]

      have key : ∀ x, Ok K mx x → le x [1] := fun x hx' hl => by
        obtain ⟨t, t1, t2, t3⟩ := (lx_ok ok_lost hx').1 hl
        rcases hx'.h0 with e | e
        · rcases t with _ | t
          · rw [e] at t3; exact absurd t3 (by decide)
          · exact absurd ((t2 0 (by omega)).trans e) (by decide)
        · subst e; omega
      exact key _ (ask_ok (od := od) hc hx ha)
    · have ea : gi a 0 ≠ 1 := fun e => by
        have hb0 : gi b 0 = 0 := hb.h0.elim id fun e' => absurd (hb.lost.2 e') eb
        rcases i with _ | i
        · omega
        · have := i2 0 (by omega); omega
      rw [if_neg eb, if_neg ea]
      have oa := cut_ok hc hx ha ea
      have ob := cut_ok hc hx hb eb
      have na : gi (cut K c a) 0 ≠ 1 := by rw [gi_cut hc, if_pos (Nat.zero_le _)]; exact ea
      have nb : gi (cut K c b) 0 ≠ 1 := by rw [gi_cut hc, if_pos (Nat.zero_le _)]; exact eb
      by_cases e : i ≤ c
      · have hdc : dif c (cut K c a) (cut K c b) := ⟨i, e, fun j hj => by rw [gi_cut hc, gi_cut hc, if_pos (by omega), if_pos (by omega)]; exact i2 j hj, by rw [gi_cut hc, gi_cut hc, if_pos e, if_pos e]; exact i3⟩
        split
        · obtain ⟨t, t1, t2, t3⟩ := inc_more (mx := mx) hc ob nb
          refine inc_least hc oa na (fun j hj => by rw [gi_cut hc, if_neg (by omega)]) (inc_ok hc hx ob nb) hx ?_
          obtain ⟨i', j1, j2, j3⟩ := hdc
          rcases Nat.lt_trichotomy i' t with h' | h' | h'
          · exact ⟨i', j1, fun j hj => (j2 j hj).trans (t2 j (by omega)), by rw [← t2 i' h']; exact j3⟩
          · subst h'; exact ⟨i', j1, fun j hj => (j2 j hj).trans (t2 j hj), by omega⟩
          · exact ⟨t, t1, fun j hj => (j2 j (by omega)).trans (t2 j hj), by rw [j2 t h']; exact t3⟩
        · exact le_of_lx ((lx_ok oa ob).2 (dif_mono hdc hc))
      · have : cut K c a = cut K c b := ok_ext oa ob fun j _ => by
          rw [gi_cut hc, gi_cut hc]
          split
          · exact i2 j (by omega)
          · rfl
        rw [this]; exact le_refl _
  · exact le_refl _
noncomputable def bst (mn : Bool) (L : Nat → List Int) : Nat → List Int
  | 0 => []
  | k + 1 => @ite _ (k = 0 ∨ (if mn then lx (L k) (bst mn L k) else lx (bst mn L k) (L k))) (Classical.propDecidable _) (L k) (bst mn L k)
theorem bst_yes {mn : Bool} {L : Nat → List Int} {k : Nat} (h : k = 0 ∨ (if mn then lx (L k) (bst mn L k) else lx (bst mn L k) (L k))) : bst mn L (k + 1) = L k := if_pos h
theorem bst_no {mn : Bool} {L : Nat → List Int} {k : Nat} (h : ¬ (k = 0 ∨ (if mn then lx (L k) (bst mn L k) else lx (bst mn L k) (L k)))) : bst mn L (k + 1) = bst mn L k := if_neg h
theorem bst_mem (mn : Bool) (L : Nat → List Int) : ∀ k, 0 < k → ∃ j, j < k ∧ bst mn L k = L j
  | 0, h => absurd h (Nat.not_lt_zero _)
  | k + 1, _ => by
    by_cases h : k = 0 ∨ (if mn then lx (L k) (bst mn L k) else lx (bst mn L k) (L k))
    · rw [bst_yes h]; exact ⟨k, by omega, rfl⟩
    · rw [bst_no h]
      rcases Nat.eq_zero_or_pos k with e | e
      · exact absurd (.inl e) h
      · obtain ⟨j, h1, h2⟩ := bst_mem mn L k e
        exact ⟨j, by omega, h2⟩
theorem bst_min (L : Nat → List Int) : ∀ k j, j < k → le (bst true L k) (L j)
  | 0, j, h => absurd h (Nat.not_lt_zero _)
  | k + 1, j, h => by
    by_cases hc : k = 0 ∨ (if true = true then lx (L k) (bst true L k) else lx (bst true L k) (L k))
    · rw [bst_yes hc]
      rcases Nat.lt_or_ge j k with h' | h'
      · rcases hc with hc | hc
        · omega
        · exact le_trans (le_of_lx (by simpa using hc)) (bst_min L k j h')
      · rw [show j = k by omega]; exact le_refl _
    · rw [bst_no hc]
      rcases Nat.lt_or_ge j k with h' | h'
      · exact bst_min L k j h'
      · rw [show j = k by omega]; exact fun h2 => hc (.inr (by simpa using h2))
theorem bst_max (L : Nat → List Int) : ∀ k j, j < k → le (L j) (bst false L k)
  | 0, j, h => absurd h (Nat.not_lt_zero _)
  | k + 1, j, h => by
    by_cases hc : k = 0 ∨ (if false = true then lx (L k) (bst false L k) else lx (bst false L k) (L k))
    · rw [bst_yes hc]
      rcases Nat.lt_or_ge j k with h' | h'
      · rcases hc with hc | hc
        · omega
        · exact le_trans (bst_max L k j h') (le_of_lx (by simpa using hc))
      · rw [show j = k by omega]; exact le_refl _
    · rw [bst_no hc]
      rcases Nat.lt_or_ge j k with h' | h'
      · exact bst_max L k j h'
      · rw [show j = k by omega]; exact fun h2 => hc (.inr (by simpa using h2))
theorem bst_mono (mn : Bool) {L M : Nat → List Int} {k : Nat} (hk : 0 < k) (h : ∀ j, j < k → le (L j) (M j)) : le (bst mn L k) (bst mn M k) := by
  cases mn
  · obtain ⟨j, h1, h2⟩ := bst_mem false L k hk
    rw [h2]; exact le_trans (h j h1) (bst_max M k j h1)
  · obtain ⟨j, h1, h2⟩ := bst_mem true M k hk
    rw [h2]; exact le_trans (bst_min L k j h1) (h j h1)
theorem bst_congr (mn : Bool) {L M : Nat → List Int} : ∀ {k : Nat}, (∀ j, j < k → L j = M j) → bst mn L k = bst mn M k
  | 0, _ => rfl
  | k + 1, h => by
    unfold bst
    rw [h k (by omega), bst_congr mn (k := k) fun j hj => h j (by omega)]
def num (B : Nat) (m : List Int) : Nat → Nat
  | 0 => (gi m 0).toNat
  | k + 1 => num B m k * B + (gi m (k + 1)).toNat
theorem num_lt {B : Nat} {a b : List Int} (hb : ∀ i, (gi a i).toNat < B) (h0 : ∀ i, 0 ≤ gi a i) (h1 : ∀ i, 0 ≤ gi b i) : ∀ k, dif k a b → num B a k < num B b k
  | 0, ⟨i, h1', h2, h3⟩ => by
    have : i = 0 := by omega
    subst this
    show (gi a 0).toNat < (gi b 0).toNat
    have := h0 0
    omega
  | k + 1, ⟨i, h1', h2, h3⟩ => by
    show num B a k * B + _ < num B b k * B + _
    rcases Nat.lt_or_ge i (k + 1) with h | h
    · have := num_lt hb h0 h1 k ⟨i, by omega, h2, h3⟩
      have h4 := hb (k + 1)
      have : num B a k * B + B ≤ num B b k * B := by
        rw [← Nat.succ_mul]; exact Nat.mul_le_mul_right _ this
      omega
    · have : i = k + 1 := by omega
      subst this
      have e : ∀ t, t ≤ k → num B a t = num B b t := by
        intro t
        induction t with
        | zero => intro _; show (gi a 0).toNat = (gi b 0).toNat; rw [h2 0 (by omega)]
        | succ t ih => intro ht; show num B a t * B + _ = num B b t * B + _; rw [ih (by omega), h2 (t + 1) (by omega)]
      rw [e k (Nat.le_refl _)]
      have := h0 (k + 1)
      omega
theorem ok_nn {m : List Int} (h : Ok K mx m) (i : Nat) : 0 ≤ gi m i := by
  rcases h with rfl | ⟨h1, h2, h3⟩
  · rcases i with _ | i
    · decide
    · rw [gi_out (by simp)]; exact Int.le_refl _
  · rcases i with _ | i
    · omega
    · rcases Nat.lt_or_ge i K with h | h
      · exact (h3 i h).1
      · rw [gi_out (by omega)]; exact Int.le_refl _
theorem ok_top {B : Nat} (hB : ∀ i, i < K → mx i < B) (h1B : 1 < B) {m : List Int} (h : Ok K mx m) (i : Nat) : (gi m i).toNat < B := by
  rcases h with rfl | ⟨h1, h2, h3⟩
  · rcases i with _ | i
    · exact h1B
    · rw [gi_out (by simp)]; exact Nat.lt_trans (by decide) h1B
  · rcases i with _ | i
    · rw [h2]; exact Nat.lt_trans (by decide) h1B
    · rcases Nat.lt_or_ge i K with h | h
      · have := h3 i h; have := hB i h; omega
      · rw [gi_out (by omega)]; exact Nat.lt_trans (by decide) h1B
def gap (B K : Nat) (m : List Int) : Nat := num B [1] K - num B m K
theorem gap_lt {B : Nat} (hB : ∀ i, i < K → mx i < B) (h1B : 1 < B) {a b : List Int} (ha : Ok K mx a) (hb : Ok K mx b) (h : lx a b) : gap B K b < gap B K a := by
  have h1 := num_lt (ok_top hB h1B ha) (ok_nn ha) (ok_nn hb) K ((lx_ok ha hb).1 h)
  have h2 : num B b K ≤ num B [1] K := by
    rcases lx_total b [1] with h | rfl | h
    · exact Nat.le_of_lt (num_lt (ok_top hB h1B hb) (ok_nn hb) (ok_nn (K := K) (mx := mx) ok_lost) K ((lx_ok hb ok_lost).1 h))
    · exact Nat.le_refl _
    · obtain ⟨t, t1, t2, t3⟩ := (lx_ok ok_lost hb).1 h
      rcases hb.h0 with e | e
      · rcases t with _ | t
        · rw [e] at t3; exact absurd t3 (by decide)
        · exact absurd ((t2 0 (by omega)).trans e) (by decide)
      · subst e; omega
  unfold gap
  omega
end
end MS
end Go.Proofs.Ytfkiloibifigfaa
