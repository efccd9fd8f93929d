/-
  Parity games in plain words: attraction, dominions (a region that a player wins by a strategy of single moves), and who wins: two dominions of different players are apart; the recursive solver's step.
-/
namespace Go.Proofs.Ythdioaeekhkgcaa
set_option linter.unusedVariables false
set_option linter.unusedSimpArgs false
namespace PG

/-- A game: owners, priorities, edges. -/
structure Gm where
  own : Nat → Int
  prio : Nat → Int
  E : Nat → Nat → Prop
  own01 : ∀ v, own v = 0 ∨ own v = 1
  bnd : ∃ B : Nat, ∀ v, prio v ≤ B
  nn : ∀ v, 0 ≤ prio v

variable {G : Gm}

/-- Every vertex of a part has a successor in it. -/
def Total (G : Gm) (S : Nat → Prop) : Prop := ∀ v, S v → ∃ u, G.E v u ∧ S u
def Diff (S T : Nat → Prop) (v : Nat) : Prop := S v ∧ ¬ T v

/-- Attracted within k steps. -/
def AttrN (G : Gm) (who : Int) (S T : Nat → Prop) : Nat → Nat → Prop
  | 0, v => S v ∧ T v
  | k + 1, v => AttrN G who S T k v ∨ (S v ∧ G.own v = who ∧ ∃ u, G.E v u ∧ AttrN G who S T k u) ∨ (S v ∧ G.own v ≠ who ∧ (∃ u, G.E v u ∧ S u) ∧ ∀ u, G.E v u → S u → AttrN G who S T k u)
def Attr (G : Gm) (who : Int) (S T : Nat → Prop) (v : Nat) : Prop := ∃ k, AttrN G who S T k v

theorem attrN_succ {who : Int} {S T : Nat → Prop} {k v : Nat} (h : AttrN G who S T k v) : AttrN G who S T (k + 1) v := Or.inl h
theorem attrN_mono {who : Int} {S T : Nat → Prop} {j k v : Nat} (hjk : j ≤ k) (h : AttrN G who S T j v) : AttrN G who S T k v := by
  induction k with
  | zero => have : j = 0 := by omega
            subst this; exact h
  | succ k ih =>
    by_cases e : j = k + 1
    · subst e; exact h
    · exact attrN_succ (ih (by omega))
theorem attrN_in {who : Int} {S T : Nat → Prop} : ∀ {k v : Nat}, AttrN G who S T k v → S v := by
  intro k
  induction k with
  | zero => intro v h; exact h.1
  | succ k ih =>
    intro v h
    rcases h with h | h | h
    · exact ih h
    · exact h.1
    · exact h.1
theorem attr_in {who : Int} {S T : Nat → Prop} {v : Nat} (h : Attr G who S T v) : S v := let ⟨_, h⟩ := h; attrN_in h
theorem attr_goal {who : Int} {S T : Nat → Prop} {v : Nat} (h1 : S v) (h2 : T v) : Attr G who S T v := ⟨0, h1, h2⟩
theorem attr_mine {who : Int} {S T : Nat → Prop} {v u : Nat} (h1 : S v) (h2 : G.own v = who) (h3 : G.E v u) (h4 : Attr G who S T u) : Attr G who S T v :=
  let ⟨k, h⟩ := h4; ⟨k + 1, Or.inr (Or.inl ⟨h1, h2, u, h3, h⟩)⟩

/-- What there is is bounded: a set of numbers below n each of which has some k has one k for all. -/
theorem bound_all {n : Nat} {Q : Nat → Prop} {A : Nat → Nat → Prop} (hm : ∀ j k v, j ≤ k → A j v → A k v) (h : ∀ v, Q v → v < n → ∃ k, A k v) : ∃ k, ∀ v, Q v → v < n → A k v := by
  induction n with
  | zero => exact ⟨0, fun v _ h => by omega⟩
  | succ n ih =>
    obtain ⟨k, hk⟩ := ih fun v hv hn => h v hv (by omega)
    by_cases hq : Q n
    · obtain ⟨j, hj⟩ := h n hq (by omega)
      refine ⟨j + k, fun v hv hn => ?_⟩
      by_cases e : v = n
      · subst e; exact hm _ _ _ (by omega) hj
      · exact hm _ _ _ (by omega) (hk v hv (by omega))
    · refine ⟨k, fun v hv hn => ?_⟩
      by_cases e : v = n
      · subst e; exact absurd hv hq
      · exact hk v hv (by omega)

/-- All edges end below n. -/
def Fin (G : Gm) (n : Nat) : Prop := ∀ v u, G.E v u → u < n

theorem attr_yours {who : Int} {S T : Nat → Prop} {n v : Nat} (hf : Fin G n) (h1 : S v) (h2 : G.own v ≠ who) (h3 : ∃ u, G.E v u ∧ S u) (h4 : ∀ u, G.E v u → S u → Attr G who S T u) : Attr G who S T v := by
  obtain ⟨k, hk⟩ := bound_all (n := n) (Q := fun u => G.E v u ∧ S u) (A := fun k u => AttrN G who S T k u) (fun j k v h h' => attrN_mono h h') (fun u hu _ => h4 u hu.1 hu.2)
  exact ⟨k + 1, Or.inr (Or.inr ⟨h1, h2, h3, fun u hu hs => hk u ⟨hu, hs⟩ (hf v u hu)⟩)⟩

/-- The least closed set. -/
theorem attr_least {who : Int} {S T X : Nat → Prop} (h0 : ∀ v, S v → T v → X v) (h1 : ∀ v u, S v → G.own v = who → G.E v u → X u → X v)
    (h2 : ∀ v, S v → G.own v ≠ who → (∃ u, G.E v u ∧ S u) → (∀ u, G.E v u → S u → X u) → X v) : ∀ v, Attr G who S T v → X v := by
  rintro v ⟨k, hk⟩
  induction k generalizing v with
  | zero => exact h0 v hk.1 hk.2
  | succ k ih =>
    rcases hk with h | ⟨a, b, u, c, d⟩ | ⟨a, b, c, d⟩
    · exact ih v h
    · exact h1 v u a b c (ih u d)
    · exact h2 v a b c fun u hu hs => ih u (d u hu hs)

theorem attr_congr {who : Int} {S S' T T' : Nat → Prop} (hS : ∀ v, S v ↔ S' v) (hT : ∀ v, S v → (T v ↔ T' v)) (v : Nat) : Attr G who S T v ↔ Attr G who S' T' v := by
  have eS : S = S' := funext fun v => propext (hS v)
  subst eS
  have key : ∀ (T T' : Nat → Prop), (∀ v, S v → T v → T' v) → ∀ k v, AttrN G who S T k v → AttrN G who S T' k v := by
    intro T T' h k
    induction k with
    | zero => intro v hv; exact ⟨hv.1, h v hv.1 hv.2⟩
    | succ k ih =>
      intro v hv
      rcases hv with h | ⟨a, b, u, c, d⟩ | ⟨a, b, c, d⟩
      · exact Or.inl (ih v h)
      · exact Or.inr (Or.inl ⟨a, b, u, c, ih u d⟩)
      · exact Or.inr (Or.inr ⟨a, b, c, fun u hu hs => ih u (d u hu hs)⟩)
  exact ⟨fun ⟨k, h⟩ => ⟨k, key T T' (fun v hs ht => (hT v hs).1 ht) k v h⟩, fun ⟨k, h⟩ => ⟨k, key T' T (fun v hs ht => (hT v hs).2 ht) k v h⟩⟩

theorem total_diff {who : Int} {S T : Nat → Prop} {n : Nat} (hf : Fin G n) (h : Total G S) : Total G (Diff S (Attr G who S T)) := by
  rintro v ⟨hv, ha⟩
  by_cases ho : G.own v = who
  · obtain ⟨u, hu, hs⟩ := h v hv
    exact ⟨u, hu, hs, fun hx => ha (attr_mine hv ho hu hx)⟩
  · refine Classical.byContradiction fun hno => ha (attr_yours hf hv ho (h v hv) fun u hu hs => ?_)
    refine Classical.byContradiction fun hx => hno ⟨u, hu, hs, hx⟩

/-! ### Dominions -/
/-- f is a play in R in which i follows σ. -/
def Play (G : Gm) (i : Int) (R : Nat → Prop) (σ : Nat → Nat) (f : Nat → Nat) : Prop := ∀ k, R (f k) ∧ G.E (f k) (f (k + 1)) ∧ (G.own (f k) = i → f (k + 1) = σ (f k))
/-- The greatest priority from the start, and again and again, is p. -/
def Tops (G : Gm) (f : Nat → Nat) (p : Int) : Prop := (∀ k, G.prio (f k) ≤ p) ∧ ∀ M, ∃ k, M ≤ k ∧ G.prio (f k) = p
def Wins (G : Gm) (i : Int) (R : Nat → Prop) (σ : Nat → Nat) : Prop := ∀ f p, Play G i R σ f → Tops G f p → p % 2 = i
structure DomBy (G : Gm) (i : Int) (S R : Nat → Prop) (σ : Nat → Nat) : Prop where
  sub : ∀ v, R v → S v
  mine : ∀ v, R v → G.own v = i → G.E v (σ v) ∧ R (σ v)
  yours : ∀ v u, R v → G.own v ≠ i → G.E v u → S u → R u
  wins : Wins G i R σ
def Dom (G : Gm) (i : Int) (S R : Nat → Prop) : Prop := ∃ σ, DomBy G i S R σ

theorem Play.shift {i : Int} {R : Nat → Prop} {σ f : Nat → Nat} (h : Play G i R σ f) (m : Nat) : Play G i R σ (fun k => f (m + k)) := fun k => h (m + k)
theorem Tops.shift {f : Nat → Nat} {p : Int} (h : Tops G f p) (m : Nat) : Tops G (fun k => f (m + k)) p :=
  ⟨fun k => h.1 (m + k), fun M => let ⟨k, hk, e⟩ := h.2 (m + M); ⟨k - m, by omega, by simp only; rw [show m + (k - m) = k by omega]; exact e⟩⟩

/-- Some priority is met again and again and is the greatest from some time on. -/
theorem tops_ex (f : Nat → Nat) : ∃ m p, Tops G (fun k => f (m + k)) p := by
  obtain ⟨B, hB⟩ := G.bnd
  have key : ∀ B : Nat, ∀ m, (∀ k, G.prio (f (m + k)) ≤ B) → ∃ m p, Tops G (fun k => f (m + k)) p := by
    intro B
    induction B with
    | zero =>
      intro m h
      refine ⟨m, 0, h, fun M => ⟨M, Nat.le_refl _, ?_⟩⟩
      have := h M; have := G.nn (f (m + M)); simp only at *; omega
    | succ B ih =>
      intro m h
      by_cases hc : ∀ M, ∃ k, M ≤ k ∧ G.prio (f (m + k)) = ((B + 1 : Nat) : Int)
      · exact ⟨m, _, h, hc⟩
      · obtain ⟨M, hM⟩ := Classical.not_forall.1 hc
        refine ih (m + M) fun k => ?_
        have h1 := h (M + k)
        have h2 : ¬ G.prio (f (m + (M + k))) = ((B + 1 : Nat) : Int) := fun e => hM ⟨M + k, by omega, e⟩
        rw [show m + M + k = m + (M + k) by omega]
        omega
  exact key B 0 fun k => hB _

/-- Dominions of different players are apart. -/
theorem dom_apart {i j : Int} {S R R' : Nat → Prop} (hi : i = 0 ∨ i = 1) (hj : j = 1 - i) (h : Dom G i S R) (h' : Dom G j S R') (v : Nat) (hv : R v) (hv' : R' v) : False := by
  obtain ⟨σ, d⟩ := h
  obtain ⟨τ, d'⟩ := h'
  let st : Nat → Nat := fun v => @ite _ (G.own v = i) (Classical.propDecidable _) (σ v) (τ v)
  let f : Nat → Nat := fun k => Nat.rec v (fun _ x => st x) k
  have hf : ∀ k, R (f k) ∧ R' (f k) := by
    intro k
    induction k with
    | zero => exact ⟨hv, hv'⟩
    | succ k ih =>
      obtain ⟨a, b⟩ := ih
      show R (st (f k)) ∧ R' (st (f k))
      simp only [st]
      by_cases ho : G.own (f k) = i
      · rw [if_pos ho]
        obtain ⟨e, r⟩ := d.mine _ a ho
        exact ⟨r, d'.yours _ _ b (by omega) e (d.sub _ r)⟩
      · rw [if_neg ho]
        obtain ⟨e, r⟩ := d'.mine _ b (by have := G.own01 (f k); omega)
        exact ⟨d.yours _ _ a ho e (d'.sub _ r), r⟩
  have hE : ∀ k, G.E (f k) (f (k + 1)) := by
    intro k
    obtain ⟨a, b⟩ := hf k
    show G.E (f k) (st (f k))
    simp only [st]
    by_cases ho : G.own (f k) = i
    · rw [if_pos ho]; exact (d.mine _ a ho).1
    · rw [if_neg ho]; exact (d'.mine _ b (by have := G.own01 (f k); omega)).1
  have p1 : Play G i R σ f := fun k => ⟨(hf k).1, hE k, fun ho => by show st (f k) = _; simp only [st]; rw [if_pos ho]⟩
  have p2 : Play G j R' τ f := fun k => ⟨(hf k).2, hE k, fun ho => by show st (f k) = _; simp only [st]; rw [if_neg (by omega)]⟩
  obtain ⟨m, p, ht⟩ := tops_ex (G := G) f
  have e1 := d.wins _ _ (p1.shift m) ht
  have e2 := d'.wins _ _ (p2.shift m) ht
  omega

theorem dom_empty (i : Int) (S : Nat → Prop) : Dom G i S (fun _ => False) :=
  ⟨fun v => v, fun _ h => h.elim, fun _ h => h.elim, fun _ _ h => h.elim, fun _ _ h _ => (h 0).1.elim⟩

/-- One strategy here, another one elsewhere. -/
noncomputable def sel (D : Nat → Prop) (τ σ : Nat → Nat) (v : Nat) : Nat := @ite _ (D v) (Classical.propDecidable _) (τ v) (σ v)
theorem sel_pos {D : Nat → Prop} {τ σ : Nat → Nat} {v : Nat} (h : D v) : sel D τ σ v = τ v := if_pos h
theorem sel_neg {D : Nat → Prop} {τ σ : Nat → Nat} {v : Nat} (h : ¬ D v) : sel D τ σ v = σ v := if_neg h

/-- A dominion of a part from which the opponent cannot leave towards what was taken away is one of the whole. -/
theorem dom_up {i : Int} {S D Y : Nat → Prop} (h : Dom G i (Diff S D) Y) (hc : ∀ v u, Y v → G.own v ≠ i → G.E v u → S u → ¬ D u) : Dom G i S Y := by
  obtain ⟨σ, d⟩ := h
  exact ⟨σ, fun v hv => (d.sub v hv).1, d.mine, fun v u hv ho he hs => d.yours v u hv ho he ⟨hs, hc v u hv ho he hs⟩, d.wins⟩

theorem dom_union {j : Int} {S D X : Nat → Prop} (hX : Dom G j (Diff S D) X) (hD : Dom G j S D) : Dom G j S (fun v => X v ∨ D v) := by
  obtain ⟨σ, d⟩ := hX
  obtain ⟨τ, e⟩ := hD
  refine ⟨sel D τ σ, ?_, ?_, ?_, ?_⟩
  · rintro v (h | h)
    · exact (d.sub v h).1
    · exact e.sub v h
  · intro v hv ho
    by_cases hd : D v
    · rw [sel_pos hd]; exact ⟨(e.mine v hd ho).1, Or.inr (e.mine v hd ho).2⟩
    · rw [sel_neg hd]
      have hx : X v := hv.resolve_right hd
      exact ⟨(d.mine v hx ho).1, Or.inl (d.mine v hx ho).2⟩
  · intro v u hv ho he hs
    by_cases hd : D v
    · exact Or.inr (e.yours v u hd ho he hs)
    · by_cases hu : D u
      · exact Or.inr hu
      · exact Or.inl (d.yours v u (hv.resolve_right hd) ho he ⟨hs, hu⟩)
  · intro f p hp ht
    by_cases hx : ∃ m, D (f m)
    · obtain ⟨m, hm⟩ := hx
      have hall : ∀ k, D (f (m + k)) := by
        intro k
        induction k with
        | zero => exact hm
        | succ k ih =>
          obtain ⟨a, b, c⟩ := hp (m + k)
          by_cases ho : G.own (f (m + k)) = j
          · have := c ho
            rw [sel_pos ih] at this
            rw [show m + (k + 1) = m + k + 1 by omega, this]
            exact (e.mine _ ih ho).2
          · refine e.yours _ _ ih ho b ?_
            rcases (hp (m + k + 1)).1 with h | h
            · exact (d.sub _ h).1
            · exact e.sub _ h
      refine e.wins (fun k => f (m + k)) p (fun k => ⟨hall k, (hp (m + k)).2.1, fun ho => ?_⟩) (ht.shift m)
      have := (hp (m + k)).2.2 ho
      rw [sel_pos (hall k)] at this
      exact this
    · have hno : ∀ m, ¬ D (f m) := fun m hm => hx ⟨m, hm⟩
      refine d.wins f p (fun k => ⟨(hp k).1.resolve_right (hno k), (hp k).2.1, fun ho => ?_⟩) ht
      have := (hp k).2.2 ho
      rw [sel_neg (hno k)] at this
      exact this

/-- A strategy of attraction. -/
theorem attr_strat (who : Int) (S T : Nat → Prop) : ∃ (σ : Nat → Nat), (∀ v, Attr G who S T v → ¬ T v → G.own v = who → G.E v (σ v) ∧ Attr G who S T (σ v)) ∧
    ∀ f : Nat → Nat, (∀ k, S (f k)) → (∀ k, G.E (f k) (f (k + 1))) → (∀ k, Attr G who S T (f k) → ¬ T (f k) → G.own (f k) = who → f (k + 1) = σ (f k)) → Attr G who S T (f 0) → ∃ k, T (f k) := by
  -- the least number of steps
  have hmin : ∀ v, Attr G who S T v → ∃ k, AttrN G who S T k v ∧ ∀ j, j < k → ¬ AttrN G who S T j v := by
    rintro v ⟨k, hk⟩
    induction k using Nat.strongRecOn with
    | _ k ih =>
      by_cases h : ∃ j, j < k ∧ AttrN G who S T j v
      · obtain ⟨j, hj, hv⟩ := h
        exact ih j hj hv
      · exact ⟨k, hk, fun j hj hv => h ⟨j, hj, hv⟩⟩
  have hex : ∀ v, ∃ u, ∀ k, (AttrN G who S T (k + 1) v ∧ ∀ j, j < k + 1 → ¬ AttrN G who S T j v) → G.own v = who → G.E v u ∧ AttrN G who S T k u := by
    intro v
    by_cases h : ∃ k, (AttrN G who S T (k + 1) v ∧ ∀ j, j < k + 1 → ¬ AttrN G who S T j v) ∧ G.own v = who
    · obtain ⟨k, ⟨h1, h2⟩, ho⟩ := h
      rcases h1 with h1 | ⟨_, _, u, he, hu⟩ | ⟨_, hn, _⟩
      · exact absurd h1 (h2 k (by omega))
      · refine ⟨u, fun j hj _ => ?_⟩
        have : j = k := by
          refine Classical.byContradiction fun hne => ?_
          rcases Nat.lt_or_gt_of_ne hne with hl | hl
          · exact h2 (j + 1) (by omega) hj.1
          · exact hj.2 (k + 1) (by omega) (Or.inr (Or.inl ⟨‹_›, ‹_›, u, he, hu⟩))
        subst this
        exact ⟨he, hu⟩
      · exact absurd ho hn
    · exact ⟨v, fun k hk ho => absurd ⟨k, hk, ho⟩ h⟩
  refine ⟨fun v => Classical.choose (hex v), ?_, ?_⟩
  · intro v hv ht ho
    obtain ⟨k, hk, hm⟩ := hmin v hv
    cases k with
    | zero => exact absurd hk.2 ht
    | succ k =>
      have := Classical.choose_spec (hex v) k ⟨hk, hm⟩ ho
      exact ⟨this.1, k, this.2⟩
  · intro f hS hE hσ h0
    have key : ∀ k m, AttrN G who S T k (f m) → ∃ m, T (f m) := by
      intro k
      induction k using Nat.strongRecOn with
      | _ k ih =>
        intro m hk
        by_cases hT : T (f m)
        · exact ⟨m, hT⟩
        obtain ⟨j, hj, hm⟩ := hmin (f m) ⟨k, hk⟩
        have hjk : j ≤ k := Nat.le_of_not_lt fun hl => hm k hl hk
        cases j with
        | zero => exact absurd hj.2 hT
        | succ j =>
          by_cases ho : G.own (f m) = who
          · have h1 := Classical.choose_spec (hex (f m)) j ⟨hj, hm⟩ ho
            have h2 : f (m + 1) = Classical.choose (hex (f m)) := hσ m ⟨_, hj⟩ hT ho
            exact ih j (by omega) (m + 1) (by rw [h2]; exact h1.2)
          · rcases hj with h1 | ⟨_, h1, _⟩ | ⟨_, _, _, h1⟩
            · exact absurd h1 (hm j (by omega))
            · exact absurd h1 ho
            · exact ih j (by omega) (m + 1) (h1 _ (hE m) (hS (m + 1)))
    obtain ⟨k, hk⟩ := h0
    exact key k 0 hk

theorem dom_attr {j : Int} {S W : Nat → Prop} (h : Dom G j S W) : Dom G j S (Attr G j S W) := by
  obtain ⟨τ, d⟩ := h
  obtain ⟨σ, s1, s2⟩ := attr_strat (G := G) j S W
  refine ⟨sel W τ σ, fun v hv => attr_in hv, ?_, ?_, ?_⟩
  · intro v hv ho
    by_cases hw : W v
    · rw [sel_pos hw]
      have := d.mine v hw ho
      exact ⟨this.1, attr_goal (d.sub _ this.2) this.2⟩
    · rw [sel_neg hw]; exact s1 v hv hw ho
  · rintro v u ⟨k, hk⟩ ho he hs
    by_cases hw : W v
    · exact attr_goal hs (d.yours v u hw ho he hs)
    · induction k with
      | zero => exact absurd hk.2 hw
      | succ k ih =>
        rcases hk with h | ⟨_, h, _⟩ | ⟨_, _, _, h⟩
        · exact ih h
        · exact absurd h ho
        · exact ⟨k, h u he hs⟩
  · intro f p hp ht
    obtain ⟨m, hm⟩ := s2 f (fun k => attr_in (hp k).1) (fun k => (hp k).2.1) (fun k _ hn ho => by have := (hp k).2.2 ho; rwa [sel_neg hn] at this) (hp 0).1
    have hall : ∀ k, W (f (m + k)) := by
      intro k
      induction k with
      | zero => exact hm
      | succ k ih =>
        obtain ⟨a, b, c⟩ := hp (m + k)
        by_cases ho : G.own (f (m + k)) = j
        · have := c ho
          rw [sel_pos ih] at this
          rw [show m + (k + 1) = m + k + 1 by omega, this]
          exact (d.mine _ ih ho).2
        · exact d.yours _ _ ih ho b (attr_in (hp (m + k + 1)).1)
    refine d.wins (fun k => f (m + k)) p (fun k => ⟨hall k, (hp (m + k)).2.1, fun ho => ?_⟩) (ht.shift m)
    have := (hp (m + k)).2.2 ho
    rw [sel_pos (hall k)] at this
    exact this

/-- If i wins all of what is not attracted to the vertices of the greatest priority, and that is i's, i wins all. -/
theorem dom_top {i d : Int} {S T : Nat → Prop} (hd : d % 2 = i) (ht : Total G S) (hT : ∀ v, S v → T v → G.prio v = d) (hm : ∀ v, S v → G.prio v ≤ d)
    (h : Dom G i (Diff S (Attr G i S T)) (Diff S (Attr G i S T))) : Dom G i S S := by
  obtain ⟨τ, e⟩ := h
  obtain ⟨σ, s1, s2⟩ := attr_strat (G := G) i S T
  have hsome : ∀ v, ∃ u, S v → G.E v u ∧ S u := fun v => by
    by_cases hv : S v
    · obtain ⟨u, hu⟩ := ht v hv; exact ⟨u, fun _ => hu⟩
    · exact ⟨0, fun h => absurd h hv⟩
  refine ⟨sel (Attr G i S T) (sel T (fun v => Classical.choose (hsome v)) σ) τ, fun _ h => h, ?_, fun _ _ _ _ _ h => h, ?_⟩
  · intro v hv ho
    by_cases ha : Attr G i S T v
    · rw [sel_pos ha]
      by_cases hT' : T v
      · rw [sel_pos hT']; exact Classical.choose_spec (hsome v) hv
      · rw [sel_neg hT']; exact ⟨(s1 v ha hT' ho).1, attr_in (s1 v ha hT' ho).2⟩
    · rw [sel_neg ha]
      have := e.mine v ⟨hv, ha⟩ ho
      exact ⟨this.1, this.2.1⟩
  · intro f p hp hto
    by_cases hx : ∃ m, Attr G i S T (f m)
    · obtain ⟨m, hm'⟩ := hx
      obtain ⟨k, hk⟩ := s2 (fun k => f (m + k)) (fun k => (hp (m + k)).1) (fun k => (hp (m + k)).2.1) (fun k ha hn ho => by have := (hp (m + k)).2.2 ho; rwa [sel_pos ha, sel_neg hn] at this) hm'
      have h1 := hT _ (hp (m + k)).1 hk
      have h2 := hto.1 (m + k)
      obtain ⟨q, _, hq⟩ := hto.2 0
      have h3 := hm _ (hp q).1
      have : p = d := by omega
      rw [this]; exact hd
    · refine e.wins f p (fun k => ⟨⟨(hp k).1, fun ha => hx ⟨k, ha⟩⟩, (hp k).2.1, fun ho => ?_⟩) hto
      have := (hp k).2.2 ho
      rwa [sel_neg (fun ha => hx ⟨k, ha⟩)] at this

/-! ### Who wins -/
/-- i wins v in the part S. -/
def Won (G : Gm) (i : Int) (S : Nat → Prop) (v : Nat) : Prop := ∃ R, Dom G i S R ∧ R v
/-- S is parted into a dominion of 0 and one of 1. -/
structure Split (G : Gm) (S A B : Nat → Prop) : Prop where
  zero : Dom G 0 S A
  one : Dom G 1 S B
  all : ∀ v, S v → A v ∨ B v

theorem Split.won0 {S A B : Nat → Prop} (h : Split G S A B) (v : Nat) : Won G 0 S v ↔ A v := by
  refine ⟨fun ⟨R, d, hr⟩ => ?_, fun ha => ⟨A, h.zero, ha⟩⟩
  obtain ⟨σ, d'⟩ := id d
  rcases h.all v (d'.sub v hr) with h1 | h1
  · exact h1
  · exact (dom_apart (Or.inl rfl) (by omega) d h.one v hr h1).elim
theorem Split.won1 {S A B : Nat → Prop} (h : Split G S A B) (v : Nat) : Won G 1 S v ↔ B v := by
  refine ⟨fun ⟨R, d, hr⟩ => ?_, fun ha => ⟨B, h.one, ha⟩⟩
  obtain ⟨σ, d'⟩ := id d
  rcases h.all v (d'.sub v hr) with h1 | h1
  · exact (dom_apart (Or.inr rfl) (by omega) d h.zero v hr h1).elim
  · exact h1
theorem Split.not {S A B : Nat → Prop} (h : Split G S A B) (v : Nat) (ha : A v) (hb : B v) : False := dom_apart (Or.inl rfl) (by omega) h.zero h.one v ha hb
/-- The same parting with the players named. -/
def SplitFor (G : Gm) (i : Int) (S A B : Nat → Prop) : Prop := Dom G i S A ∧ Dom G (1 - i) S B ∧ ∀ v, S v → A v ∨ B v
theorem SplitFor.split {S A B : Nat → Prop} (h : SplitFor G 0 S A B) : Split G S A B := ⟨h.1, h.2.1, h.2.2⟩
theorem SplitFor.split1 {S A B : Nat → Prop} (h : SplitFor G 1 S A B) : Split G S B A := ⟨h.2.1, h.1, fun v hv => (h.2.2 v hv).symm⟩

theorem dom_set {i : Int} {S S' R R' : Nat → Prop} (hS : ∀ v, S v ↔ S' v) (hR : ∀ v, R v ↔ R' v) (h : Dom G i S R) : Dom G i S' R' := by
  rw [← (funext fun v => propext (hS v) : S = S'), ← (funext fun v => propext (hR v) : R = R')]; exact h

/-- The recursive solver's end: the opponent wins nothing of the rest. -/
theorem step_end {i d : Int} {S T : Nat → Prop} (hd : d % 2 = i) (ht : Total G S) (hT : ∀ v, S v → T v → G.prio v = d) (hm : ∀ v, S v → G.prio v ≤ d)
    {A B : Nat → Prop} (h : SplitFor G i (Diff S (Attr G i S T)) A B) (hB : ∀ v, ¬ B v) : Dom G i S S := by
  refine dom_top hd ht hT hm (dom_set (fun _ => Iff.rfl) (fun v => ⟨fun ha => ?_, fun hr => (h.2.2 v hr).resolve_right (hB v)⟩) h.1)
  obtain ⟨σ, e⟩ := h.1
  exact e.sub v ha

/-- The recursive solver's step: what the opponent wins of the rest, and what is attracted to it, is the opponent's. -/
theorem step_lost {i : Int} {S T : Nat → Prop} (hi : i = 0 ∨ i = 1) {A B : Nat → Prop} (h : SplitFor G i (Diff S (Attr G i S T)) A B) : Dom G (1 - i) S (Attr G (1 - i) S B) := by
  refine dom_attr (dom_up h.2.1 fun v u hv ho he hs hu => ?_)
  obtain ⟨σ, e⟩ := h.2.1
  have hx := e.sub v hv
  exact hx.2 (attr_mine hx.1 (by have := G.own01 v; omega) he hu)

theorem step_again {i : Int} {S L : Nat → Prop} (hi : i = 0 ∨ i = 1) (hL : Dom G (1 - i) S (Attr G (1 - i) S L)) {A B : Nat → Prop} (h : SplitFor G i (Diff S (Attr G (1 - i) S L)) A B) :
    SplitFor G i S A (fun v => B v ∨ Attr G (1 - i) S L v) := by
  refine ⟨dom_up h.1 fun v u hv ho he hs hu => ?_, dom_union h.2.1 hL, fun v hv => ?_⟩
  · obtain ⟨σ, e⟩ := h.1
    have hx := e.sub v hv
    exact hx.2 (attr_mine hx.1 (by have := G.own01 v; omega) he hu)
  · by_cases ha : Attr G (1 - i) S L v
    · exact Or.inr (Or.inr ha)
    · rcases h.2.2 v ⟨hv, ha⟩ with h | h
      · exact Or.inl h
      · exact Or.inr (Or.inl h)
end PG
end Go.Proofs.Ythdioaeekhkgcaa
