/-
  Dominions: the won region is one, and every one is a part of it.
-/
import Derived.Test.YthdioaeekhkgcaaE15
import Derived.Test.YthdioaeekhkgcaaD3
import Derived.Test.YthdioaeekhkgcaaD9
namespace Go.Proofs.Ythdioaeekhkgcaa
set_option linter.unusedVariables false
set_option linter.unusedSimpArgs false
open Go.RowKit

theorem own_P {g : Pa} (hg : PaOk g) {v : Nat} (hv : v < g.prio.length) : (pgP g).own v = gi g.ar.own v := own_of (gmOk_of hg) hv
theorem all_P {g : Pa} (v : Nat) (h : allN g v) : v < g.prio.length := h
theorem winL_at {g : Pa} (hg : PaOk g) {v : Nat} (hv : v < g.prio.length) {i : Int} (hi : i = 0 ∨ i = 1) : gi (winL g) v = i ↔ PG.Won (pgP g) i (allN g) v := by
  have hn := PG.won_not (G := pgP g) fin_P (fun v h => h) (total_all hg) (S := allN g) (v := v) hv
  unfold winL
  rw [gi_tab _ hv]
  by_cases h : PG.Won (pgP g) 0 (allN g) v
  · rw [tf_true h]
    rcases hi with e | e
    · subst e; exact ⟨fun _ => h, fun _ => rfl⟩
    · subst e; exact ⟨fun e => absurd e (by decide), fun h' => absurd h (hn.1 h')⟩
  · rw [tf_false h]
    rcases hi with e | e
    · subst e; exact ⟨fun e => absurd e (by decide), fun h' => absurd h' h⟩
    · subst e; exact ⟨fun _ => hn.2 h, fun _ => rfl⟩
theorem winL_01 {g : Pa} {v : Nat} (hv : v < g.prio.length) : gi (winL g) v = 0 ∨ gi (winL g) v = 1 := by
  unfold winL
  rw [gi_tab _ hv]
  split
  · exact .inl rfl
  · exact .inr rfl
theorem mem_won {g : Pa} (hg : PaOk g) {i : Int} (hi : i = 0 ∨ i = 1) (v : Nat) : (v : Int) ∈ atL (winL g) i ↔ PG.Won (pgP g) i (allN g) v := by
  rw [mem_atL, winL_len]
  constructor
  · rintro ⟨u, h1, h2, h3⟩
    have : u = v := by omega
    subst this
    exact (winL_at hg h1 hi).1 h3
  · intro h
    have hv : v < g.prio.length := PG.won_in (S := allN g) h
    exact ⟨v, hv, rfl, (winL_at hg hv hi).2 h⟩
/-- Every dominion is won. -/
theorem dom_won {g : Pa} {i : Int} {xs : List Int} (h : DomIs g i xs) {v : Nat} (hv : (v : Int) ∈ xs) : PG.Won (pgP g) i (allN g) v := by
  obtain ⟨⟨hS, ht, hi, hn⟩, hw⟩ := h
  have hg := hS.1
  have hl := hg.len
  have hx := trap_game hg ht
  have hB := bnd_set hx.1
  have hSx : ∀ v : Nat, (v : Int) ∈ xs → v < g.prio.length := fun v hv => by
    obtain ⟨k, hk, e⟩ := mem_gi hv
    have := hB k hk; omega
  obtain ⟨⟨σ, d⟩, _⟩ := PG.won_for (G := pgP g) fin_P hSx (total_in hg hx) hi
  refine ⟨PG.Won (pgP g) i fun v : Nat => (v : Int) ∈ xs, ⟨σ, fun v h => hSx v (PG.won_in h), d.mine, fun v u h ho he hu => hw u ?_, d.wins⟩, hw v hv⟩
  have hvx := PG.won_in h
  have hvn := hSx v hvx
  obtain ⟨k, hk, e⟩ := mem_gi hvx
  have hst := (ht.2 k hk).1
  rw [e, Int.toNat_natCast] at hst
  rw [own_P hg hvn] at ho
  have h01 := (hg.ar.vert v (by omega)).1
  have h02 := (hg.ar.vert v (by omega)).2.1
  obtain ⟨_, _, t, h1, h2⟩ := (pgP_E _ _).1 he
  rw [← h2]
  exact hst (by omega) t h1
/-- What a player wins is a dominion. -/
theorem won_dom {g : Pa} (hS : Small g) {i : Int} (hi : i = 0 ∨ i = 1) {xs : List Int} (hs : IsSet xs g.ar.own.length) (hx : ∀ v : Nat, (v : Int) ∈ xs ↔ PG.Won (pgP g) i (allN g) v) (hn : xs ≠ []) : DomIs g i xs := by
  have hg := hS.1
  have hl := hg.len
  obtain ⟨⟨σ, d⟩, _⟩ := PG.won_for (G := pgP g) fin_P all_P (total_all hg) hi
  have hdx : PG.Dom (pgP g) i (fun v : Nat => (v : Int) ∈ xs) (fun v : Nat => (v : Int) ∈ xs) := by
    rw [show (fun v : Nat => (v : Int) ∈ xs) = PG.Won (pgP g) i (allN g) from funext fun v => propext (hx v)]
    exact ⟨σ, fun _ h => h, d.mine, fun v u h ho he hu => hu, d.wins⟩
  refine ⟨⟨hS, ⟨⟨by omega, hs⟩, fun j hj => ?_⟩, hi, hn⟩, fun v hv => ⟨_, hdx, hv⟩⟩
  have h0 := (hs j hj).1
  have h1 := (hs j hj).2.1
  have hv : ((gi xs j).toNat : Int) = gi xs j := Int.toNat_of_nonneg h0
  have hm : PG.Won (pgP g) i (allN g) (gi xs j).toNat := (hx _).1 (by rw [hv]; exact gi_mem hj)
  obtain ⟨a1, a2, a3, a4, a5⟩ := hg.ar.vert (gi xs j).toNat (by omega)
  have hE : ∀ t, t < (gr g.ar.nxt (gi xs j).toNat).length → (pgP g).E (gi xs j).toNat (gi (gr g.ar.nxt (gi xs j).toNat) t).toNat ∧ ((gi (gr g.ar.nxt (gi xs j).toNat) t).toNat : Int) = gi (gr g.ar.nxt (gi xs j).toNat) t ∧ allN g (gi (gr g.ar.nxt (gi xs j).toNat) t).toNat := fun t ht => by
    have h5 := a5 t ht
    have h6 : ((gi (gr g.ar.nxt (gi xs j).toNat) t).toNat : Int) = gi (gr g.ar.nxt (gi xs j).toNat) t := Int.toNat_of_nonneg h5.1
    exact ⟨(pgP_E _ _).2 ⟨by omega, by omega, t, ht, h6.symm⟩, h6, show _ < _ by omega⟩
  have hall : (pgP g).own (gi xs j).toNat ≠ i → ∀ t, t < (gr g.ar.nxt (gi xs j).toNat).length → gi (gr g.ar.nxt (gi xs j).toNat) t ∈ xs := fun ho t ht => by
    obtain ⟨e1, e2, e3⟩ := hE t ht
    have := (hx _).2 (d.yours _ _ hm ho e1 e3)
    rwa [e2] at this
  rw [own_P hg (by omega)] at hall
  refine ⟨fun ho => hall (by omega), ?_⟩
  by_cases ho : gi g.ar.own (gi xs j).toNat = i
  · obtain ⟨b1, b2⟩ := d.mine _ hm (by rw [own_P hg (by omega)]; exact ho)
    obtain ⟨_, _, t, ht, e⟩ := (pgP_E _ _).1 b1
    exact ⟨t, ht, by rw [e]; exact (hx _).2 b2⟩
  · exact ⟨0, by omega, hall ho 0 (by omega)⟩
/-- If one wins nothing, the other one's dominion is all. -/
theorem all_dom {g : Pa} (hS : Small g) {i : Int} (hi : i = 0 ∨ i = 1) (h : atL (winL g) i = []) : DomIs g (1 - i) (tab g.prio.length fun v => (v : Int)) := by
  have hg := hS.1
  have hl := hg.len
  have hi' : 1 - i = 0 ∨ 1 - i = 1 := by omega
  have hm : ∀ v : Nat, (v : Int) ∈ (tab g.prio.length fun v => (v : Int)) ↔ v < g.prio.length := fun v => by
    constructor
    · intro h
      obtain ⟨k, hk, e⟩ := mem_gi h
      rw [tab_len] at hk
      rw [gi_tab _ hk] at e
      omega
    · intro h
      have : gi (tab g.prio.length fun v => (v : Int)) v = (v : Int) := gi_tab _ h
      rw [← this]
      exact gi_mem (by rw [tab_len]; exact h)
  refine won_dom hS hi' (fun k hk => ?_) (fun v => ?_) (fun e => ?_)
  · rw [tab_len] at hk
    rw [gi_tab _ hk]
    refine ⟨by omega, by omega, fun h => ?_⟩
    rw [gi_tab _ (by omega)]; omega
  · rw [hm]
    refine ⟨fun hv => ?_, fun hw => PG.won_in (S := allN g) hw⟩
    rw [won_not' fin_P all_P (total_all hg) hi]
    refine ⟨hv, fun hw => ?_⟩
    have := (mem_won hg hi v).2 hw
    rw [h] at this; cases this
  · have := hg.ar.pos
    have h2 := congrArg List.length e
    rw [tab_len] at h2
    have h3 : ([] : List Int).length = 0 := rfl
    omega
end Go.Proofs.Ythdioaeekhkgcaa
