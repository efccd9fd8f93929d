/-
  Queries: the reference's guard.
-/
import Derived.Test.YthdioaeekhkgcaaE0
import Derived.Test.YthdioaeekhkgcaaE4
import Derived.Test.YthdioaeekhkgcaaGm2
namespace Go.Proofs.Ythdioaeekhkgcaa
set_option linter.unusedVariables false
set_option linter.unusedSimpArgs false
open Go.RowKit

theorem l7Of_f (g : Pa) (hg : PaOk g) : FunSpec Try.prog 77 [paA g] [] (fun _ => gmA (gmOf g)) := by
  unfold FunSpec
  refine ⟨⟨_, Try.func77, rfl, rfl⟩, fun φ0 hp0 w vs hX H hl hv => ?_⟩
  obtain ⟨v, rfl, ha⟩ := avs1 (AVs.of hl hv)
  refine (l7Of_s v g w (is_P ha) hg).mono fun e w' ⟨vo, vp, vn, vq, vk, us, he, hv', h1, h2, h3, h4, h5, h6, hbw⟩ => ⟨_, he, ?_⟩
  intro ν hl hn hf
  have : ν = [] := List.eq_nil_of_length_eq_zero hl
  subst this
  have hE : Evo φ0 hp0 w φ0 (hpNew (hpUp hp0 []) [] []) w' := ⟨fun ν e he => ⟨e, he, .inr ⟨rfl, rfl⟩⟩, fun b hb ho => ⟨hbw.block b hb, ho⟩, hbw.size⟩
  refine ⟨φ0, ⟨hbw, hbw.size, H.fin, fun ν e he => ?_, H.sep, fun ν b hm hb' => H.lo ν b hm hb'⟩, hE, ?_⟩
  · exact (H.ent ν e he).evo hE fun hk b hb' => hbw.block b (H.lt ⟨e, he, hk⟩ hb')
  · have ha' := ha.evo hE
    subst hv'
    obtain ⟨xs, ex, hx⟩ := avs_agg ha'
    have e3 : xs = [vo, vn, vp] := by simpa using (congrArg Array.toList (Value.agg.inj ex)).symm
    subst e3
    match hx with
    | .cons a1 (.cons a2 (.cons a3 .nil)) =>
      have own : ∀ b, w.heap.size ≤ b → ¬ Own φ0 hp0 b := fun b hb ho => by have := H.own_lt ho; omega
      refine agg_avs (vs := [vo, vp, vn, vq, vk]) (.cons a1 (.cons a3 (.cons a2 (.cons (.c ?_) (.cons (.c ?_) .nil)))))
      · exact rd_own (.slice none 0 0) h4.2.1 own rfl h4.1.symm rfl rfl fun i hi => rd_ownI (h4.2.2.1 i (by rw [← h4.1]; exact hi)) own
      · exact rd_ownI h5 own
/-- Where an arena's edges are all there. -/
theorem edg_of {g : Pa} (v u : Int) (h0 : 0 ≤ v) (h1 : v < g.prio.length) : edg (gmOf g) v u = true := by
  have : gi (gmOf g).pick v.toNat = -1 := gi_tab _ (by omega)
  simp [edg, this]
theorem degTo_pos {g : Pa} {inn : List Bool} {v : Int} (h0 : 0 ≤ v) (h1 : v < g.prio.length) : ∀ k, degTo (gmOf g) inn v k = 0 ↔ ∀ i, i < k → gb inn (gi (gr g.ar.nxt v.toNat) i).toNat = false := by
  intro k
  induction k with
  | zero => exact ⟨fun _ i hi => by omega, fun _ => rfl⟩
  | succ k ih =>
    rw [degTo, edg_of v _ h0 h1, Bool.and_true]
    show degTo (gmOf g) inn v k + (if gb inn (gi (gr g.ar.nxt v.toNat) k).toNat = true then 1 else 0) = 0 ↔ _
    constructor
    · intro h i hi
      rcases Nat.lt_or_ge i k with h' | h'
      · exact ih.1 (by omega) i h'
      · have : i = k := by omega
        subst this
        cases hb : gb inn (gi (gr g.ar.nxt v.toNat) i).toNat with
        | false => rfl
        | true => rw [hb, if_pos rfl] at h; omega
    · intro h
      rw [ih.2 fun i hi => h i (by omega), h k (by omega)]
      rfl
theorem topTo_le {pr xs : List Int} {d : Int} : ∀ {k : Nat}, topTo pr xs k ≤ d ↔ -1 ≤ d ∧ ∀ i, i < k → gi pr (gi xs i).toNat ≤ d := by
  intro k
  induction k with
  | zero => exact ⟨fun h => ⟨h, fun i hi => by omega⟩, fun h => h.1⟩
  | succ k ih =>
    have : topTo pr xs (k + 1) = max (topTo pr xs k) (gi pr (gi xs k).toNat) := rfl
    rw [this]
    constructor
    · intro h
      obtain ⟨h1, h2⟩ := ih.1 (by omega)
      refine ⟨h1, fun i hi => ?_⟩
      rcases Nat.lt_or_ge i k with h' | h'
      · exact h2 i h'
      · have : i = k := by omega
        subst this; omega
    · rintro ⟨h1, h2⟩
      have := ih.2 ⟨h1, fun i hi => h2 i (by omega)⟩
      have := h2 k (by omega)
      omega
theorem deg_zero {g : Pa} (hg : PaOk g) {xs : List Int} {v : Int} (h0 : 0 ≤ v) (h1 : v < g.prio.length) : deg (gmOf g) (mks g.prio.length fun v => (v : Int) ∈ xs) v = 0 ↔ ∀ i, i < (gr g.ar.nxt v.toNat).length → ¬ gi (gr g.ar.nxt v.toNat) i ∈ xs := by
  have hx := (gmOk_of hg).nx v.toNat (by omega)
  have e : ∀ i, i < (gr g.ar.nxt v.toNat).length → gb (mks g.prio.length fun v => (v : Int) ∈ xs) (gi (gr g.ar.nxt v.toNat) i).toNat = tf (gi (gr g.ar.nxt v.toNat) i ∈ xs) := fun i hi => gb_mem (hx.2 i hi).1 (hx.2 i hi).2
  unfold deg
  refine (degTo_pos h0 h1 _).trans ⟨fun h i hi => ?_, fun h i hi => ?_⟩
  · have := h i hi; rw [e i hi] at this; exact tf_ne.1 this
  · rw [e i hi]; exact tf_false (h i hi)
theorem ask_iff {g : Pa} (hS : Small g) {xs : List Int} (hs : IsSet xs g.prio.length) {who d mine yours : Int} : AskIs g xs who d mine yours ↔ (0 ≤ who ∧ who ≤ 1) ∧ (0 ≤ d ∧ d ≤ 41) ∧ d.tmod 2 = who ∧ (0 ≤ mine ∧ mine ≤ 12) ∧ (0 ≤ yours ∧ yours ≤ 12) ∧
    ∀ j, j < xs.length → gi g.prio (gi xs j).toNat ≤ d ∧ deg (gmOf g) (mks g.prio.length fun v => (v : Int) ∈ xs) (gi xs j) ≠ 0 := by
  have hg := hS.1
  have hB := hs.bnd
  have hlen := hg.len
  have key : ∀ j, j < xs.length → (deg (gmOf g) (mks g.prio.length fun v => (v : Int) ∈ xs) (gi xs j) ≠ 0 ↔ ∃ i, i < (gr g.ar.nxt (gi xs j).toNat).length ∧ gi (gr g.ar.nxt (gi xs j).toNat) i ∈ xs) := fun j hj => by
    rw [Ne, deg_zero hg (hB j hj).1 (hB j hj).2]
    constructor
    · intro h
      exact Classical.byContradiction fun hn => h fun i hi hm => hn ⟨i, hi, hm⟩
    · rintro ⟨i, hi, hm⟩ h; exact h i hi hm
  unfold AskIs QueryIs GameIn
  rw [topTo_le, ← hlen]
  constructor
  · rintro ⟨_, ⟨_, h1⟩, h2, h3, h4, h5, ⟨_, h6⟩, h7, h8, h9, h10⟩
    exact ⟨by omega, by omega, h5, by omega, by omega, fun j hj => ⟨h6 j hj, (key j hj).2 (h1 j hj)⟩⟩
  · rintro ⟨h1, h2, h3, h4, h5, h6⟩
    exact ⟨hS, ⟨hs, fun j hj => (key j hj).1 (h6 j hj).2⟩, by omega, h2.1, h2.2, h3, ⟨by omega, fun j hj => (h6 j hj).1⟩, h4.1, h4.2, h5.1, h5.2⟩
end Go.Proofs.Ythdioaeekhkgcaa
