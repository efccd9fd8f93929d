/-
  Tables of measures: demands, steady tables, the least one. Plain theory, no program.
-/
import Derived.Test.YtfkiloibifigfaaZLsM1
namespace Go.Proofs.Ytfkiloibifigfaa
set_option linter.unusedVariables false
set_option linter.unusedSimpArgs false
open Go.RowKit
namespace MS
structure Gt where
  n : Nat
  K : Nat
  mx : Nat → Int
  row : Nat → List Int
  c : Nat → Nat
  od : Nat → Bool
  mn : Nat → Bool
structure Gt.Right (G : Gt) : Prop where
  mx0 : ∀ i, 0 ≤ G.mx i
  ck : ∀ v, v < G.n → G.c v ≤ G.K
  pos : ∀ v, v < G.n → 0 < (G.row v).length
  nxt : ∀ v, v < G.n → ∀ i, i < (G.row v).length → (gi (G.row v) i).toNat < G.n
def Gt.asks (G : Gt) (t : List (List Int)) (v i : Nat) : List Int := ask G.K G.mx (G.c v) (G.od v) (gr t (gi (G.row v) i).toNat)
noncomputable def Gt.dem (G : Gt) (t : List (List Int)) (v : Nat) : List Int := bst (G.mn v) (G.asks t v) (G.row v).length
def Gt.Tab (G : Gt) (t : List (List Int)) : Prop := t.length = G.n ∧ ∀ v, v < G.n → Ok G.K G.mx (gr t v)
def Gt.leT (G : Gt) (t s : List (List Int)) : Prop := ∀ v, v < G.n → le (gr t v) (gr s v)
def Gt.Steady (G : Gt) (t : List (List Int)) : Prop := G.Tab t ∧ ∀ v, v < G.n → ¬ lx (gr t v) (G.dem t v)
def Gt.Least (G : Gt) (t : List (List Int)) : Prop := G.Steady t ∧ ∀ s, G.Steady s → G.leT t s
def Gt.Low (G : Gt) (t : List (List Int)) : Prop := G.Tab t ∧ ∀ s, G.Steady s → G.leT t s
def Gt.zero (G : Gt) : List (List Int) := (List.range G.n).map fun _ => tab (G.K + 1) fun _ => 0
section
variable {G : Gt} (hG : G.Right)
include hG
theorem asks_ok {t : List (List Int)} (ht : G.Tab t) {v i : Nat} (hv : v < G.n) (hi : i < (G.row v).length) : Ok G.K G.mx (G.asks t v i) := ask_ok (hG.ck v hv) hG.mx0 (ht.2 _ (hG.nxt v hv i hi))
theorem dem_ok {t : List (List Int)} (ht : G.Tab t) {v : Nat} (hv : v < G.n) : Ok G.K G.mx (G.dem t v) := by
  obtain ⟨j, h1, h2⟩ := bst_mem (G.mn v) (G.asks t v) _ (hG.pos v hv)
  rw [Gt.dem, h2]; exact asks_ok hG ht hv h1
theorem dem_mono {t s : List (List Int)} (ht : G.Tab t) (hs : G.Tab s) (h : G.leT t s) {v : Nat} (hv : v < G.n) : le (G.dem t v) (G.dem s v) :=
  bst_mono _ (hG.pos v hv) fun j hj => ask_mono (hG.ck v hv) hG.mx0 (ht.2 _ (hG.nxt v hv j hj)) (hs.2 _ (hG.nxt v hv j hj)) (h _ (hG.nxt v hv j hj))
omit hG in
theorem tab_put {t : List (List Int)} (ht : G.Tab t) {v : Nat} (hv : v < G.n) {x : List Int} (hx : Ok G.K G.mx x) : G.Tab (t.set v x) :=
  ⟨by rw [List.length_set]; exact ht.1, fun u hu => by
    rw [gr_set (by rw [ht.1]; exact hv)]
    split
    · exact hx
    · exact ht.2 u hu⟩
theorem low_lift {t : List (List Int)} (h : G.Low t) {v : Nat} (hv : v < G.n) : G.Low (t.set v (G.dem t v)) := by
  refine ⟨tab_put h.1 hv (dem_ok hG h.1 hv), fun s hs u hu => ?_⟩
  rw [gr_set (by rw [h.1.1]; exact hv)]
  split
  · rename_i e; subst e
    exact le_trans (dem_mono hG h.1 hs.1 (h.2 s hs) hu) (hs.2 u hu)
  · exact h.2 s hs u hu
omit hG in
theorem zero_gr {v : Nat} (hv : v < G.n) : gr G.zero v = tab (G.K + 1) fun _ => 0 := by simp [gr, Gt.zero, List.getD_eq_getElem?_getD, hv]
theorem zero_ok : Ok G.K G.mx (tab (G.K + 1) fun _ => 0) := .inr ⟨tab_len _ _, gi_tab _ (by omega), fun i hi => by
  rw [gi_tab _ (by omega)]; exact ⟨Int.le_refl _, hG.mx0 i⟩⟩
theorem zero_low : G.Low G.zero := by
  refine ⟨⟨by simp [Gt.zero], fun v hv => by rw [zero_gr hv]; exact zero_ok hG⟩, fun s hs v hv hl => ?_⟩
  rw [zero_gr hv] at hl
  obtain ⟨i, i1, i2, i3⟩ := (lx_ok (hs.1.2 v hv) (zero_ok hG)).1 hl
  rw [gi_tab _ (by omega)] at i3
  have := ok_nn (hs.1.2 v hv) i
  omega
omit hG in
theorem low_steady {t : List (List Int)} (h : G.Low t) (hs : ∀ v, v < G.n → ¬ lx (gr t v) (G.dem t v)) : G.Least t := ⟨⟨h.1, hs⟩, h.2⟩
omit hG in
theorem least_one {t s : List (List Int)} (ht : G.Least t) (hs : G.Least s) : t = s := by
  have h1 := ht.1.1.1
  have h2 := hs.1.1.1
  refine List.ext_getElem (by omega) fun v a b => ?_
  have := le_anti (ht.2 s hs.1 v (by omega)) (hs.2 t ht.1 v (by omega))
  simpa [gr, List.getD_eq_getElem?_getD, a, b] using this
end
def gapT (B K : Nat) (t : List (List Int)) : Nat → Nat
  | 0 => 0
  | n + 1 => gapT B K t n + gap B K (gr t n)
theorem gapT_set {B K : Nat} {t : List (List Int)} {v : Nat} {x : List Int} (hv : v < t.length) : ∀ n, (n ≤ v → gapT B K (t.set v x) n = gapT B K t n) ∧ (v < n → gapT B K (t.set v x) n + gap B K (gr t v) = gapT B K t n + gap B K x)
  | 0 => ⟨fun _ => rfl, fun h => absurd h (Nat.not_lt_zero _)⟩
  | n + 1 => by
    obtain ⟨h1, h2⟩ := gapT_set (B := B) (K := K) (x := x) hv n
    refine ⟨fun h => ?_, fun h => ?_⟩
    · show gapT B K _ n + gap B K (gr _ n) = gapT B K _ n + _
      rw [h1 (by omega), gr_set hv, if_neg (by omega)]
    · show gapT B K _ n + gap B K (gr _ n) + _ = gapT B K _ n + _ + _
      rw [gr_set hv]
      by_cases e : n = v
      · subst e
        rw [if_pos rfl, h1 (Nat.le_refl _)]; omega
      · rw [if_neg e]
        have := h2 (by omega)
        omega
theorem gapT_lt {G : Gt} {B : Nat} (hB : ∀ i, i < G.K → G.mx i < B) (h1B : 1 < B) {t : List (List Int)} (ht : G.Tab t) {v : Nat} (hv : v < G.n) {x : List Int} (hx : Ok G.K G.mx x) (h : lx (gr t v) x) : gapT B G.K (t.set v x) G.n < gapT B G.K t G.n := by
  have h1 := (gapT_set (B := B) (K := G.K) (x := x) (show v < t.length by rw [ht.1]; exact hv) G.n).2 hv
  have h2 := gap_lt hB h1B (ht.2 v hv) hx h
  omega
theorem least_ex {G : Gt} (hG : G.Right) {B : Nat} (hB : ∀ i, i < G.K → G.mx i < B) (h1B : 1 < B) : ∃ t, G.Least t := by
  have key : ∀ N t, gapT B G.K t G.n = N → G.Low t → ∃ t, G.Least t := by
    intro N
    induction N using Nat.strongRecOn with
    | ind N ih =>
      intro t hN ht
      by_cases h : ∃ v, v < G.n ∧ lx (gr t v) (G.dem t v)
      · obtain ⟨v, hv, h⟩ := h
        exact ih _ (by rw [← hN]; exact gapT_lt hB h1B ht.1 hv (dem_ok hG ht.1 hv) h) _ rfl (low_lift hG ht hv)
      · exact ⟨t, low_steady ht fun v hv hl => h ⟨v, hv, hl⟩⟩
  exact key _ _ rfl (zero_low hG)
noncomputable def Gt.least (G : Gt) : List (List Int) := @dite _ (∃ t, G.Least t) (Classical.propDecidable _) (fun h => Classical.choose h) fun _ => []
theorem least_is {G : Gt} (h : ∃ t, G.Least t) : G.Least G.least := by
  unfold Gt.least
  rw [dif_pos h]
  exact Classical.choose_spec h
theorem least_eq {G : Gt} {t : List (List Int)} (h : G.Least t) : t = G.least := least_one h (least_is ⟨t, h⟩)
end MS
end Go.Proofs.Ytfkiloibifigfaa
