/-
  The exact laws' copies: numbers, lists, arenas, games.
-/
import Derived.Test.YthdioaeekhkgcaaEx1
namespace Go.Proofs.Ythdioaeekhkgcaa
set_option linter.unusedVariables false
set_option linter.unusedSimpArgs false
open Go.RowKit

set_option maxHeartbeats 400000 in
theorem toI_any (sa : Option Addr) (n c : Nat) (xs : List Int) (w : World) (hI : Ints w sa n c xs) (hn : n ≤ 1048576) :
    Calls Try.prog 21 #[.slice sa n c] w (RetI w n xs) := by
  have hmax := hI.max
  have HL := Lib.hid hI.1
  obtain ⟨i0, hi, hz0, hz1, hz2⟩ := info_parts Try.infoI
  go_enter Try.func21, Try.ntmps21
  go_wp2_with (at_make; refine wpList_make_full _ rfl _ _ 22 rfl w.heap.size 2 i0 (.int .i64 0) 1 Try.underlying22 hi hz0 hz1 _ _ _ _ n rfl rfl rfl rfl (by rw [hz2]; omega) (by unfold maxLen; omega) (Nat.le_refl _) ?_)
  intro w1 hown hgrow
  rw [made_ints] at hown
  have ho1 : OwnI w.heap.size w1.heap.size w1 (.slice (some ⟨w.heap.size, 0, none⟩) n n) (tab n fun j => if j < 0 then gi xs j else 0) := by
    have := ownV_of_row hown
    exact this
  have hb1 : Below w.heap.size w w1 := (Below.refl _ _).grown hgrow (Nat.le_refl _) (fun k h => by cases h)
  clear hown hgrow
  go_wp2
  go_loopw [4] (fun i wr => ∃ k : Nat, k ≤ n ∧ i = .int .i64 k ∧ OwnI w.heap.size wr.heap.size wr (.slice (some ⟨w.heap.size, 0, none⟩) n n) (tab n fun j => if j < k then gi xs j else 0) ∧ Below w.heap.size w wr) (fun i _ => n - (intOf i).toNat)
  case atStart => exact ⟨0, by omega, rfl, ho1, hb1⟩
  case round =>
    obtain ⟨k, hk, rfl, ho, hb⟩ := hrel
    by_cases hlt : k < n
    · obtain ⟨b, o, rfl, hbl, hc⟩ := hI.get hlt
      have hck := (bcell hb).1 b (o + k) hbl
      rw [hc k hlt] at hck
      obtain ⟨h1, h2, h3, h4⟩ := ho.cell hlt
      clear hc
      go_wp2
      go_roundw
      case rel =>
        refine ⟨k + 1, by omega, by go_num, ?_, below_set hb (Nat.le_refl _) _⟩
        have := (OwnI.set ho k (gi xs k)).top
        rwa [tab_fill (f := gi xs) (d := fun _ => 0) hlt] at this
      case measure => simp [intOf]; omega
    · go_wp2
      go_ret
      have e : k = n := by omega
      subst e
      refine ⟨HL.out, _, _, rfl, ?_, hb⟩
      have e2 : (tab k fun j => if j < k then gi xs j else 0) = xs := by
        rw [tab_congr (g := gi xs) (fun j hj => if_pos hj), ← HL.out]
        exact tab_self xs
      rwa [e2] at ho

def RetII (w : World) (n : Nat) (xss : List (List Int)) (e : Ending) (w' : World) : Prop :=
  xss.length = n ∧ ∃ sa c, e = .returned (.slice sa n c) ∧ OwnII w.heap.size w'.heap.size w' (.slice sa n c) xss ∧ Below w.heap.size w w'

/-- The first k of a list of slices are there, the rest are nil. -/
def PartR (lo : Nat) (w : World) (v : Value) (n : Nat) (xss : List (List Int)) (k : Nat) (vs : List Value) : Prop :=
  vs.length = k ∧ OwnV 22 lo w.heap.size w v (vs ++ List.replicate (n - k) (.slice none 0 0)) ∧ (∀ i, i < k → OwnI lo w.heap.size w (vs.getD i (.slice none 0 0)) (gr xss i)) ∧ (vs.filterMap blk).Nodup
theorem PartR.below {lo : Nat} {w w' : World} {v : Value} {n : Nat} {xss : List (List Int)} {k : Nat} {vs : List Value} (h : PartR lo w v n xss k vs) (hb : Below w.heap.size w w') : PartR lo w' v n xss k vs :=
  ⟨h.1, (h.2.1.below hb).top, fun i hi => ((h.2.2.1 i hi).below hb).top, h.2.2.2⟩
theorem PartR.mem {lo : Nat} {w : World} {v : Value} {n : Nat} {xss : List (List Int)} {k : Nat} {vs : List Value} (h : PartR lo w v n xss k vs) : ∀ g, g ∈ vs.filterMap blk → lo ≤ g ∧ g < w.heap.size := by
  intro g hg
  obtain ⟨u, hu, e⟩ := List.mem_filterMap.1 hg
  obtain ⟨j, hj, e2⟩ := List.getElem_of_mem hu
  have := h.2.2.1 j (by rw [← h.1]; exact hj)
  rw [List.getD_eq_getElem?_getD, List.getElem?_eq_getElem hj] at this
  simp only [Option.getD_some, e2] at this
  exact this.blks g e
theorem PartR.cell {lo : Nat} {w : World} {g n cap : Nat} {xss : List (List Int)} {k : Nat} {vs : List Value} (h : PartR lo w (.slice (some ⟨g, 0, none⟩) n cap) n xss k vs) (hk : k < n) :
    (∃ u, w.cell? ⟨g, k, none⟩ = some u) ∧ w.frozen? ⟨g, k, none⟩ = false := by
  obtain ⟨g', cap', e, _, _, _, h3, h4⟩ := h.2.1.at (k := k) (.slice none 0 0) (by have := h.1; simp; omega)
  simp only [Value.slice.injEq, Option.some.injEq, Addr.mk.injEq, and_true] at e
  obtain ⟨rfl, _, rfl⟩ := e
  exact ⟨⟨_, h3 k (by have := h.1; simp; omega)⟩, h4 k⟩
/-- A new slice is laid into place k. -/
theorem PartR.step {lo : Nat} {w w1 : World} {g n cap : Nat} {xss : List (List Int)} {k : Nat} {vs : List Value} {u : Value} (h : PartR lo w (.slice (some ⟨g, 0, none⟩) n cap) n xss k vs) (hk : k < n)
    (hb : Below w.heap.size w w1) (hu : OwnI w.heap.size w1.heap.size w1 u (gr xss k)) (hlo : lo ≤ w.heap.size) (hg : g < w.heap.size) :
    PartR lo (w1.setCell ⟨g, k, none⟩ u) (.slice (some ⟨g, 0, none⟩) n cap) n xss (k + 1) (vs ++ [u]) := by
  have h' := h.below hb
  have hne : ∀ x, OwnI lo w1.heap.size w1 x (gr xss k) → blk x ≠ some g := by
    intro x hx e
    have h1 := OwnV.lt hx g e
    rcases hx with ⟨rfl, _⟩ | ⟨g', c', cur, rfl, _, _, hh, _⟩
    · simp [blk, Value.ownBlock] at e
    · simp [blk, Value.ownBlock] at e
      subst e
      rcases h'.2.1 with ⟨hq, _⟩ | ⟨g2, c2, cur2, hq, _, _, hh2, _⟩
      · cases hq
      · simp only [Value.slice.injEq, Option.some.injEq, Addr.mk.injEq, and_true] at hq
        obtain ⟨rfl, _⟩ := hq
        rw [hh] at hh2
        simp at hh2
  have hne' : ∀ (ys : List Int) x, OwnI lo w1.heap.size w1 x ys → blk x ≠ some g := by
    intro ys x hx e
    rcases hx with ⟨rfl, _⟩ | ⟨g', c', cur, rfl, _, _, hh, _⟩
    · simp [blk, Value.ownBlock] at e
    · simp [blk, Value.ownBlock] at e
      subst e
      rcases h'.2.1 with ⟨hq, _⟩ | ⟨g2, c2, cur2, hq, _, _, hh2, _⟩
      · cases hq
      · simp only [Value.slice.injEq, Option.some.injEq, Addr.mk.injEq, and_true] at hq
        obtain ⟨rfl, _⟩ := hq
        rw [hh] at hh2
        simp at hh2
  refine ⟨by simp [h.1], ?_, ?_, ?_⟩
  · have := OwnV.set h'.2.1 k u
    have e : (vs ++ List.replicate (n - k) (Value.slice none 0 0)).set k u = (vs ++ [u]) ++ List.replicate (n - (k + 1)) (.slice none 0 0) := by
      rw [List.set_append, if_neg (by have := h.1; omega), h.1, Nat.sub_self, show n - k = (n - (k + 1)) + 1 by omega, List.replicate_succ, List.set_cons_zero, List.append_assoc]
      rfl
    rw [e] at this
    exact this.top
  · intro i hi
    by_cases e : i = k
    · rw [e]
      have e2 : (vs ++ [u]).getD k (.slice none 0 0) = u := by
        rw [List.getD_eq_getElem?_getD, List.getElem?_append_right (by have := h.1; omega), h.1]; simp
      rw [e2]
      have hu' := hu.mono hlo (Nat.le_refl _)
      exact (OwnV.other hu' (hne' _ _ hu') k u).top
    · have e2 : (vs ++ [u]).getD i (.slice none 0 0) = vs.getD i (.slice none 0 0) := by
        rw [List.getD_eq_getElem?_getD, List.getElem?_append_left (by have := h.1; omega), ← List.getD_eq_getElem?_getD]
      rw [e2]
      have hx := h'.2.2.1 i (by omega)
      exact (OwnV.other hx (hne' _ _ hx) k u).top
  · rw [List.filterMap_append, List.nodup_append]
    refine ⟨h.2.2.2, ?_, ?_⟩
    · cases hq : blk u <;> simp [hq]
    · intro a ha b' hb' e
      subst e
      have h1 := h.mem a ha
      have h2 : blk u = some a := by
        cases hq : blk u with
        | none => simp [hq] at hb'
        | some x => simp [hq] at hb'; rw [hb']
      have := hu.blks a h2
      omega

theorem made_slices (n : Nat) : (madeCells #[Value.slice none 0 0] n).toList = List.replicate n (.slice none 0 0) := by
  apply List.ext_getElem
  · simp [madeCells]
  · intro i h1 h2
    simp [madeCells, Nat.mod_one]

set_option maxHeartbeats 400000 in
theorem toII_any (sa : Option Addr) (n c : Nat) (xss : List (List Int)) (w : World) (hR : Rws w sa n c xss) (hn : n ≤ 1048576) (hl : ∀ k, k < n → (gr xss k).length ≤ 1048576) :
    Calls Try.prog 136 #[.slice sa n c] w (RetII w n xss) := by
  have hmax := hR.max
  have HL := Lib.hid hR.len
  have HN := Lib.hid hl
  clear hl
  obtain ⟨i0, hi, hz0, hz1, hz2⟩ := info_parts Try.infoS
  go_enter Try.func136, Try.ntmps136
  go_wp2_with (at_make; refine wpList_make_full _ rfl _ _ 23 rfl w.heap.size 22 i0 (.slice none 0 0) 1 Try.underlying23 hi hz0 hz1 _ _ _ _ n rfl rfl rfl rfl (by rw [hz2]; omega) (by unfold maxLen; omega) (Nat.le_refl _) ?_)
  intro w1 hown hgrow
  rw [made_slices] at hown
  have hg1 : w.heap.size < w1.heap.size := (hown.lt _ rfl).2
  have ho1 : PartR w.heap.size w1 (.slice (some ⟨w.heap.size, 0, none⟩) n n) n xss 0 [] :=
    ⟨rfl, by simpa using ownV_of_row hown, fun i hi => by omega, by simp⟩
  have hb1 : Below w.heap.size w w1 := (Below.refl _ _).grown hgrow (Nat.le_refl _) (fun k h => by cases h)
  clear hown hgrow
  go_wp2
  go_loopw [4] (fun i wr => ∃ (k : Nat) (vs : List Value), k ≤ n ∧ i = .int .i64 k ∧ PartR w.heap.size wr (.slice (some ⟨w.heap.size, 0, none⟩) n n) n xss k vs ∧ Below w.heap.size w wr ∧ w.heap.size < wr.heap.size) (fun i _ => n - (intOf i).toNat)
  case atStart => exact ⟨0, [], by omega, rfl, ho1, hb1, hg1⟩
  case round =>
    obtain ⟨k, vs, hk, rfl, ho, hb, hg⟩ := hrel
    by_cases hlt : k < n
    · obtain ⟨b, o, rfl, hbl, A, L, C, hc⟩ := hR.get hlt
      have hck := (bcell hb).1 b (o + k) hbl
      obtain ⟨hc1, hc2⟩ := hc k hlt
      rw [hc1] at hck
      have hL : L k ≤ 1048576 := by have := HN.out k hlt; rw [hc2.1] at this; exact this
      have hI := hc2.below hb
      clear hc hc1 hc2
      go_wp2_with (go_at_call 21; refine (toI_any _ _ _ _ _ hI hL).mono ?_; rintro e w2 ⟨hlk, s2, c2, rfl, ho2, hb2⟩; clear hlk; have hP := ho.below hb2; have hq := hP.cell hlt; obtain ⟨⟨q, hq1⟩, hq2⟩ := hq)
      go_roundw
      case rel =>
        exact ⟨k + 1, vs ++ [_], by omega, by go_num, ho.step hlt hb2 ho2 (by omega) hg, below_set (hb.trans (hb2.mono hb.size)) (Nat.le_refl _) _, by rw [World.size_setCell]; exact Nat.lt_of_lt_of_le hg hb2.size⟩
      case measure => simp [intOf]; omega
    · go_wp2
      go_ret
      have e : k = n := by omega
      subst e
      refine ⟨HL.out, _, _, rfl, ⟨vs, ?_, ?_, ?_, ho.2.2.2⟩, hb⟩
      · rw [ho.1, HL.out]
      · simpa using ho.2.1
      · intro i hi; exact ho.2.2.1 i (by rw [HL.out] at hi; exact hi)
/-- A pair's leaves are in different blocks. -/
theorem nodup_cons {lo m hi : Nat} {u : Value} {vs : List Value} (hu : ∀ g, blk u = some g → g < m) (hv : ∀ g, g ∈ vs.filterMap blk → m ≤ g) (hn : (vs.filterMap blk).Nodup) : ((u :: vs).filterMap blk).Nodup := by
  cases hq : blk u with
  | none => rw [List.filterMap_cons_none hq]; exact hn
  | some g =>
    rw [List.filterMap_cons_some hq, List.nodup_cons]
    exact ⟨fun hm => by have := hu g hq; have := hv g hm; omega, hn⟩
theorem nodup_cons' {m : Nat} {u : Value} {vs : List Value} (hu : ∀ g, blk u = some g → m ≤ g) (hv : ∀ g, g ∈ vs.filterMap blk → g < m) (hn : (vs.filterMap blk).Nodup) : ((u :: vs).filterMap blk).Nodup := by
  cases hq : blk u with
  | none => rw [List.filterMap_cons_none hq]; exact hn
  | some g =>
    rw [List.filterMap_cons_some hq, List.nodup_cons]
    exact ⟨fun hm => by have := hu g hq; have := hv g hm; omega, hn⟩

def RetA (w : World) (a : Ar) (e : Ending) (w' : World) : Prop := ∃ s1 n1 c1 s2 n2 c2, e = .returned (.agg #[.slice s1 n1 c1, .slice s2 n2 c2]) ∧ OwnA w.heap.size w'.heap.size w' (.agg #[.slice s1 n1 c1, .slice s2 n2 c2]) a ∧ Below w.heap.size w w'
def RetP (w : World) (g : Pa) (e : Ending) (w' : World) : Prop := ∃ s1 n1 c1 s2 n2 c2 s3 n3 c3, e = .returned (.agg #[.slice s1 n1 c1, .slice s2 n2 c2, .slice s3 n3 c3]) ∧ OwnP w.heap.size w'.heap.size w' (.agg #[.slice s1 n1 c1, .slice s2 n2 c2, .slice s3 n3 c3]) g ∧ Below w.heap.size w w'

set_option maxHeartbeats 1000000 in
theorem toA_any (v : Value) (a : Ar) (w : World) (hA : IsA w v a) (hn : szA a ≤ 1048576) :
    Calls Try.prog 68 #[v] w (RetA w a) := by
  obtain ⟨_, _, rfl, ⟨s1, n1, c1, rfl, h1⟩, ⟨s2, n2, c2, rfl, h2⟩⟩ := hA
  have hl1 : n1 ≤ 1048576 := by have := h1.1; unfold szA at hn; omega
  have hl2 : n2 ≤ 1048576 := by have := h2.len; unfold szA szII at hn; omega
  have hl3 : ∀ k, k < n2 → (gr a.nxt k).length ≤ 1048576 := fun k hk => by
    have := psum_mono a.nxt (j := k + 1) (k := a.nxt.length) (by have := h2.len; omega)
    unfold szA szII at hn; simp only [psum] at this; omega
  have HL := Lib.hid hl3
  clear hl3 hn
  go_enter Try.func68, Try.ntmps68
  go_wp2_with (first
    | (go_at_call 21; refine (toI_any _ _ _ _ _ (((h1.alloc _).alloc _).alloc _) hl1).mono ?_; rintro e w2 ⟨hlk, s3, c3, rfl, ho2, hb2⟩; clear hlk; have hcf := bcell hb2; obtain ⟨hcell2, hfr2⟩ := hcf; have hz2 := hb2.size; simp only [World.size_alloc, World.size_setCell, World.size_drew] at hz2; have hz2a : w.heap.size < w2.heap.size := (by omega); have hz2b : w.heap.size + 1 < w2.heap.size := (by omega); have hz2c : w.heap.size + 1 + 1 < w2.heap.size := (by omega))
    | (go_at_call 136; refine (toII_any _ _ _ _ _ (h2.below (by repeat' (first | (with_reducible exact Below.refl _ _) | (with_reducible assumption) | (with_reducible apply below_set) | (with_reducible apply Below.alloc) | (with_reducible apply Below.drew) | (with_reducible apply below_drawn) | (with_reducible refine Below.trans ?_ (Below.mono (by assumption) ?_)) | omega | (simp only [World.size_alloc, World.size_setCell, World.size_drew]; omega)))) hl2 HL.out).mono ?_; rintro e w3 ⟨hlk, s4, c4, rfl, ho3, hb3⟩; clear hlk; have hcf3 := bcell hb3; obtain ⟨hcell3, hfr3⟩ := hcf3; have hz3 := hb3.size; simp only [World.size_alloc, World.size_setCell, World.size_drew] at hz3; have hz3a : w.heap.size < w3.heap.size := (by omega); have hz3b : w.heap.size + 1 < w3.heap.size := (by omega); have hz3c : w.heap.size + 1 + 1 < w3.heap.size := (by omega)))
  refine bodyPost_ret (v := .agg #[.slice s3 n1 c3, .slice s4 n2 c4]) (by simp [results, Try.results68, go_sem, hcell3, hfr3, hcell2, hfr2, hz2a, hz2b, hz2c, hz3a, hz3b, hz3c]) rfl ?_
  obtain ⟨vs, ho3⟩ := ho3
  refine ⟨_, _, _, _, _, _, rfl, ⟨_, _, vs, rfl, ?_, ?_, ?_⟩, ?_⟩
  · exact ho2.final (by repeat' (first | (with_reducible exact Kept.refl _ _ _) | (with_reducible apply Kept.set) | (with_reducible apply Kept.alloc) | (with_reducible apply Kept.drew) | (with_reducible apply Kept.drewN) | (with_reducible refine Kept.below ?_ (by assumption)) | omega | (simp only [World.size_alloc, World.size_setCell, World.size_drew]; omega))) (by first | omega | (simp only [World.size_alloc, World.size_setCell, World.size_drew]; omega))
  · exact ho3.final (by repeat' (first | (with_reducible exact Kept.refl _ _ _) | (with_reducible apply Kept.set) | (with_reducible apply Kept.alloc) | (with_reducible apply Kept.drew) | (with_reducible apply Kept.drewN) | (with_reducible refine Kept.below ?_ (by assumption)) | omega | (simp only [World.size_alloc, World.size_setCell, World.size_drew]; omega))) (by first | omega | (simp only [World.size_alloc, World.size_setCell, World.size_drew]; omega))
  · exact nodup_cons (m := w2.heap.size) (lo := 0) (hi := 0) (fun g hg => (ho2.blks g hg).2) (fun g hg => by have := (ho3.blks g hg).1; rw [World.size_setCell] at this; exact this) ho3.2.2.2
  · exact (by repeat' (first | (with_reducible exact Below.refl _ _) | (with_reducible assumption) | (with_reducible apply below_set) | (with_reducible apply Below.alloc) | (with_reducible apply Below.drew) | (with_reducible apply below_drawn) | (with_reducible refine Below.trans ?_ (Below.mono (by assumption) ?_)) | omega | (simp only [World.size_alloc, World.size_setCell, World.size_drew]; omega)))

set_option maxHeartbeats 1000000 in
theorem toP_any (v : Value) (g : Pa) (w : World) (hP : IsP w v g) (hn : szP g ≤ 1048576) :
    Calls Try.prog 17 #[v] w (RetP w g) := by
  obtain ⟨_, _, _, rfl, ⟨s1, n1, c1, rfl, h1⟩, ⟨s2, n2, c2, rfl, h2⟩, ⟨s3, n3, c3, rfl, h3⟩⟩ := hP
  have hl1 : szA g.ar ≤ 1048576 := by unfold szP at hn; omega
  have hl3 : n3 ≤ 1048576 := by have := h3.1; unfold szP at hn; omega
  have hA : IsA w (.agg #[.slice s1 n1 c1, .slice s2 n2 c2]) g.ar := ⟨_, _, rfl, h1.is, h2.is⟩
  clear hn
  go_enter Try.func17, Try.ntmps17
  go_wp2_with fail
  refine (toA_any _ _ _ (hA.below (by repeat' (first | (with_reducible exact Below.refl _ _) | (with_reducible assumption) | (with_reducible apply below_set) | (with_reducible apply Below.alloc) | (with_reducible apply Below.drew) | (with_reducible apply below_drawn) | (with_reducible refine Below.trans ?_ (Below.mono (by assumption) ?_)) | omega | (simp only [World.size_alloc, World.size_setCell, World.size_drew]; omega)))) hl1).mono ?_
  rintro e w2 ⟨t1, m1, d1, t2, m2, d2, rfl, ho2, hb2⟩
  have hcf := bcell hb2
  obtain ⟨hcell2, hfr2⟩ := hcf
  have hz2 := hb2.size
  simp only [World.size_alloc, World.size_setCell, World.size_drew] at hz2
  have hz2a : w.heap.size < w2.heap.size := (by omega)
  have hz2b : w.heap.size + 1 < w2.heap.size := (by omega)
  have hz2c : w.heap.size + 1 + 1 < w2.heap.size := (by omega)
  have ho2' := ho2
  obtain ⟨_, _, vs, e, ha, hb, hd⟩ := ho2'
  simp only [Value.agg.injEq, Array.mk.injEq, List.cons.injEq, and_true] at e
  obtain ⟨rfl, rfl⟩ := e
  go_wp2_with fail
  refine (toI_any _ _ _ _ _ (h3.below (by repeat' (first | (with_reducible exact Below.refl _ _) | (with_reducible assumption) | (with_reducible apply below_set) | (with_reducible apply Below.alloc) | (with_reducible apply Below.drew) | (with_reducible apply below_drawn) | (with_reducible refine Below.trans ?_ (Below.mono (by assumption) ?_)) | omega | (simp only [World.size_alloc, World.size_setCell, World.size_drew]; omega)))) hl3).mono ?_
  rintro e w3 ⟨hlk, s4, c4, rfl, ho3, hb3⟩
  clear hlk
  have hcf3 := bcell hb3
  obtain ⟨hcell3, hfr3⟩ := hcf3
  have hz3 := hb3.size
  simp only [World.size_alloc, World.size_setCell, World.size_drew] at hz3
  have hz3a : w.heap.size < w3.heap.size := (by omega)
  have hz3b : w.heap.size + 1 < w3.heap.size := (by omega)
  have hz3c : w.heap.size + 1 + 1 < w3.heap.size := (by omega)
  go_wp2_with fail
  refine bodyPost_ret (v := .agg #[.slice t1 m1 d1, .slice t2 m2 d2, .slice s4 n3 c4]) (by simp [results, Try.results17, go_sem, hcell3, hfr3, hcell2, hfr2, hz2a, hz2b, hz2c, hz3a, hz3b, hz3c]) rfl ?_
  refine ⟨_, _, _, _, _, _, _, _, _, rfl, ⟨_, _, _, vs, rfl, ?_, ?_, ?_, ?_⟩, ?_⟩
  · exact ha.final (by repeat' (first | (with_reducible exact Kept.refl _ _ _) | (with_reducible apply Kept.set) | (with_reducible apply Kept.alloc) | (with_reducible apply Kept.drew) | (with_reducible apply Kept.drewN) | (with_reducible refine Kept.below ?_ (by assumption)) | omega | (simp only [World.size_alloc, World.size_setCell, World.size_drew]; omega))) (by first | omega | (simp only [World.size_alloc, World.size_setCell, World.size_drew]; omega))
  · exact hb.final (by repeat' (first | (with_reducible exact Kept.refl _ _ _) | (with_reducible apply Kept.set) | (with_reducible apply Kept.alloc) | (with_reducible apply Kept.drew) | (with_reducible apply Kept.drewN) | (with_reducible refine Kept.below ?_ (by assumption)) | omega | (simp only [World.size_alloc, World.size_setCell, World.size_drew]; omega))) (by first | omega | (simp only [World.size_alloc, World.size_setCell, World.size_drew]; omega))
  · exact ho3.final (by repeat' (first | (with_reducible exact Kept.refl _ _ _) | (with_reducible apply Kept.set) | (with_reducible apply Kept.alloc) | (with_reducible apply Kept.drew) | (with_reducible apply Kept.drewN) | (with_reducible refine Kept.below ?_ (by assumption)) | omega | (simp only [World.size_alloc, World.size_setCell, World.size_drew]; omega))) (by first | omega | (simp only [World.size_alloc, World.size_setCell, World.size_drew]; omega))
  · have := nodup_cons' (m := w2.heap.size) (u := .slice s4 n3 c4) (vs := .slice t1 m1 d1 :: vs) (fun g hg => by have := (ho3.blks g hg).1; simp only [World.size_setCell] at this; exact this) (fun g hg => by
      rcases List.mem_filterMap.1 hg with ⟨u, hu, e⟩
      rcases List.mem_cons.1 hu with rfl | hu
      · exact (ha.blks g e).2
      · exact (hb.blks g (List.mem_filterMap.2 ⟨u, hu, e⟩)).2) hd
    exact this.perm (List.Perm.filterMap _ (List.Perm.swap _ _ _))
  · exact (by repeat' (first | (with_reducible exact Below.refl _ _) | (with_reducible assumption) | (with_reducible apply below_set) | (with_reducible apply Below.alloc) | (with_reducible apply Below.drew) | (with_reducible apply below_drawn) | (with_reducible refine Below.trans ?_ (Below.mono (by assumption) ?_)) | omega | (simp only [World.size_alloc, World.size_setCell, World.size_drew]; omega)))
end Go.Proofs.Ythdioaeekhkgcaa
