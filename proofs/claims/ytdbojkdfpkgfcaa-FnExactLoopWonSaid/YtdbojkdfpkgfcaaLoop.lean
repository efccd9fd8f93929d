/-
  LoopWon: the program's and the reference's.
-/
import Derived.Test.YtdbojkdfpkgfcaaSetC
import Derived.Test.YtdbojkdfpkgfcaaPok
namespace Go.Proofs.Ytdbojkdfpkgfcaa
set_option linter.unusedVariables false
set_option linter.unusedSimpArgs false
open Go.RowKit
attribute [local go_sem ↓] Go.wp_at_zero Go.wp_at_succ

/-- Who wins a vertex by its own edge. -/
def LoopIs (g : Pa) (v : Nat) : Prop := (v : Int) ∈ gr g.ar.nxt v ∧ (gi g.ar.own v = gi g.prio v % 2 ∨ (gr g.ar.nxt v).length = 1)
noncomputable def loopAt (g : Pa) (v : Nat) : Int := @ite _ (LoopIs g v) (Classical.propDecidable _) (gi g.prio v % 2) (-1)
theorem loopAt_yes {g : Pa} {v : Nat} (h : LoopIs g v) : loopAt g v = gi g.prio v % 2 := if_pos h
theorem loopAt_no {g : Pa} {v : Nat} (h : ¬ LoopIs g v) : loopAt g v = -1 := if_neg h

set_option maxHeartbeats 1000000 in
theorem l12Loop_s (u : Value) (g : Pa) (v : Nat) (w : World) (hP : IsP w u g) (hg : PaOk g) (hv : v < g.prio.length) : Calls Try.prog 79 #[u, .int .i64 v] w (Bi w (loopAt g v)) := by
  obtain ⟨_, _, _, rfl, ⟨s1, n1, c1, rfl, h1⟩, ⟨s2, n2, c2, rfl, h2⟩, ⟨s3, n3, c3, rfl, h3⟩⟩ := hP
  have hm2 := h2.max
  have H1 := Lib.hid h1.1
  have H2 := Lib.hid h2.len
  have H3 := Lib.hid h3.1
  have e1 : v < n1 := by have := hg.len; have := H1.out; omega
  have e2 : v < n2 := by have := hg.len; have := hg.ar.len; have := H2.out; omega
  have e3 : v < n3 := by have := H3.out; omega
  obtain ⟨b1, o1, rfl, hb1, hc1⟩ := h1.get e1
  obtain ⟨b2, o2, rfl, hb2, A, L, C, hc2⟩ := h2.get e2
  obtain ⟨b3, o3, rfl, hb3, hc3⟩ := h3.get e3
  have q1 := hc1 v e1
  obtain ⟨q2, hI⟩ := hc2 v e2
  have q3 := hc3 v e3
  have hlm := hI.max
  have HL := Lib.hid hI.1
  have hp := (hg.prio v hv).1
  have hL : 1 ≤ L v := by have := (hg.ar.vert v (by have := hg.len; omega)).2.2.1; have := HL.out; omega
  clear hc1 hc2 hc3 hv hg
  rcases tf_cases ((v : Int) ∈ gr g.ar.nxt v) with ⟨k1, x1⟩ | ⟨k1, x1⟩
  · rcases ne_cases (gi g.ar.own v) (gi g.prio v % 2) with ⟨d1, d2, x2⟩ | ⟨d1, d2, x2⟩
    · rw [loopAt_yes (show LoopIs g v from ⟨x1.out, Or.inl x2.out⟩)]
      go_enter Try.func79, Try.ntmps79
      go_wp2_with (go_at_call 108; refine (l7HasIn_any _ _ _ _ _ _ (hI.alloc _)).mono ?_; rw [k1.out]; rintro e w2 ⟨rfl, rfl⟩)
      go_ret
      exact ⟨rfl, (by repeat' (first | (with_reducible exact Below.refl _ _) | (with_reducible apply Below.alloc) | (with_reducible apply Below.drew) | (with_reducible apply below_drawn) | omega | (simp only [World.size_alloc, World.size_setCell, World.size_drew]; omega)))⟩
    · by_cases hl : L v = 1
      · rw [loopAt_yes (show LoopIs g v from ⟨x1.out, Or.inr (by rw [HL.out]; exact hl)⟩)]
        have hl' : ¬ 1 < L v := by omega
        clear hl
        go_enter Try.func79, Try.ntmps79
        go_wp2_with (go_at_call 108; refine (l7HasIn_any _ _ _ _ _ _ (hI.alloc _)).mono ?_; rw [k1.out]; rintro e w2 ⟨rfl, rfl⟩)
        go_ret
        exact ⟨rfl, (by repeat' (first | (with_reducible exact Below.refl _ _) | (with_reducible apply Below.alloc) | (with_reducible apply Below.drew) | (with_reducible apply below_drawn) | omega | (simp only [World.size_alloc, World.size_setCell, World.size_drew]; omega)))⟩
      · rw [loopAt_no (show ¬ LoopIs g v from fun h => h.2.elim x2.out (fun h => hl (by rw [← HL.out]; exact h)))]
        have hl' : 1 < L v := by omega
        clear hl
        go_enter Try.func79, Try.ntmps79
        go_wp2_with (go_at_call 108; refine (l7HasIn_any _ _ _ _ _ _ (hI.alloc _)).mono ?_; rw [k1.out]; rintro e w2 ⟨rfl, rfl⟩)
        go_ret
        exact ⟨rfl, (by repeat' (first | (with_reducible exact Below.refl _ _) | (with_reducible apply Below.alloc) | (with_reducible apply Below.drew) | (with_reducible apply below_drawn) | omega | (simp only [World.size_alloc, World.size_setCell, World.size_drew]; omega)))⟩
  · rw [loopAt_no (show ¬ LoopIs g v from fun h => x1.out h.1)]
    go_enter Try.func79, Try.ntmps79
    go_wp2_with (go_at_call 108; refine (l7HasIn_any _ _ _ _ _ _ (hI.alloc _)).mono ?_; rw [k1.out]; rintro e w2 ⟨rfl, rfl⟩)
    go_ret
    exact ⟨rfl, (by repeat' (first | (with_reducible exact Below.refl _ _) | (with_reducible apply Below.alloc) | (with_reducible apply Below.drew) | (with_reducible apply below_drawn) | omega | (simp only [World.size_alloc, World.size_setCell, World.size_drew]; omega)))⟩

noncomputable def loopL (g : Pa) : List Int := @ite _ (PaOk g) (Classical.propDecidable _) (tab g.prio.length (loopAt g)) []
theorem loopL_ok {g : Pa} (h : PaOk g) : loopL g = tab g.prio.length (loopAt g) := if_pos h
theorem loopL_no {g : Pa} (h : ¬ PaOk g) : loopL g = [] := if_neg h

theorem loopL_len (g : Pa) : (loopL g).length ≤ 1048576 := by
  by_cases h : PaOk g
  · rw [loopL_ok h, tab_len]; have := h.len; have := h.ar.le; omega
  · rw [loopL_no h]; simp

set_option maxHeartbeats 1000000 in
theorem loopWon_s (v : Value) (g : Pa) (w : World) (hP : IsP w v g) : Calls Try.prog 33 #[v] w (RetI' w (loopL g)) := by
  have hP0 := hP
  obtain ⟨_, _, _, rfl, ⟨s1, n1, c1, rfl, h1⟩, ⟨s2, n2, c2, rfl, h2⟩, ⟨s3, n3, c3, rfl, h3⟩⟩ := hP
  have hm3 := h3.max
  by_cases hg : PaOk g
  · have k1 := tf_true hg
    rw [loopL_ok hg]
    have G := Lib.hid hg
    have hle : n3 ≤ 256 := by have := hg.ar.le; have := hg.len; have := h3.1; omega
    have H3 := Lib.hid h3.1
    clear hg
    go_enter Try.func33, Try.ntmps33
    go_wp2
    generalize hqw1 : w.alloc (.cells #[.slice s1 n1 c1, .slice s2 n2 c2, .slice s3 n3 c3] 32) = w1
    have hbw : Below w.heap.size w w1 := by rw [← hqw1]; exact (by repeat' (first | (with_reducible exact Below.refl _ _) | (with_reducible apply Below.alloc) | (with_reducible apply Below.drew) | (with_reducible apply below_drawn) | omega | (simp only [World.size_alloc, World.size_setCell, World.size_drew]; omega)))
    have hew1 := Lib.hid (show w1.heap.size = w.heap.size + 1 by rw [← hqw1]; simp)
    have hsw : w.heap.size + 1 ≤ w1.heap.size := by rw [← hqw1]; simp only [World.size_alloc]; omega
    have hswa : w.heap.size < w1.heap.size := by omega
    have b0_0 : w1.cell? ⟨w.heap.size, 0, none⟩ = some (.slice s1 n1 c1) := by rw [← hqw1]; simp
    have b0_1 : w1.cell? ⟨w.heap.size, 1, none⟩ = some (.slice s2 n2 c2) := by rw [← hqw1]; simp
    have b0_2 : w1.cell? ⟨w.heap.size, 2, none⟩ = some (.slice s3 n3 c3) := by rw [← hqw1]; simp
    clear hqw1
    go_loopw [3, 4] (fun v i wr => ∃ (k c : Nat) (sa : Option Addr), k ≤ n3 ∧ i = .int .i64 k ∧ v = .slice sa k c ∧ OwnI w1.heap.size wr.heap.size wr (.slice sa k c) (tab k (loopAt g)) ∧ Below w1.heap.size w1 wr) (fun _ i _ => n3 - (intOf i).toNat)
    case atStart => exact ⟨0, 0, _, by omega, rfl, rfl, by rw [← hew1.out]; exact own_nil _ _ 0 (Nat.le_refl _), below_alloc _ _⟩
    case round =>
      obtain ⟨k, c, sa, hk, rfl, rfl, ho, hb⟩ := hrel
      have hBwr : Below w1.heap.size w1 (wr) := (by repeat' (first | (with_reducible exact Below.refl _ _) | (with_reducible assumption) | (with_reducible apply below_set) | (with_reducible apply Below.alloc) | (with_reducible apply Below.drew) | (with_reducible apply below_drawn) | (with_reducible refine Below.trans ?_ (Below.mono (by assumption) ?_)) | omega | (simp only [World.size_alloc, World.size_setCell, World.size_drew]; omega)))
      replace b0_0 := cell_b b0_0 hBwr
      replace b0_1 := cell_b b0_1 hBwr
      replace b0_2 := cell_b b0_2 hBwr
      replace hbw : Below w.heap.size w (wr) := hbw.trans (hBwr.mono hbw.size)
      clear hBwr
      by_cases hlt : k < n3
      · have hlt' : Hid (k < g.prio.length) := by rw [H3.out]; exact hlt
        go_wp2_with (go_at_call 60; refine (paOk_s _ _ _ (hP0.below hbw)).mono ?_; rw [k1]; rintro e w2 ⟨rfl, hb2⟩; replace b0_0 := cell_b b0_0 hb2; replace b0_1 := cell_b b0_1 hb2; replace b0_2 := cell_b b0_2 hb2)
        have hz2 := hb2.size
        go_wp2_with fail
        refine (l12Loop_s _ g k _ (hP0.below (hbw.trans (hb2.mono hbw.size))) G.out hlt'.out).mono ?_
        rintro e w3 ⟨rfl, hb3⟩
        have hz3 := hb3.size
        go_wp2_with (at_builtin; refine app_int rfl _ _ rfl rfl (OwnI.alloc ((ho.below hb2).below hb3) _) (loopAt g k) _ _ rfl (by simp) (by simp; omega) (by have := hb.size; simp; omega) ?_; intro sa' c' w4 ho4 hO4)
        go_roundw
        case rel =>
          rw [tab_len] at *
          exact ⟨k + 1, c', sa', by omega, by go_num, rfl, by rwa [← tab_succ (f := loopAt g)] at ho4, bel_app ((hb.trans (hb2.mono hb.size)).trans (hb3.mono (Nat.le_trans hb.size hz2))) hO4⟩
        case measure => simp [intOf]; omega
      · go_wp2_with (go_at_call 60; refine (paOk_s _ _ _ (hP0.below hbw)).mono ?_; rw [k1]; rintro e w2 ⟨rfl, hb2⟩; replace b0_0 := cell_b b0_0 hb2; replace b0_1 := cell_b b0_1 hb2; replace b0_2 := cell_b b0_2 hb2)
        go_ret
        have e : k = n3 := by omega
        subst e
        have hz2 := hb2.size
        exact ⟨_, _, _, rfl, by rw [H3.out]; exact ((ho.below hb2).mono (by omega) (Nat.le_refl _)).top, hbw.trans (hb2.mono hbw.size)⟩
  · have k1 := tf_false hg
    rw [loopL_no hg]
    clear hg
    go_enter Try.func33, Try.ntmps33
    go_wp2
    refine wp_loop_once ?_
    go_wp2_with (go_at_call 60; refine (paOk_s _ _ _ (hP0.below (by repeat' (first | (with_reducible exact Below.refl _ _) | (with_reducible assumption) | (with_reducible apply below_set) | (with_reducible apply Below.alloc) | (with_reducible apply Below.drew) | (with_reducible apply below_drawn) | (with_reducible refine Below.trans ?_ (Below.mono (by assumption) ?_)) | omega | (simp only [World.size_alloc, World.size_setCell, World.size_drew]; omega))))).mono ?_; rw [k1]; rintro e w2 ⟨rfl, hb2⟩)
    go_ret
    have ho := own_nil (w.alloc (.cells #[.slice s1 n1 c1, .slice s2 n2 c2, .slice s3 n3 c3] 32)).heap.size (w.alloc (.cells #[.slice s1 n1 c1, .slice s2 n2 c2, .slice s3 n3 c3] 32)) 0 (Nat.le_refl _)
    have hz2 := hb2.size
    simp only [World.size_alloc] at hz2 ho
    exact ⟨_, _, _, rfl, (OwnI.below ho hb2).top.mono (by omega) (Nat.le_refl _), (by repeat' (first | (with_reducible exact Below.refl _ _) | (with_reducible assumption) | (with_reducible apply below_set) | (with_reducible apply Below.alloc) | (with_reducible apply Below.drew) | (with_reducible apply below_drawn) | (with_reducible refine Below.trans ?_ (Below.mono (by assumption) ?_)) | omega | (simp only [World.size_alloc, World.size_setCell, World.size_drew]; omega)))⟩

set_option maxHeartbeats 1000000 in
theorem loopWon0_i (v : Value) (g : Pa) (w : World) (hP : IsP w v g) (hg : PaOk g) : Calls Try.prog 80 #[v] w (RetI' w (tab g.prio.length (loopAt g))) := by
  have hP0 := hP
  obtain ⟨_, _, _, rfl, ⟨s1, n1, c1, rfl, h1⟩, ⟨s2, n2, c2, rfl, h2⟩, ⟨s3, n3, c3, rfl, h3⟩⟩ := hP
  have hA : IsA w (.agg #[.slice s1 n1 c1, .slice s2 n2 c2]) g.ar := ⟨_, _, rfl, h1.is, h2.is⟩
  have hm2 := h2.max
  have H1 := Lib.hid h1.1
  have H2 := Lib.hid h2.len
  have H3 := Lib.hid h3.1
  have e1 : n1 = n2 := by have := hg.ar.len; have := H1.out; have := H2.out; omega
  have e3 : n3 = n2 := by have := hg.len; have := hg.ar.len; have := H1.out; have := H2.out; have := H3.out; omega
  subst e1 e3
  have hle : n3 ≤ 256 := by have := hg.ar.le; have := H1.out; omega
  have hle' : Hid (g.ar.own.length ≤ 1048576) := by have := hg.ar.le; show _ ≤ _; omega
  have G := Lib.hid hg
  clear hg
  go_enter Try.func80, Try.ntmps80
  go_wp2_with fail
  generalize hqw1 : w.alloc (.cells #[.slice s1 n3 c1, .slice s2 n3 c2, .slice s3 n3 c3] 32) = w1
  have hbw : Below w.heap.size w w1 := by rw [← hqw1]; exact (by repeat' (first | (with_reducible exact Below.refl _ _) | (with_reducible apply Below.alloc) | (with_reducible apply Below.drew) | (with_reducible apply below_drawn) | omega | (simp only [World.size_alloc, World.size_setCell, World.size_drew]; omega)))
  have hew1 := Lib.hid (show w1.heap.size = w.heap.size + 1 by rw [← hqw1]; simp)
  have hsw : w.heap.size + 1 ≤ w1.heap.size := by rw [← hqw1]; simp only [World.size_alloc]; omega
  have hswa : w.heap.size < w1.heap.size := by omega
  have b0_0 : w1.cell? ⟨w.heap.size, 0, none⟩ = some (.slice s1 n3 c1) := by rw [← hqw1]; simp
  have b0_1 : w1.cell? ⟨w.heap.size, 1, none⟩ = some (.slice s2 n3 c2) := by rw [← hqw1]; simp
  have b0_2 : w1.cell? ⟨w.heap.size, 2, none⟩ = some (.slice s3 n3 c3) := by rw [← hqw1]; simp
  clear hqw1
  refine (noPlan_i _ _ _ (hA.below hbw) hle'.out).mono ?_
  rintro e w2 ⟨s4, n4, c4, rfl, ho2, hb2⟩
  have hl4 := ho2.len
  rw [tab_len, H1.out] at hl4
  subst hl4
  rw [H1.out] at ho2
  have hz2 := hb2.size
  have hBw2 : Below w1.heap.size w1 (w2) := (by repeat' (first | (with_reducible exact Below.refl _ _) | (with_reducible assumption) | (with_reducible apply below_set) | (with_reducible apply Below.alloc) | (with_reducible apply Below.drew) | (with_reducible apply below_drawn) | (with_reducible refine Below.trans ?_ (Below.mono (by assumption) ?_)) | omega | (simp only [World.size_alloc, World.size_setCell, World.size_drew]; omega)))
  replace b0_0 := cell_b b0_0 hBw2
  replace b0_1 := cell_b b0_1 hBw2
  replace b0_2 := cell_b b0_2 hBw2
  replace hbw : Below w.heap.size w (w2) := hbw.trans (hBw2.mono hbw.size)
  clear hBw2
  go_wp2_with fail
  go_loopw [14] (fun i wr => ∃ k : Nat, k ≤ n3 ∧ i = .int .i64 k ∧ OwnI w1.heap.size wr.heap.size wr (.slice s4 n3 c4) (tab n3 fun j => if j < k then loopAt g j else -1) ∧ Below w1.heap.size w2 wr) (fun i _ => n3 - (intOf i).toNat)
  case atStart => exact ⟨0, by omega, rfl, by rwa [tab_congr (g := fun _ => -1) (fun j hj => if_neg (by omega))], Below.refl _ _⟩
  case round =>
    obtain ⟨k, hk, rfl, ho, hb⟩ := hrel
    replace b0_0 := cell_l b0_0 hb (by omega)
    replace b0_1 := cell_l b0_1 hb (by omega)
    replace b0_2 := cell_l b0_2 hb (by omega)
    replace hbw := hbw.trans (hb.mono (by omega))
    by_cases hlt : k < n3
    · obtain ⟨ba, oa, rfl, hba, hca⟩ := (h1.below hbw).get hlt
      obtain ⟨bb, ob, rfl, hbb, A, L, C, hcb⟩ := (h2.below hbw).get hlt
      obtain ⟨bp, op, rfl, hbp, hcp⟩ := (h3.below hbw).get hlt
      have q1 := hca k hlt
      obtain ⟨q2, hI⟩ := hcb k hlt
      have q3 := hcp k hlt
      have hlm := hI.max
      have HL := Lib.hid hI.1
      have hp := (G.out.prio k (by rw [H3.out]; exact hlt)).1
      have hL : 1 ≤ L k := by have := (G.out.ar.vert k (by rw [H1.out]; exact hlt)).2.2.1; have := HL.out; omega
      obtain ⟨g4, cap4, e4, _⟩ := ho.at (k := k) (by simpa using hlt)
      injection e4 with e41 e42 e43
      clear e42
      subst e41 e43
      obtain ⟨r1, r2, r3, r4⟩ := ho.cell hlt
      clear hca hcb hcp
      have hset : ∀ x, loopAt g k = x → OwnI w1.heap.size (wr.setCell ⟨g4, k, none⟩ (.int .i64 x)).heap.size (wr.setCell ⟨g4, k, none⟩ (.int .i64 x)) (.slice (some ⟨g4, 0, none⟩) n3 c4) (tab n3 fun j => if j < k + 1 then loopAt g j else -1) := fun x hx => by
        have := (OwnI.set ho k x).top
        rw [← hx] at this ⊢
        rwa [tab_fill (f := loopAt g) (d := fun _ => -1) hlt] at this
      have hsame : loopAt g k = -1 → OwnI w1.heap.size wr.heap.size wr (.slice (some ⟨g4, 0, none⟩) n3 c4) (tab n3 fun j => if j < k + 1 then loopAt g j else -1) := fun hx => by
        rwa [tab_congr (g := fun j => if j < k then loopAt g j else -1) (fun j hj => by
          by_cases e : j = k
          · subst e; rw [if_pos (by omega), if_neg (by omega), hx]
          · by_cases h : j < k
            · rw [if_pos h, if_pos (by omega)]
            · rw [if_neg h, if_neg (by omega)])]
      have HSET := Lib.hid hset
      have HSAME := Lib.hid hsame
      clear hset hsame
      rcases tf_cases ((k : Int) ∈ gr g.ar.nxt k) with ⟨k1, x1⟩ | ⟨k1, x1⟩
      · rcases ne_cases (gi g.ar.own k) (gi g.prio k % 2) with ⟨d1, d2, x2⟩ | ⟨d1, d2, x2⟩
        · have hy := Lib.hid (loopAt_yes (show LoopIs g k from ⟨x1.out, Or.inl x2.out⟩))
          go_wp2_with (go_at_call 110; refine (contains_any _ _ _ _ _ _ hI).mono ?_; rw [k1.out]; rintro e w3 ⟨rfl, rfl⟩)
          go_roundw
          case rel => exact ⟨k + 1, by omega, by go_num, HSET.out _ hy.out, below_set hb (by omega) _⟩
          case measure => simp [intOf]; omega
        · by_cases hl : L k = 1
          · have hy := Lib.hid (loopAt_yes (show LoopIs g k from ⟨x1.out, Or.inr (by rw [HL.out]; exact hl)⟩))
            have d3 : ((L k : Int) == 1) = true := by simp; omega
            have d4 : (L k == 1) = true := by simp [hl]
            clear hl
            go_wp2_with (go_at_call 110; refine (contains_any _ _ _ _ _ _ hI).mono ?_; rw [k1.out]; rintro e w3 ⟨rfl, rfl⟩)
            go_roundw
            case rel => exact ⟨k + 1, by omega, by go_num, HSET.out _ hy.out, below_set hb (by omega) _⟩
            case measure => simp [intOf]; omega
          · have hy := Lib.hid (loopAt_no (show ¬ LoopIs g k from fun h => h.2.elim x2.out (fun h => hl (by rw [← HL.out]; exact h))))
            have d3 : ((L k : Int) == 1) = false := by simp; omega
            have d4 : (L k == 1) = false := by simp [hl]
            clear hl
            go_wp2_with (go_at_call 110; refine (contains_any _ _ _ _ _ _ hI).mono ?_; rw [k1.out]; rintro e w3 ⟨rfl, rfl⟩)
            go_roundw
            case rel => exact ⟨k + 1, by omega, by go_num, HSAME.out hy.out, hb⟩
            case measure => simp [intOf]; omega
      · have hy := Lib.hid (loopAt_no (show ¬ LoopIs g k from fun h => x1.out h.1))
        go_wp2_with (go_at_call 110; refine (contains_any _ _ _ _ _ _ hI).mono ?_; rw [k1.out]; rintro e w3 ⟨rfl, rfl⟩)
        go_roundw
        case rel => exact ⟨k + 1, by omega, by go_num, HSAME.out hy.out, hb⟩
        case measure => simp [intOf]; omega
    · go_wp2
      go_ret
      have e : k = n3 := by omega
      subst e
      refine ⟨_, _, _, rfl, ?_, hbw⟩
      rw [H3.out]
      rw [tab_congr (g := loopAt g) (fun j hj => if_pos hj)] at ho
      exact ho.mono (by omega) (Nat.le_refl _)

theorem loopWon_i (v : Value) (g : Pa) (w : World) (hP : IsP w v g) : Calls Try.prog 34 #[v] w (RetI' w (loopL g)) := by
  have hP0 := hP
  obtain ⟨_, _, _, rfl, ⟨s1, n1, c1, rfl, h1⟩, ⟨s2, n2, c2, rfl, h2⟩, ⟨s3, n3, c3, rfl, h3⟩⟩ := hP
  by_cases hg : PaOk g
  · have k1 := tf_true hg
    rw [loopL_ok hg]
    have G := Lib.hid hg
    clear hg
    go_enter Try.func34, Try.ntmps34
    go_wp2_with fail
    refine (paOk_i _ _ _ (hP0.below (by repeat' (first | (with_reducible exact Below.refl _ _) | (with_reducible assumption) | (with_reducible apply below_set) | (with_reducible apply Below.alloc) | (with_reducible apply Below.drew) | (with_reducible apply below_drawn) | (with_reducible refine Below.trans ?_ (Below.mono (by assumption) ?_)) | omega | (simp only [World.size_alloc, World.size_setCell, World.size_drew]; omega))))).mono ?_
    rw [k1]
    rintro e w2 ⟨rfl, hb2⟩
    have hcf := bcell hb2
    obtain ⟨hcell2, hfr2⟩ := hcf
    have hz2 := hb2.size
    simp only [World.size_alloc] at hz2
    go_wp2_with fail
    refine (loopWon0_i _ _ _ (hP0.below (by repeat' (first | (with_reducible exact Below.refl _ _) | (with_reducible assumption) | (with_reducible apply below_set) | (with_reducible apply Below.alloc) | (with_reducible apply Below.drew) | (with_reducible apply below_drawn) | (with_reducible refine Below.trans ?_ (Below.mono (by assumption) ?_)) | omega | (simp only [World.size_alloc, World.size_setCell, World.size_drew]; omega)))) G.out).mono ?_
    rintro e w3 ⟨s4, n4, c4, rfl, ho3, hb3⟩
    go_wp2_with fail
    go_ret
    exact ⟨_, _, _, rfl, ho3.mono (by omega) (Nat.le_refl _), (by repeat' (first | (with_reducible exact Below.refl _ _) | (with_reducible assumption) | (with_reducible apply below_set) | (with_reducible apply Below.alloc) | (with_reducible apply Below.drew) | (with_reducible apply below_drawn) | (with_reducible refine Below.trans ?_ (Below.mono (by assumption) ?_)) | omega | (simp only [World.size_alloc, World.size_setCell, World.size_drew]; omega)))⟩
  · have k1 := tf_false hg
    rw [loopL_no hg]
    clear hg
    go_enter Try.func34, Try.ntmps34
    go_wp2_with (go_at_call 62; refine (paOk_i _ _ _ (hP0.below (by repeat' (first | (with_reducible exact Below.refl _ _) | (with_reducible assumption) | (with_reducible apply below_set) | (with_reducible apply Below.alloc) | (with_reducible apply Below.drew) | (with_reducible apply below_drawn) | (with_reducible refine Below.trans ?_ (Below.mono (by assumption) ?_)) | omega | (simp only [World.size_alloc, World.size_setCell, World.size_drew]; omega))))).mono ?_; rw [k1]; rintro e w2 ⟨rfl, hb2⟩)
    go_ret
    exact ⟨_, _, _, rfl, ownV_nil _ _ _ _, (by repeat' (first | (with_reducible exact Below.refl _ _) | (with_reducible assumption) | (with_reducible apply below_set) | (with_reducible apply Below.alloc) | (with_reducible apply Below.drew) | (with_reducible apply below_drawn) | (with_reducible refine Below.trans ?_ (Below.mono (by assumption) ?_)) | omega | (simp only [World.size_alloc, World.size_setCell, World.size_drew]; omega)))⟩
end Go.Proofs.Ytdbojkdfpkgfcaa
