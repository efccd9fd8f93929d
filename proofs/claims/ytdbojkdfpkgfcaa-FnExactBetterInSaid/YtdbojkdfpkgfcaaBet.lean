/-
  The order of worths: the reference's.
-/
import Derived.Test.YtdbojkdfpkgfcaaSetC
import Derived.Test.YtdbojkdfpkgfcaaWorth2
namespace Go.Proofs.Ytdbojkdfpkgfcaa
set_option linter.unusedVariables false
set_option linter.unusedSimpArgs false
open Go.RowKit
attribute [local go_sem ↓] Go.wp_at_zero Go.wp_at_succ

/-- The priority of a vertex is even. -/
def Ev (g : Pa) (x : Int) : Prop := gi g.prio x.toNat % 2 = 0
theorem par_cases {x : Int} (h : 0 ≤ x) : (x.tmod 2 = 0 ∧ x % 2 = 0) ∨ (x.tmod 2 = 1 ∧ x % 2 = 1) := by
  rw [Int.tmod_eq_emod_of_nonneg h]; omega
/-- The next vertex is the heaviest that is in one of two sets alone. -/
def UnStep (g : Pa) (A B : List Int) (k : Nat) (x : Int) : Prop := ¬ ((k : Int) ∈ A ↔ (k : Int) ∈ B) ∧ (x < 0 ∨ Heavy g (k : Int).toNat x.toNat)
noncomputable def unl (g : Pa) (A B : List Int) : Nat → Int
  | 0 => -1
  | k + 1 => @ite _ (UnStep g A B k (unl g A B k)) (Classical.propDecidable _) (k : Int) (unl g A B k)
theorem unl_yes {g : Pa} {A B : List Int} {k : Nat} (h : UnStep g A B k (unl g A B k)) : unl g A B (k + 1) = k := if_pos h
theorem unl_no {g : Pa} {A B : List Int} {k : Nat} (h : ¬ UnStep g A B k (unl g A B k)) : unl g A B (k + 1) = unl g A B k := if_neg h
theorem unl_bd (g : Pa) (A B : List Int) : ∀ k, -1 ≤ unl g A B k ∧ unl g A B k < k := by
  intro k
  induction k with
  | zero => simp [unl]
  | succ k ih =>
    by_cases h : UnStep g A B k (unl g A B k)
    · rw [unl_yes h]; omega
    · rw [unl_no h]; omega
/-- a is better for player 0 than b. -/
def Bet (g : Pa) (a b : Wo) : Prop :=
  (a.head ≠ b.head ∧ ((Ev g a.head ∧ ¬ Ev g b.head) ∨ (Ev g a.head ∧ Ev g b.head ∧ Heavy g a.head.toNat b.head.toNat) ∨ (¬ Ev g a.head ∧ ¬ Ev g b.head ∧ ¬ Heavy g a.head.toNat b.head.toNat))) ∨
  (a.head = b.head ∧ 0 ≤ unl g a.over b.over g.prio.length ∧ (unl g a.over b.over g.prio.length ∈ a.over ↔ Ev g (unl g a.over b.over g.prio.length))) ∨
  (a.head = b.head ∧ unl g a.over b.over g.prio.length < 0 ∧ ((Ev g a.head ∧ a.way < b.way) ∨ (¬ Ev g a.head ∧ b.way < a.way)))

set_option maxHeartbeats 400000 in
theorem even_s (v : Value) (g : Pa) (x : Int) (w : World) (hP : IsP w v g) (hg : PaOk g) (hx0 : 0 ≤ x) (hx : x < g.prio.length) : Calls Try.prog 115 #[v, .int .i64 x] w (Bb w (tf (Ev g x))) := by
  obtain ⟨_, _, _, rfl, ⟨s1, n1, c1, rfl, h1⟩, ⟨s2, n2, c2, rfl, h2⟩, ⟨s3, n3, c3, rfl, h3⟩⟩ := hP
  obtain ⟨x, rfl⟩ := Int.eq_ofNat_of_zero_le hx0
  have hm := h3.max
  have hxn : x < n3 := by have := h3.1; omega
  obtain ⟨b, o, rfl, hbl, hc⟩ := h3.get hxn
  have q := hc x hxn
  have hp := (hg.prio x (by omega)).1
  clear hc hg hx hx0
  rcases par_cases hp with ⟨m1, m2⟩ | ⟨m1, m2⟩
  · rw [tf_true (show Ev g (x : Int) by unfold Ev; rw [Int.toNat_natCast]; exact m2)]
    go_enter Try.func115, Try.ntmps115
    go_wp2
    go_ret
    exact ⟨rfl, (by repeat' (first | (with_reducible exact Below.refl _ _) | (with_reducible apply Below.alloc) | (with_reducible apply Below.drew) | (with_reducible apply below_drawn) | omega | (simp only [World.size_alloc, World.size_setCell, World.size_drew]; omega)))⟩
  · rw [tf_false (show ¬ Ev g (x : Int) by unfold Ev; rw [Int.toNat_natCast]; omega)]
    go_enter Try.func115, Try.ntmps115
    go_wp2
    go_ret
    exact ⟨rfl, (by repeat' (first | (with_reducible exact Below.refl _ _) | (with_reducible apply Below.alloc) | (with_reducible apply Below.drew) | (with_reducible apply below_drawn) | omega | (simp only [World.size_alloc, World.size_setCell, World.size_drew]; omega)))⟩

set_option maxHeartbeats 2000000 in
set_option maxRecDepth 100000 in
theorem unlike_s (v va vb : Value) (g : Pa) (A B : List Int) (w : World) (hP : IsP w v g) (hA : IsI w va A) (hB : IsI w vb B) : Calls Try.prog 116 #[v, va, vb] w (Bi w (unl g A B g.prio.length)) := by
  have hP0 := hP
  obtain ⟨_, _, _, rfl, ⟨s1, n1, c1, rfl, h1⟩, ⟨s2, n2, c2, rfl, h2⟩, ⟨s3, n3, c3, rfl, h3⟩⟩ := hP
  obtain ⟨s4, n4, c4, rfl, h4⟩ := hA
  obtain ⟨s5, n5, c5, rfl, h5⟩ := hB
  have hm3 := h3.max
  obtain rfl := h3.1
  go_enter Try.func116, Try.ntmps116
  go_wp2_with fail
  generalize hqw1 : w.alloc (.cells #[.slice s1 n1 c1, .slice s2 n2 c2, .slice s3 g.prio.length c3] 32) = w1
  have hbw : Below w.heap.size w w1 := by rw [← hqw1]; exact (by repeat' (first | (with_reducible exact Below.refl _ _) | (with_reducible apply Below.alloc) | (with_reducible apply Below.drew) | (with_reducible apply below_drawn) | omega | (simp only [World.size_alloc, World.size_setCell, World.size_drew]; omega)))
  have hew1 := Lib.hid (show w1.heap.size = w.heap.size + 1 by rw [← hqw1]; simp)
  have hsw : w.heap.size + 1 ≤ w1.heap.size := by rw [← hqw1]; simp only [World.size_alloc]; omega
  have hswa : w.heap.size < w1.heap.size := by omega
  have HQw1_0 : Blk w1 (w.heap.size) [.slice s1 n1 c1, .slice s2 n2 c2, .slice s3 g.prio.length c3] 32 := by rw [← hqw1]; have hnew := blk_new w [.slice s1 n1 c1, .slice s2 n2 c2, .slice s3 g.prio.length c3] 32; (try simp only [World.size_alloc] at hnew); exact hnew
  have b0_0 : w1.cell? ⟨w.heap.size, 0, none⟩ = some (.slice s1 n1 c1) := HQw1_0.cell 0 rfl
  have b0_1 : w1.cell? ⟨w.heap.size, 1, none⟩ = some (.slice s2 n2 c2) := HQw1_0.cell 1 rfl
  have b0_2 : w1.cell? ⟨w.heap.size, 2, none⟩ = some (.slice s3 g.prio.length c3) := HQw1_0.cell 2 rfl
  have HRw1 := Lib.hid HQw1_0
  clear HQw1_0
  clear hqw1
  go_loopw [7, 8] (fun x i wr => ∃ k : Nat, k ≤ g.prio.length ∧ i = .int .i64 k ∧ x = .int .i64 (unl g A B k) ∧ Below w1.heap.size w1 wr) (fun _ i _ => g.prio.length - (intOf i).toNat)
  case atStart => exact ⟨0, by omega, rfl, rfl, Below.refl _ _⟩
  case round =>
    obtain ⟨k, hk, rfl, rfl, hb⟩ := hrel
    have hBwr : Below w1.heap.size w1 (wr) := (by repeat' (first | (with_reducible exact Below.refl _ _) | (with_reducible assumption) | (with_reducible apply below_set) | (with_reducible apply Below.alloc) | (with_reducible apply Below.drew) | (with_reducible apply below_drawn) | (with_reducible refine Below.trans ?_ (Below.mono (by assumption) ?_)) | omega | (simp only [World.size_alloc, World.size_setCell, World.size_drew]; omega)))
    replace b0_0 := cell_b b0_0 hBwr
    replace b0_1 := cell_b b0_1 hBwr
    replace b0_2 := cell_b b0_2 hBwr
    replace hbw : Below w.heap.size w (wr) := hbw.trans (hBwr.mono hbw.size)
    clear hBwr
    by_cases hlt : k < g.prio.length
    · obtain ⟨u0, u1⟩ := unl_bd g A B k
      have e1 : (0 : Int) ≤ k := by omega
      have e2 : (k : Int) < g.prio.length := by omega
      have e4 : unl g A B k < g.prio.length := by omega
      rcases tf_cases ((k : Int) ∈ A) with ⟨k1, x1⟩ | ⟨k1, x1⟩
      all_goals rcases tf_cases ((k : Int) ∈ B) with ⟨k2, x2⟩ | ⟨k2, x2⟩
      all_goals rcases dec_cases (unl g A B k < 0) with ⟨d3, x3⟩ | ⟨d3, x3⟩
      all_goals rcases tf_cases (Heavy g (k : Int).toNat (unl g A B k).toNat) with ⟨k4, x4⟩ | ⟨k4, x4⟩
      all_goals rcases Classical.em (UnStep g A B k (unl g A B k)) with hs | hs
      all_goals first
        | (exfalso; revert hs; simp only [UnStep, x1.out, x2.out, x3, x4.out]; simp; done)
        | (have HU := Lib.hid (unl_yes hs); clear hs)
        | (have HU := Lib.hid (unl_no hs); clear hs)
      all_goals
        go_wp2_with fail
        refine (l7HasIn_any _ _ _ _ _ _ (h4.below hbw)).mono ?_
        rw [k1.out]
        rintro e w2 ⟨rfl, rfl⟩
        go_wp2_with fail
        refine (l7HasIn_any _ _ _ _ _ _ (h5.below hbw)).mono ?_
        rw [k2.out]
        rintro e w2 ⟨rfl, rfl⟩
        go_wp2_with (go_at_call 66; refine (heavy_s _ _ _ _ _ (hP0.below hbw) e1 e2 (by omega) e4).mono ?_; rw [k4.out]; rintro e w5 ⟨rfl, hb5⟩)
        go_roundw
        case rel => exact ⟨k + 1, by omega, by go_num, by rw [HU.out], by first | exact hb | exact hb.trans (hb5.mono hb.size)⟩
        case measure => simp [intOf]; omega
    · go_wp2_with fail
      go_ret
      have e : k = g.prio.length := by omega
      subst e
      exact ⟨rfl, hbw⟩
end Go.Proofs.Ytdbojkdfpkgfcaa
