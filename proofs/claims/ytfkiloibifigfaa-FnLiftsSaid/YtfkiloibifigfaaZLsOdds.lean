/-
  The odds of a game: the program's and the reference's.
-/
import Derived.Test.YtfkiloibifigfaaZLsShelf2
import Derived.Test.YtfkiloibifigfaaZLsCb
import Derived.Test.YtfkiloibifigfaaZLsSd
namespace Go.Proofs.Ytfkiloibifigfaa
set_option linter.unusedVariables false
set_option linter.unusedSimpArgs false
open Go.RowKit
attribute [local go_sem ↓] Go.wp_at_zero Go.wp_at_succ
theorem mem_filt {p : Int → Prop} {xs : List Int} {x : Int} : ∀ k, k ≤ xs.length → (x ∈ filt p xs k ↔ ∃ j, j < k ∧ gi xs j = x ∧ p x) := by
  intro k
  induction k with
  | zero => intro _; simp [filt]
  | succ k ih =>
    intro hk
    have ih := ih (by omega)
    by_cases h : p (gi xs k)
    · rw [filt_yes h, List.mem_append, ih]
      constructor
      · rintro (⟨j, h1, h2⟩ | h1)
        · exact ⟨j, by omega, h2⟩
        · simp at h1; exact ⟨k, by omega, h1.symm, by rw [h1]; exact h⟩
      · rintro ⟨j, h1, h2, h3⟩
        by_cases e : j = k
        · right; rw [← h2, e]; simp
        · left; exact ⟨j, by omega, h2, h3⟩
    · rw [filt_no h, ih]
      constructor
      · rintro ⟨j, h1, h2⟩; exact ⟨j, by omega, h2⟩
      · rintro ⟨j, h1, h2, h3⟩
        by_cases e : j = k
        · exact absurd (by rw [← e, h2]; exact h3) h
        · exact ⟨j, by omega, h2, h3⟩
theorem filt_inc {p : Int → Prop} {xs : List Int} (hx : xs.Pairwise (· < ·)) : ∀ k, k ≤ xs.length → (filt p xs k).Pairwise (· < ·) := by
  intro k
  induction k with
  | zero => intro _; simp [filt]
  | succ k ih =>
    intro hk
    have ih := ih (by omega)
    by_cases h : p (gi xs k)
    · rw [filt_yes h, List.pairwise_append]
      refine ⟨ih, by simp, fun x hx' y hy => ?_⟩
      simp at hy
      subst hy
      obtain ⟨j, hj, e, _⟩ := (mem_filt k (by omega)).1 hx'
      rw [← e, gi_get (by omega), gi_get (by omega)]
      exact List.pairwise_iff_getElem.1 hx j k (by omega) (by omega) hj
    · rw [filt_no h]; exact ih
theorem filt_lst {p : Int → Prop} {q : Nat → Prop} {n : Nat} : filt p (lst q n) (lst q n).length = lst (fun v => p v ∧ q v) n :=
  inc_unique _ _ (filt_inc (lst_inc q n) _ (Nat.le_refl _)) (lst_inc _ n) fun x => by
    rw [mem_filt _ (Nat.le_refl _), mem_lst]
    constructor
    · rintro ⟨j, h1, h2, h3⟩
      obtain ⟨v, h4, h5, rfl⟩ := mem_lst.1 (mem_iff_gi'.2 ⟨j, h1, h2⟩)
      exact ⟨v, h4, ⟨h3, h5⟩, rfl⟩
    · rintro ⟨v, h1, ⟨h2, h3⟩, rfl⟩
      obtain ⟨j, h4, h5⟩ := mem_iff_gi'.1 (mem_lst.2 ⟨v, h1, h3, rfl⟩)
      exact ⟨j, h4, h5, h2⟩
noncomputable def prs (g : Pa) (xs : List Int) : List Int := lst (fun p => ∃ k, k < xs.length ∧ gi g.prio (gi xs k).toNat = (p : Int)) 41
noncomputable def oddsL (g : Pa) : List Int := (lst (fun p => (p : Int) % 2 = 1 ∧ (p : Int) ∈ g.prio) 41).reverse
theorem oddsL_len (g : Pa) : (oddsL g).length ≤ 41 := by unfold oddsL; rw [List.length_reverse]; exact lst_len _ _
theorem prs_all (g : Pa) : prs g (tab g.prio.length fun v => (v : Int)) = lst (fun p => (p : Int) ∈ g.prio) 41 := by
  refine lst_congr fun p _ => ?_
  rw [tab_len, mem_iff_gi']
  constructor
  · rintro ⟨k, h1, h2⟩; rw [gi_tab _ h1] at h2; exact ⟨k, h1, h2⟩
  · rintro ⟨k, h1, h2⟩; exact ⟨k, h1, by rw [gi_tab _ h1]; exact h2⟩
noncomputable def oddsDn (g : Pa) : Nat → List Int
  | 0 => []
  | j + 1 => @ite _ ((39 - 2 * (j : Int)) ∈ g.prio) (Classical.propDecidable _) (oddsDn g j ++ [39 - 2 * (j : Int)]) (oddsDn g j)
theorem oddsDn_yes {g : Pa} {j : Nat} (h : (39 - 2 * (j : Int)) ∈ g.prio) : oddsDn g (j + 1) = oddsDn g j ++ [39 - 2 * (j : Int)] := if_pos h
theorem oddsDn_no {g : Pa} {j : Nat} (h : ¬ (39 - 2 * (j : Int)) ∈ g.prio) : oddsDn g (j + 1) = oddsDn g j := if_neg h
theorem oddsDn_len (g : Pa) (j : Nat) : (oddsDn g j).length ≤ j := by
  induction j with
  | zero => simp [oddsDn]
  | succ j ih =>
    by_cases h : (39 - 2 * (j : Int)) ∈ g.prio
    · rw [oddsDn_yes h]; simp; omega
    · rw [oddsDn_no h]; omega
theorem mem_oddsDn (g : Pa) (x : Int) : ∀ j, x ∈ oddsDn g j ↔ ∃ i, i < j ∧ x = 39 - 2 * (i : Int) ∧ x ∈ g.prio := by
  intro j
  induction j with
  | zero => simp [oddsDn]
  | succ j ih =>
    by_cases h : (39 - 2 * (j : Int)) ∈ g.prio
    · rw [oddsDn_yes h, List.mem_append, ih]
      constructor
      · rintro (⟨i, h1, h2⟩ | h1)
        · exact ⟨i, by omega, h2⟩
        · simp at h1; exact ⟨j, by omega, h1, by rw [h1]; exact h⟩
      · rintro ⟨i, h1, h2, h3⟩
        by_cases e : i = j
        · right; rw [h2, e]; simp
        · left; exact ⟨i, by omega, h2, h3⟩
    · rw [oddsDn_no h, ih]
      constructor
      · rintro ⟨i, h1, h2⟩; exact ⟨i, by omega, h2⟩
      · rintro ⟨i, h1, h2, h3⟩
        by_cases e : i = j
        · exact absurd (by rw [← e, ← h2]; exact h3) h
        · exact ⟨i, by omega, h2, h3⟩
theorem oddsDn_dec (g : Pa) : ∀ j, (oddsDn g j).Pairwise (fun a b => b < a) := by
  intro j
  induction j with
  | zero => simp [oddsDn]
  | succ j ih =>
    by_cases h : (39 - 2 * (j : Int)) ∈ g.prio
    · rw [oddsDn_yes h, List.pairwise_append]
      refine ⟨ih, by simp, fun x hx y hy => ?_⟩
      simp at hy
      obtain ⟨i, h1, h2, _⟩ := (mem_oddsDn g x j).1 hx
      omega
    · rw [oddsDn_no h]; exact ih
theorem oddsDn_all (g : Pa) : oddsDn g 20 = oddsL g := by
  have h : (oddsDn g 20).reverse = lst (fun p => (p : Int) % 2 = 1 ∧ (p : Int) ∈ g.prio) 41 := by
    refine inc_unique _ _ (List.pairwise_reverse.2 (oddsDn_dec g 20)) (lst_inc _ _) fun x => ?_
    rw [List.mem_reverse, mem_oddsDn, mem_lst]
    constructor
    · rintro ⟨i, h1, h2, h3⟩; exact ⟨x.toNat, by omega, ⟨by omega, by rw [Int.toNat_of_nonneg (by omega)]; exact h3⟩, by omega⟩
    · rintro ⟨v, h1, ⟨h2, h3⟩, rfl⟩; exact ⟨(39 - v) / 2, by omega, by omega, h3⟩
  unfold oddsL
  rw [← h, List.reverse_reverse]
set_option maxHeartbeats 1000000 in
theorem odds_s (v : Value) (g : Pa) (w : World) (hP : IsP w v g) : Calls Try.prog 58 #[v] w (RetI' w (oddsL g)) := by
  obtain ⟨_, _, _, rfl, ⟨s1, n1, c1, rfl, h1⟩, ⟨s2, n2, c2, rfl, h2⟩, ⟨s3, n3, c3, rfl, h3⟩⟩ := hP
  go_enter Try.func58, Try.ntmps58
  go_wp2
  generalize hqw1 : w.alloc (.cells #[.slice s1 n1 c1, .slice s2 n2 c2, .slice s3 n3 c3] 33) = w1
  have hbw : Below w.heap.size w w1 := by rw [← hqw1]; exact (by repeat' (first | (with_reducible exact Below.refl _ _) | (with_reducible apply Below.alloc) | (with_reducible apply Below.drew) | (with_reducible apply below_drawn) | omega | (simp only [World.size_alloc, World.size_setCell, World.size_drew]; omega)))
  have hew1 := Lib.hid (show w1.heap.size = w.heap.size + 1 by rw [← hqw1]; simp)
  have hsw : w.heap.size + 1 ≤ w1.heap.size := by rw [← hqw1]; simp only [World.size_alloc]; omega
  have hswa : w.heap.size < w1.heap.size := by omega
  have HQw1_0 : Blk w1 (w.heap.size) [.slice s1 n1 c1, .slice s2 n2 c2, .slice s3 n3 c3] 33 := by rw [← hqw1]; have hnew := blk_new w [.slice s1 n1 c1, .slice s2 n2 c2, .slice s3 n3 c3] 33; (try simp only [World.size_alloc] at hnew); exact hnew
  have b0_0 : w1.cell? ⟨w.heap.size, 0, none⟩ = some (.slice s1 n1 c1) := HQw1_0.cell 0 rfl
  have b0_1 : w1.cell? ⟨w.heap.size, 1, none⟩ = some (.slice s2 n2 c2) := HQw1_0.cell 1 rfl
  have b0_2 : w1.cell? ⟨w.heap.size, 2, none⟩ = some (.slice s3 n3 c3) := HQw1_0.cell 2 rfl
  have HRw1 := Lib.hid HQw1_0
  clear HQw1_0
  clear hqw1
  go_loopw [3, 4] (fun v i wr => ∃ (j n c : Nat) (sa : Option Addr), j ≤ 20 ∧ i = .int .i64 (39 - 2 * (j : Int)) ∧ v = .slice sa n c ∧ OwnI w1.heap.size wr.heap.size wr (.slice sa n c) (oddsDn g j) ∧ Below w1.heap.size w1 wr) (fun _ i _ => (intOf i).toNat)
  case atStart => exact ⟨0, 0, 0, _, by omega, by simp, rfl, by rw [← hew1.out]; exact own_nil _ _ 0 (Nat.le_refl _), below_alloc _ _⟩
  case round =>
    obtain ⟨j, n, c, sa, hj, rfl, rfl, ho, hb⟩ := hrel
    have hBwr : Below w1.heap.size w1 (wr) := (by repeat' (first | (with_reducible exact Below.refl _ _) | (with_reducible assumption) | (with_reducible apply below_set) | (with_reducible apply Below.alloc) | (with_reducible apply Below.drew) | (with_reducible apply below_drawn) | (with_reducible refine Below.trans ?_ (Below.mono (by assumption) ?_)) | omega | (simp only [World.size_alloc, World.size_setCell, World.size_drew]; omega)))
    replace b0_2 := cell_b b0_2 hBwr
    replace hbw : Below w.heap.size w (wr) := hbw.trans (hBwr.mono hbw.size)
    clear hBwr
    have hol := ho.len
    have hnl := oddsDn_len g j
    by_cases hlt : j < 20
    · have HO := Lib.hid hol
      clear hol
      generalize hp : 39 - 2 * (j : Int) = p at *
      have HP := Lib.hid hp
      have p0 : 0 < p := by omega
      have p1 : p ≤ 39 := by omega
      clear hp
      rcases tf_cases (p ∈ g.prio) with ⟨k1, x1⟩ | ⟨k1, x1⟩
      · have HS := Lib.hid (oddsDn_yes (g := g) (j := j) (by rw [HP.out]; exact x1.out))
        go_wp2_with fail
        refine (l7HasIn_any _ _ _ _ _ _ (h3.below hbw)).mono ?_
        rw [k1.out]
        rintro e w2 ⟨rfl, rfl⟩
        go_wp2_with (at_builtin; refine app_int rfl _ _ rfl rfl (OwnI.alloc ho _) p _ _ rfl (by simp) (by omega) (by have := hb.size; simp; omega) ?_; intro sa' c' w3 ho3 hO3)
        go_roundw
        case rel => exact ⟨j + 1, _, c', sa', by omega, by congr 1; have := HP.out; omega, rfl, by rw [HS.out, HP.out]; exact ho3, bel_app hb hO3⟩
        case measure => simp [intOf]; omega
      · have HS := Lib.hid (oddsDn_no (g := g) (j := j) (by rw [HP.out]; exact x1.out))
        go_wp2_with fail
        refine (l7HasIn_any _ _ _ _ _ _ (h3.below hbw)).mono ?_
        rw [k1.out]
        rintro e w2 ⟨rfl, rfl⟩
        go_wp2_with fail
        go_roundw
        case rel => exact ⟨j + 1, _, c, sa, by omega, by congr 1; have := HP.out; omega, rfl, by rw [HS.out]; exact ho, hb⟩
        case measure => simp [intOf]; omega
    · have e : j = 20 := by omega
      subst e
      go_wp2
      go_ret
      exact ⟨_, _, _, rfl, by rw [← oddsDn_all]; exact ho.mono (by omega) (Nat.le_refl _), hbw⟩
end Go.Proofs.Ytfkiloibifigfaa
