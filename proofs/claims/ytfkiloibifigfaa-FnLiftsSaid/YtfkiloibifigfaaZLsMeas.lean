/-
  Measures: how many vertices have a priority; which lists are measures.
-/
import Derived.Test.YtfkiloibifigfaaZLsOdds2
import Derived.Test.YtfkiloibifigfaaZLsCb
namespace Go.Proofs.Ytfkiloibifigfaa
set_option linter.unusedVariables false
set_option linter.unusedSimpArgs false
open Go.RowKit
attribute [local go_sem ↓] Go.wp_at_zero Go.wp_at_succ
def manyTo (pr : List Int) (p : Int) : Nat → Nat
  | 0 => 0
  | k + 1 => if gi pr k = p then manyTo pr p k + 1 else manyTo pr p k
def many (g : Pa) (p : Int) : Int := (manyTo g.prio p g.prio.length : Nat)
theorem manyTo_le (pr : List Int) (p : Int) (k : Nat) : manyTo pr p k ≤ k := by
  induction k with
  | zero => simp [manyTo]
  | succ k ih => simp only [manyTo]; split <;> omega
theorem many_filt (pr : List Int) (p : Int) (n : Nat) : ∀ k, k ≤ n → (filt (fun x => gi pr x.toNat = p) (tab n fun v => (v : Int)) k).length = manyTo pr p k := by
  intro k
  induction k with
  | zero => intro _; rfl
  | succ k ih =>
    intro hk
    have ih := ih (by omega)
    have e : gi (tab n fun v => (v : Int)) k = (k : Int) := gi_tab _ (by omega)
    by_cases h : gi pr k = p
    · rw [filt_yes (by rw [e, Int.toNat_natCast]; exact h)]
      simp only [manyTo]
      rw [if_pos h, List.length_append, ih]; rfl
    · rw [filt_no (by rw [e, Int.toNat_natCast]; exact h)]
      simp only [manyTo]
      rw [if_neg h, ih]
def MsrOk (g : Pa) (m : List Int) : Prop := m = [1] ∨ (m.length = (oddsL g).length + 1 ∧ gi m 0 = 0 ∧ ∀ i, i < (oddsL g).length → 0 ≤ gi m (i + 1) ∧ gi m (i + 1) ≤ many g (gi (oddsL g) i))
set_option maxHeartbeats 400000 in
theorem equal_any (sa : Option Addr) (n c : Nat) (xs : List Int) (sb : Option Addr) (m d : Nat) (ys : List Int) (w : World) (hx : Ints w sa n c xs) (hy : Ints w sb m d ys) :
    Calls Try.prog 97 #[.slice sa n c, .slice sb m d] w (Qb w (tf (xs = ys))) := by
  have hmax := hx.max
  have hmay := hy.max
  have HX := Lib.hid hx.1
  have HY := Lib.hid hy.1
  by_cases hnm : n = m
  · subst hnm
    go_enter Try.func97, Try.ntmps97
    go_wp2
    go_loopw [13] (fun i wr => ∃ k : Nat, k ≤ n ∧ i = .int .i64 k ∧ (∀ j, j < k → gi xs j = gi ys j) ∧ Qt w wr) (fun i _ => n - (intOf i).toNat)
    case atStart => exact ⟨0, by omega, rfl, fun j hj => by omega, Qt.refl w⟩
    case round =>
      obtain ⟨k, hk, rfl, he, hq⟩ := hrel
      have HE := Lib.hid he
      clear he
      by_cases hlt : k < n
      · obtain ⟨b1, o1, rfl, hb1, hc1⟩ := (hx.below hq.below).get hlt
        obtain ⟨b2, o2, rfl, hb2, hc2⟩ := (hy.below hq.below).get hlt
        have hk1 := hc1 k hlt
        have hk2 := hc2 k hlt
        have i0 : (0 : Int) ≤ (k : Int) := by omega
        have i1 : (k : Int) < (n : Int) := by omega
        clear hc1 hc2
        go_wp2
        go_quiet (fail)
        by_cases heq : gi xs k = gi ys k
        · have HQ := Lib.hid heq
          have hb : (gi xs k != gi ys k) = false := by simp [heq]
          clear heq
          go_wp2
          go_roundw
          case rel => exact ⟨k + 1, by omega, by go_num, fun j hj => by
            by_cases e : j = k
            · rw [e]; exact HQ.out
            · exact HE.out j (by omega), hq.drewN _⟩
          case measure => simp [intOf]; omega
        · have hb : (gi xs k != gi ys k) = true := by simp [heq]
          go_wp2
          go_ret
          exact ⟨ret_bool (tf_false (fun e => heq (by rw [e]))).symm, hq.drewN _⟩
      · go_wp2
        go_ret
        exact ⟨ret_bool (tf_true (eq_to HX.out HY.out (fun j hj => HE.out j (by omega)))).symm, hq⟩
  · go_enter Try.func97, Try.ntmps97
    go_wp2
    go_ret
    exact ⟨ret_bool (tf_false (fun e => hnm (by rw [← HX.out, ← HY.out, e]))).symm, 0, rfl⟩
set_option maxHeartbeats 400000 in
theorem many_s (v : Value) (g : Pa) (p : Int) (w : World) (hP : IsP w v g) : Calls Try.prog 95 #[v, .int .i64 p] w (Bi w (many g p)) := by
  obtain ⟨_, _, _, rfl, ⟨s1, n1, c1, rfl, h1⟩, ⟨s2, n2, c2, rfl, h2⟩, ⟨s3, n3, c3, rfl, h3⟩⟩ := hP
  have hm3 := h3.max
  obtain rfl := h3.1
  go_enter Try.func95, Try.ntmps95
  go_wp2
  go_loop [5, 6] (fun t i => ∃ k : Nat, k ≤ g.prio.length ∧ i = .int .i64 k ∧ t = .int .i64 (manyTo g.prio p k : Nat)) (fun _ i => g.prio.length - (intOf i).toNat)
  case atStart => exact ⟨0, by omega, rfl, rfl⟩
  case round =>
    obtain ⟨k, hk, rfl, rfl⟩ := hrel
    have hle := manyTo_le g.prio p k
    by_cases hlt : k < g.prio.length
    · obtain ⟨b, o, rfl, hbl, hc⟩ := h3.get hlt
      have hck := hc k hlt
      clear hc
      rcases ne_cases (gi g.prio k) p with ⟨d1, d2, x1⟩ | ⟨d1, d2, x1⟩
      · have HS := Lib.hid (show manyTo g.prio p (k + 1) = manyTo g.prio p k + 1 by simp only [manyTo]; rw [if_pos x1.out])
        go_wp2
        go_round
        case rel => exact ⟨k + 1, by omega, by go_num, by rw [HS.out]; congr 1⟩
        case measure => simp [intOf]; omega
      · have HS := Lib.hid (show manyTo g.prio p (k + 1) = manyTo g.prio p k by simp only [manyTo]; rw [if_neg x1.out])
        go_wp2
        go_round
        case rel => exact ⟨k + 1, by omega, by go_num, by rw [HS.out]⟩
        case measure => simp [intOf]; omega
    · go_wp2
      go_ret
      have e : k = g.prio.length := by omega
      subst e
      exact ⟨rfl, (by repeat' (first | (with_reducible exact Below.refl _ _) | (with_reducible apply Below.alloc) | (with_reducible apply Below.drew) | (with_reducible apply below_drawn) | omega | (simp only [World.size_alloc, World.size_setCell, World.size_drew]; omega)))⟩
set_option maxRecDepth 100000 in
set_option maxHeartbeats 4000000 in
theorem mostOf_i (v : Value) (g : Pa) (w : World) (hP : IsP w v g) (hg : PaOk g) : Calls Try.prog 98 #[v] w (RetI' w (tab (oddsL g).length fun i => many g (gi (oddsL g) i))) := by
  have hP0 := hP
  obtain ⟨_, _, _, rfl, ⟨s1, n1, c1, rfl, h1⟩, ⟨s2, n2, c2, rfl, h2⟩, ⟨s3, n3, c3, rfl, h3⟩⟩ := hP
  have hA : IsA w (.agg #[.slice s1 n1 c1, .slice s2 n2 c2]) g.ar := ⟨_, _, rfl, h1.is, h2.is⟩
  have HN := Lib.hid hg.ar.le
  have HL := Lib.hid hg.len
  have G := Lib.hid hg
  have hBt : Bnd (tab g.ar.own.length fun v => (v : Int)) g.prio.length := fun k hk => by rw [tab_len] at hk; rw [gi_tab _ hk]; have := hg.len; omega
  have BN := Lib.hid hBt
  clear hg hBt h1 h2 h3
  go_enter Try.func98, Try.ntmps98
  go_wp2_with fail
  generalize hqw1 : w.alloc (.cells #[.slice s1 n1 c1, .slice s2 n2 c2, .slice s3 n3 c3] 33) = w1
  have hbw : Below w.heap.size w w1 := by rw [← hqw1]; exact (by repeat' (first | (with_reducible exact Below.refl _ _) | (with_reducible apply Below.alloc) | (with_reducible apply Below.drew) | (with_reducible apply below_drawn) | omega | (simp only [World.size_alloc, World.size_setCell, World.size_drew]; omega)))
  have hew1 := Lib.hid (show w1.heap.size = w.heap.size + 1 by rw [← hqw1]; simp)
  have hsw : w.heap.size + 1 ≤ w1.heap.size := by rw [← hqw1]; simp only [World.size_alloc]; omega
  have hswa : w.heap.size < w1.heap.size := by omega
  have HQw1_0 : Blk w1 (w.heap.size) [.slice s1 n1 c1, .slice s2 n2 c2, .slice s3 n3 c3] 33 := by rw [← hqw1]; have hnew := blk_new w [.slice s1 n1 c1, .slice s2 n2 c2, .slice s3 n3 c3] 33; (try simp only [World.size_alloc] at hnew); exact hnew
  have b0_0 : w1.cell? ⟨w.heap.size, 0, none⟩ = some (.slice s1 n1 c1) := HQw1_0.cell 0 rfl
  have b0_1 : w1.cell? ⟨w.heap.size, 1, none⟩ = some (.slice s2 n2 c2) := HQw1_0.cell 1 rfl
  have b0_2 : w1.cell? ⟨w.heap.size, 2, none⟩ = some (.slice s3 n3 c3) := HQw1_0.cell 2 rfl
  have HRw1 := Lib.hid HQw1_0
  clear HQw1_0
  clear hqw1
  clear HRw1
  have hes : OwnI w1.heap.size (w1.alloc (.cells #[] 2)).heap.size (w1.alloc (.cells #[] 2)) (.slice (some ⟨w.heap.size + 1, 0, none⟩) 0 0) [] := by rw [← hew1.out]; exact own_nil _ _ 0 (Nat.le_refl _)
  generalize hq2 : w1.alloc (.cells #[] 2) = w2 at *
  have hb12 : Below w1.heap.size w1 w2 := by rw [← hq2]; exact below_alloc _ _
  have hz12 : w1.heap.size < w2.heap.size := by rw [← hq2]; simp
  clear hq2
  replace b0_0 := cell_b b0_0 hb12
  replace b0_1 := cell_b b0_1 hb12
  replace b0_2 := cell_b b0_2 hb12
  replace hbw := hbw.trans (hb12.mono hbw.size)
  refine (odds_i _ _ _ (hP0.below hbw) G.out).mono ?_
  rintro e w5 ⟨s7, n7, c7, rfl, ho7, hb5⟩
  have hz5 := hb5.size
  replace b0_0 := cell_b b0_0 hb5
  replace b0_1 := cell_b b0_1 hb5
  replace b0_2 := cell_b b0_2 hb5
  replace hes := hes.below hb5
  replace hbw := hbw.trans (hb5.mono hbw.size)
  have hl7 := ho7.len
  have hI7 := ho7.is.ints
  have hl41 : n7 ≤ 41 := by rw [← hl7]; exact oddsL_len g
  have HL7 := Lib.hid hl7
  clear hl7
  go_wp2_with fail
  go_loopw [3, 10] (fun v i wr => ∃ (k c : Nat) (sa : Option Addr), k ≤ n7 ∧ i = .int .i64 k ∧ v = .slice sa k c ∧ OwnE ⟨w.heap.size + 1, 0, none⟩ w5.heap.size wr.heap.size wr (.slice sa k c) (tab k fun i => many g (gi (oddsL g) i)) ∧ Below w5.heap.size w5 wr) (fun _ i _ => n7 - (intOf i).toNat)
  case atStart => exact ⟨0, 0, _, by omega, rfl, rfl, Or.inr ⟨rfl, rfl⟩, Below.refl _ _⟩
  case round =>
    obtain ⟨k, c, sa, hk, rfl, rfl, ho, hb⟩ := hrel
    have hsz := hb.size
    by_cases hlt : k < n7
    · obtain ⟨b, o, rfl, hbl, hc⟩ := (hI7.below hb).get hlt
      have hck := hc k hlt
      clear hc
      replace b0_0 := cell_b b0_0 hb
      replace b0_1 := cell_b b0_1 hb
      replace b0_2 := cell_b b0_2 hb
      replace hbw := hbw.trans (hb.mono hbw.size)
      clear hes
      go_wp2_with fail
      go_region_held3 (fun w' => w'.cell? ⟨w.heap.size, 0, none⟩ = some (.slice s1 n1 c1) ∧ w'.cell? ⟨w.heap.size, 1, none⟩ = some (.slice s2 n2 c2) ∧ w'.cell? ⟨w.heap.size, 2, none⟩ = some (.slice s3 n3 c3)) (first | exact ⟨b0_0, b0_1, b0_2⟩ | go_keep)
        (first
          | (go_at_call 125; refine (allOf_i _ _ _ ((hA.below hbw).drew) HN.out).mono ?_; rintro e w6 ⟨s8, n8, c8, rfl, ho8, hbw6⟩; replace hbw6 := drew_trans hbw6; replace b0_0 := cell_b b0_0 hbw6; replace b0_1 := cell_b b0_1 hbw6; replace b0_2 := cell_b b0_2 hbw6; replace ho := ho.below hbw6; replace hbw : Below w.heap.size w w6 := hbw.trans (hbw6.mono hbw.size); have hz6 := hbw6.size)
          | (go_at_call 124; refine (withPrio_i _ _ _ _ _ _ (hP0.below hbw) ho8.is BN.out (by rw [tab_len]; have := HN.out; omega)).mono ?_; rintro e w7 ⟨s9, n9, c9, rfl, ho9, hbw7⟩; replace b0_0 := cell_b b0_0 hbw7; replace b0_1 := cell_b b0_1 hbw7; replace b0_2 := cell_b b0_2 hbw7; replace ho := ho.below hbw7; replace hbw : Below w.heap.size w w7 := hbw.trans (hbw7.mono hbw.size); have hz7 := hbw7.size; have hn9 := ho9.len)
          | ((refine step_appE_int (by rfl) _ _ (by rfl) (by rfl) (OwnE.below ho (below_alloc _ _)) (n9 : Int) _ _ (by rfl) (by simp) (by simp; omega) (by simp; omega) ?_; intro sa' c' w8 ho10 hO8; have g8_0 := cell_o (cell_b b0_0 (below_alloc w7 _)) hO8 (by omega); have g8_1 := cell_o (cell_b b0_1 (below_alloc w7 _)) hO8 (by omega); have g8_2 := cell_o (cell_b b0_2 (below_alloc w7 _)) hO8 (by omega))))
      go_wp2_with fail
      go_roundw
      case rel =>
        rw [tab_len] at *
        have e9 : (n9 : Int) = many g (gi (oddsL g) k) := by
          unfold many
          rw [← hn9, many_filt _ _ _ _ (Nat.le_refl _), HL.out]
        rw [e9] at ho10
        refine ⟨k + 1, c', sa', by omega, by go_num, rfl, Or.inl ?_, ?_⟩
        · rwa [← tab_succ (f := fun i => many g (gi (oddsL g) i))] at ho10
        · exact ((hb.trans (hbw6.mono hsz)).trans (hbw7.mono (by omega))).trans ((below_alloc w7 _).mono (by omega) |>.trans (hO8.below (by simp; omega)))
      case measure => simp [intOf]; omega
    · have e : k = n7 := by omega
      subst e
      have hfin : OwnI w1.heap.size wr.heap.size wr (.slice sa k c) (tab k fun i => many g (gi (oddsL g) i)) := by
        rcases ho with ho | ⟨he, hx⟩
        · exact ho.mono (by omega) (Nat.le_refl _)
        · rw [he, hx]; exact ((hes.below hb).top)
      clear ho
      go_wp2_with fail
      go_ret
      exact ⟨_, _, _, rfl, by rw [HL7.out]; exact hfin.mono (by omega) (Nat.le_refl _), hbw.trans (hb.mono hbw.size)⟩
end Go.Proofs.Ytfkiloibifigfaa
