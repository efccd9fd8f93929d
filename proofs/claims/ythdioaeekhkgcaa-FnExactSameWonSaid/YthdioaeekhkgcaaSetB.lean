/-
  Small functions of the program over lists.
-/
import Derived.Test.YthdioaeekhkgcaaSet
namespace Go.Proofs.Ythdioaeekhkgcaa
set_option linter.unusedVariables false
set_option linter.unusedSimpArgs false
open Go.RowKit
attribute [local go_sem ↓] Go.wp_at_zero Go.wp_at_succ

theorem mem_iff_gi {xs : List Int} {x : Int} : x ∈ xs ↔ ∃ k, k < xs.length ∧ gi xs k = x := ⟨mem_gi, fun ⟨k, h, e⟩ => by rw [← e]; exact gi_mem h⟩
/-- The first place, -1: none. -/
def FirstAt (xs : List Int) (x : Int) (k : Nat) : Prop := k < xs.length ∧ gi xs k = x ∧ ∀ j, j < k → gi xs j ≠ x
noncomputable def idx (xs : List Int) (x : Int) : Int := @dite _ (∃ k, FirstAt xs x k) (Classical.propDecidable _) (fun h => ((Classical.choose h : Nat) : Int)) (fun _ => -1)
theorem idx_no {xs : List Int} {x : Int} (h : ¬ x ∈ xs) : idx xs x = -1 := dif_neg (by rintro ⟨k, h1, h2, _⟩; exact h (by rw [← h2]; exact gi_mem h1))
theorem idx_at {xs : List Int} {x : Int} {k : Nat} (hk : k < xs.length) (e : gi xs k = x) (hm : ∀ j, j < k → gi xs j ≠ x) : idx xs x = k := by
  have hex : ∃ k, FirstAt xs x k := ⟨k, hk, e, hm⟩
  unfold idx
  rw [dif_pos hex]
  obtain ⟨h1, h2, h3⟩ := Classical.choose_spec hex
  congr 1
  rcases Nat.lt_trichotomy (Classical.choose hex) k with h | h | h
  · exact absurd h2 (hm _ h)
  · exact h
  · exact absurd e (h3 _ h)
theorem idx_cases (xs : List Int) (x : Int) : (idx xs x = -1 ∧ ¬ x ∈ xs) ∨ ∃ k, k < xs.length ∧ gi xs k = x ∧ (∀ j, j < k → gi xs j ≠ x) ∧ idx xs x = k := by
  by_cases h : x ∈ xs
  · right
    have key : ∀ n, (∃ k, k < n ∧ k < xs.length ∧ gi xs k = x) → ∃ k, k < xs.length ∧ gi xs k = x ∧ ∀ j, j < k → gi xs j ≠ x := by
      intro n
      induction n with
      | zero => rintro ⟨k, h, _⟩; omega
      | succ n ih =>
        rintro ⟨k, h1, h2, h3⟩
        by_cases hc : ∃ k, k < n ∧ k < xs.length ∧ gi xs k = x
        · exact ih hc
        · exact ⟨k, h2, h3, fun j hj e => hc ⟨j, by omega, by omega, e⟩⟩
    obtain ⟨k, h1, h2⟩ := mem_gi h
    obtain ⟨k, h1, h2, h3⟩ := key xs.length ⟨k, h1, h1, h2⟩
    exact ⟨k, h1, h2, h3, idx_at h1 h2 h3⟩
  · exact Or.inl ⟨idx_no h, h⟩

set_option maxHeartbeats 400000 in
theorem index_any (sa : Option Addr) (n c : Nat) (xs : List Int) (x : Int) (w : World) (hI : Ints w sa n c xs) :
    Calls Try.prog 150 #[.slice sa n c, .int .i64 x] w fun e w' => e = .returned (.int .i64 (idx xs x)) ∧ w = w' := by
  have hmax := hI.max
  have HL := Lib.hid hI.1
  go_enter Try.func150, Try.ntmps150
  go_wp2
  go_loop [8] (fun i => ∃ k : Nat, k ≤ n ∧ i = .int .i64 k ∧ ∀ j, j < k → gi xs j ≠ x) (fun i => n - (intOf i).toNat)
  case atStart => exact ⟨0, by omega, rfl, fun j hj => by omega⟩
  case round =>
    obtain ⟨k, hk, rfl, hS⟩ := hrel
    have HS := Lib.hid hS; clear hS
    by_cases hlt : k < n
    · obtain ⟨b, o, rfl, hSb, hc⟩ := hI.get hlt
      have hck := hc k hlt
      clear hc
      by_cases he : gi xs k = x
      · have HE := Lib.hid he
        have hd : (x == gi xs k) = true := by simp [he]
        clear he
        go_wp2
        go_ret
        exact ⟨ret_int (idx_at (by rw [HL.out]; exact hlt) HE.out HS.out).symm, rfl⟩
      · have HE := Lib.hid he
        have hd : (x == gi xs k) = false := by simp; exact fun h => he h.symm
        clear he
        go_wp2
        go_round
        case rel => exact ⟨k + 1, by omega, by go_num, fun j hj => by
          by_cases e : j = k
          · rw [e]; exact HE.out
          · exact HS.out j (by omega)⟩
        case measure => simp [intOf]; omega
    · go_wp2
      go_ret
      exact ⟨ret_int (idx_no (fun h => by obtain ⟨k', h1, h2⟩ := mem_gi h; exact HS.out k' (by rw [HL.out] at h1; omega) h2)).symm, rfl⟩

theorem contains_any (sa : Option Addr) (n c : Nat) (xs : List Int) (x : Int) (w : World) (hI : Ints w sa n c xs) :
    Calls Try.prog 92 #[.slice sa n c, .int .i64 x] w fun e w' => e = .returned (.bool (tf (x ∈ xs))) ∧ w = w' := by
  rcases idx_cases xs x with ⟨h1, h2⟩ | ⟨k, h1, h2, h3, h4⟩
  · rw [tf_false h2]
    have H1 := Lib.hid h1
    clear h1 h2
    go_enter Try.func92, Try.ntmps92
    go_wp2_with (go_at_call 150; refine (index_any _ _ _ _ _ _ hI).mono ?_; rw [H1.out]; rintro e w2 ⟨rfl, rfl⟩)
    go_ret
    exact ⟨rfl, rfl⟩
  · rw [tf_true (by rw [← h2]; exact gi_mem h1)]
    have H4 := Lib.hid h4
    clear h1 h2 h3 h4
    go_enter Try.func92, Try.ntmps92
    go_wp2_with (go_at_call 150; refine (index_any _ _ _ _ _ _ hI).mono ?_; rw [H4.out]; rintro e w2 ⟨rfl, rfl⟩)
    go_ret
    exact ⟨ret_bool (by simp), rfl⟩

/-- The greatest priority of the first k vertices of a list, -1: none. -/
def topTo (pr : List Int) (xs : List Int) : Nat → Int
  | 0 => -1
  | k + 1 => max (topTo pr xs k) (gi pr (gi xs k).toNat)
set_option maxHeartbeats 400000 in
theorem topIn_i (v u : Value) (g : Pa) (xs : List Int) (w : World) (hP : IsP w v g) (hx : IsI w u xs) (hB : Bnd xs g.prio.length) : Calls Try.prog 172 #[v, u] w (Bi w (topTo g.prio xs xs.length)) := by
  obtain ⟨_, _, _, rfl, ⟨s1, n1, c1, rfl, h1⟩, ⟨s2, n2, c2, rfl, h2⟩, ⟨s3, n3, c3, rfl, h3⟩⟩ := hP
  obtain ⟨s4, n4, c4, rfl, h4⟩ := hx
  have hm4 := h4.max
  have hm3 := h3.max
  obtain rfl := h4.1
  have H3 := Lib.hid h3.1
  have HB := Lib.hid hB
  clear hB
  go_enter Try.func172, Try.ntmps172
  go_wp2
  go_loop [5, 10] (fun t i => ∃ k : Nat, k ≤ xs.length ∧ i = .int .i64 k ∧ t = .int .i64 (topTo g.prio xs k)) (fun _ i => xs.length - (intOf i).toNat)
  case atStart => exact ⟨0, by omega, rfl, rfl⟩
  case round =>
    obtain ⟨k, hk, rfl, rfl⟩ := hrel
    by_cases hlt : k < xs.length
    · obtain ⟨b, o, rfl, hbl, hc⟩ := h4.get hlt
      have hck := hc k hlt
      clear hc
      obtain ⟨hb0, hb1⟩ := HB.out k hlt
      have hb2 : (gi xs k).toNat < n3 := by have := H3.out; omega
      obtain ⟨b3, o3, rfl, hbl3, hc3⟩ := h3.get hb2
      have hck3 := hc3 _ hb2
      have hb1' : gi xs k < n3 := by omega
      have HT := Lib.hid (show topTo g.prio xs (k + 1) = max (topTo g.prio xs k) (gi g.prio (gi xs k).toNat) from rfl)
      clear hc3 hb1
      go_wp2
      go_round
      case rel => exact ⟨k + 1, by omega, by go_num, by rw [HT.out]; congr 1; split <;> omega⟩
      case measure => simp [intOf]; omega
    · go_wp2
      go_ret
      have e : k = xs.length := by omega
      subst e
      exact ⟨rfl, (by repeat' (first | (with_reducible exact Below.refl _ _) | (with_reducible apply Below.alloc) | (with_reducible apply Below.drew) | (with_reducible apply below_drawn) | omega | (simp only [World.size_alloc, World.size_setCell, World.size_drew]; omega)))⟩

set_option maxHeartbeats 400000 in
theorem allOf_any (n : Nat) (w : World) (hn : n ≤ 256) : Calls Try.prog 161 #[.int .i64 n] w (RetI' w (tab n fun v => v)) := by
  go_enter Try.func161, Try.ntmps161
  go_wp2
  go_loopw [3, 4] (fun v i wr => ∃ (k c : Nat) (sa : Option Addr), k ≤ n ∧ i = .int .i64 k ∧ v = .slice sa k c ∧ OwnI w.heap.size wr.heap.size wr (.slice sa k c) (tab k fun v => v) ∧ Below w.heap.size w wr) (fun _ i _ => n - (intOf i).toNat)
  case atStart => exact ⟨0, 0, _, by omega, rfl, rfl, own_nil _ _ 0 (Nat.le_refl _), below_alloc _ _⟩
  case round =>
    obtain ⟨k, c, sa, hk, rfl, rfl, ho, hb⟩ := hrel
    by_cases hlt : k < n
    · go_wp2_with (at_builtin; refine app_int rfl _ _ rfl rfl (OwnI.alloc ho _) k _ _ rfl (by simp) (by simp; omega) (by have := hb.size; simp; omega) ?_; intro sa' c' w2 ho2 hO2)
      go_roundw
      case rel =>
        rw [tab_len] at *
        exact ⟨k + 1, c', sa', by omega, by go_num, rfl, by rwa [← tab_succ (f := fun v => (v : Int))] at ho2, bel_app hb hO2⟩
      case measure => simp [intOf]; omega
    · go_wp2
      go_ret
      have e : k = n := by omega
      subst e
      exact ⟨_, _, _, rfl, ho, hb⟩
theorem allOf_i (v : Value) (a : Ar) (w : World) (hA : IsA w v a) (hn : a.own.length ≤ 256) : Calls Try.prog 127 #[v] w (RetI' w (tab a.own.length fun v => v)) := by
  obtain ⟨_, _, rfl, ⟨s1, n1, c1, rfl, h1⟩, ⟨s2, n2, c2, rfl, h2⟩⟩ := id hA
  go_enter Try.func127, Try.ntmps127
  go_wp2_with (first
    | (go_at_call 84; refine (size_i _ _ _ (hA.below (by repeat' (first | (with_reducible exact Below.refl _ _) | (with_reducible apply Below.alloc) | (with_reducible apply Below.drew) | (with_reducible apply below_drawn) | omega | (simp only [World.size_alloc, World.size_setCell, World.size_drew]; omega))))).mono ?_; rintro e w2 ⟨rfl, hb2⟩)
    | (go_at_call 161; refine (allOf_any _ _ hn).mono ?_; rintro e w3 ⟨s3, n3, c3, rfl, ho3, hb3⟩))
  go_ret
  have hz2 := hb2.size
  simp only [World.size_alloc] at hz2
  exact ⟨_, _, _, rfl, ho3.mono (by omega) (Nat.le_refl _), (by repeat' (first | (with_reducible exact Below.refl _ _) | (with_reducible assumption) | (with_reducible apply below_set) | (with_reducible apply Below.alloc) | (with_reducible apply Below.drew) | (with_reducible apply below_drawn) | (with_reducible refine Below.trans ?_ (Below.mono (by assumption) ?_)) | omega | (simp only [World.size_alloc, World.size_setCell, World.size_drew]; omega)))⟩

set_option maxHeartbeats 400000 in
theorem markOf_i (v u : Value) (a : Ar) (xs : List Int) (w : World) (hA : IsA w v a) (hx : IsI w u xs) (hB : Bnd xs a.own.length) (hn : a.own.length ≤ 256) :
    Calls Try.prog 143 #[v, u] w (RetB' w (mks a.own.length fun v => (v : Int) ∈ xs)) := by
  obtain ⟨_, _, rfl, ⟨s1, n1, c1, rfl, h1⟩, ⟨s2, n2, c2, rfl, h2⟩⟩ := hA
  obtain ⟨s4, n4, c4, rfl, h4⟩ := hx
  have hm := h1.max
  have hm4 := h4.max
  obtain rfl := h1.1
  obtain rfl := h4.1
  have HB := Lib.hid hB
  clear hB
  go_enter Try.func143, Try.ntmps143
  go_wp2_with (at_make; refine mk_bools rfl _ _ rfl _ _ _ _ a.own.length rfl rfl rfl rfl (by omega) ?_; intro w1 ho1 hb1 hz1)
  replace hb1 : Below w.heap.size w w1 := (below_alloc _ _).trans (hb1.mono (by simp))
  go_loopw [14] (fun i wr => ∃ k : Nat, k ≤ xs.length ∧ i = .int .i64 k ∧ OwnB w.heap.size wr.heap.size wr (.slice (some ⟨w.heap.size + 1, 0, none⟩) a.own.length a.own.length) (mks a.own.length fun v => ∃ j, j < k ∧ gi xs j = v) ∧ Below w.heap.size w wr) (fun i _ => xs.length - (intOf i).toNat)
  case atStart => exact ⟨0, by omega, rfl, by
    have := ho1.mono (lo' := w.heap.size) (by simp) (Nat.le_refl _)
    simp only [World.size_alloc] at this
    rwa [show (tabb a.own.length fun _ => false) = mks a.own.length fun v => ∃ j, j < 0 ∧ gi xs j = v from tabb_congr fun k _ => (tf_false (by rintro ⟨j, h, _⟩; omega)).symm] at this, hb1⟩
  case round =>
    obtain ⟨k, hk, rfl, ho, hb⟩ := hrel
    by_cases hlt : k < xs.length
    · obtain ⟨b, o, rfl, hbl, hc⟩ := (h4.below hb).get hlt
      have hck := hc k hlt
      clear hc
      obtain ⟨hb0, hb1⟩ := HB.out k hlt
      have hb2 : (gi xs k).toNat < a.own.length := by omega
      obtain ⟨q1, q2, q3, q4⟩ := ho.cell hb2
      go_wp2
      go_roundw
      case rel =>
        refine ⟨k + 1, by omega, by go_num, ?_, below_set hb (by omega) _⟩
        have := (OwnB.set ho (gi xs k).toNat true).top
        unfold mks at this
        rw [tabb_set hb2] at this
        rwa [show mks a.own.length (fun v => ∃ j, j < k + 1 ∧ gi xs j = v) = _ from tabb_congr fun i hi => ?_]
        by_cases e : i = (gi xs k).toNat
        · rw [if_pos e]; exact tf_true ⟨k, by omega, by omega⟩
        · rw [if_neg e]; exact tf_congr ⟨fun ⟨j, h1, h2⟩ => ⟨j, by
            by_cases ej : j = k
            · subst ej; omega
            · omega, h2⟩, fun ⟨j, h1, h2⟩ => ⟨j, by omega, h2⟩⟩
      case measure => simp [intOf]; omega
    · go_wp2
      go_ret
      have e : k = xs.length := by omega
      subst e
      refine ⟨_, _, _, rfl, ?_, hb⟩
      rwa [mks_congr (q := fun v => (v : Int) ∈ xs) fun v hv => mem_iff_gi.symm] at ho

end Go.Proofs.Ythdioaeekhkgcaa
