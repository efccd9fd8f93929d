/-
  The exact laws' comparisons.
-/
import Derived.Test.YthdioaeekhkgcaaEx2
namespace Go.Proofs.Ythdioaeekhkgcaa
set_option linter.unusedVariables false
set_option linter.unusedSimpArgs false
open Go.RowKit

/-- A Bool comes back; the world has at most drawn. -/
def Qb (w : World) (b : Bool) (e : Ending) (w' : World) : Prop := e = .returned (.bool b) ∧ ∃ m, w' = w.drewN m
/-- A Bool comes back; new blocks alone. -/
def Bb (w : World) (b : Bool) (e : Ending) (w' : World) : Prop := e = .returned (.bool b) ∧ Below w.heap.size w w'
theorem Qb.bb {w : World} {b : Bool} {e : Ending} {w' : World} (h : Qb w b e w') : Bb w b e w' := by
  obtain ⟨h, m, rfl⟩ := h
  exact ⟨h, below_drewN w m⟩
def Qt (w w' : World) : Prop := ∃ m, w' = w.drewN m
theorem Qt.refl (w : World) : Qt w w := ⟨0, rfl⟩
theorem Qt.drewN {w w' : World} (h : Qt w w') (m : Nat) : Qt w (w'.drewN m) := by
  obtain ⟨q, rfl⟩ := h
  exact ⟨q + m, World.drewN_drewN _ _ _⟩
theorem Qt.below {w w' : World} (h : Qt w w') : Below w.heap.size w w' := by
  obtain ⟨q, rfl⟩ := h
  exact below_drewN w q
theorem IsI.drewN {w : World} {v : Value} {xs : List Int} (h : IsI w v xs) (m : Nat) : IsI (w.drewN m) v xs := h.below (below_drewN w m)
theorem Ints.drewN {w : World} {sa : Option Addr} {n c : Nat} {xs : List Int} (h : Ints w sa n c xs) (m : Nat) : Ints (w.drewN m) sa n c xs := h.below (below_drewN w m)
theorem Rws.drewN {w : World} {sa : Option Addr} {n c : Nat} {xs : List (List Int)} (h : Rws w sa n c xs) (m : Nat) : Rws (w.drewN m) sa n c xs := h.below (below_drewN w m)

theorem eq_to {xs ys : List Int} {n : Nat} (h1 : xs.length = n) (h2 : ys.length = n) (h : ∀ j, j < n → gi xs j = gi ys j) : xs = ys := ext_gi (by omega) fun k hk => h k (by omega)
theorem eqr_to {xs ys : List (List Int)} {n : Nat} (h1 : xs.length = n) (h2 : ys.length = n) (h : ∀ j, j < n → gr xs j = gr ys j) : xs = ys := ext_gr (by omega) fun k hk => h k (by omega)

set_option maxHeartbeats 400000 in
theorem eqI_any (sa : Option Addr) (n c : Nat) (xs : List Int) (sb : Option Addr) (m d : Nat) (ys : List Int) (w : World) (hx : Ints w sa n c xs) (hy : Ints w sb m d ys) :
    Calls Try.prog 23 #[.slice sa n c, .slice sb m d] w (Qb w (tf (xs = ys))) := by
  have hmax := hx.max
  have hmay := hy.max
  have HX := Lib.hid hx.1
  have HY := Lib.hid hy.1
  by_cases hnm : n = m
  · subst hnm
    go_enter Try.func23, Try.ntmps23
    go_wp2
    go_loopw [5] (fun i wr => ∃ k : Nat, k ≤ n ∧ i = .int .i64 k ∧ (∀ j, j < k → gi xs j = gi ys j) ∧ Qt w wr) (fun i _ => n - (intOf i).toNat)
    case atStart => exact ⟨0, by omega, rfl, fun j hj => by omega, Qt.refl w⟩
    case round =>
      obtain ⟨k, hk, rfl, he, hq⟩ := hrel
      have HE := Lib.hid he
      clear he
      by_cases hlt : k < n
      · obtain ⟨b1, o1, rfl, hb1, hc1⟩ := (hx.below hq.below).get hlt
        obtain ⟨b2, o2, rfl, hb2, hc2⟩ := (hy.below hq.below).get hlt
        have hk1 := hc1 k hlt
        have hk2 := hc2 k hlt
        have i0 : (0 : Int) ≤ (k : Int) := by omega
        have i1 : (k : Int) < (n : Int) := by omega
        clear hc1 hc2
        go_wp2
        go_quiet (fail)
        by_cases heq : gi xs k = gi ys k
        · have HQ := Lib.hid heq
          have hb : (gi xs k != gi ys k) = false := by simp [heq]
          clear heq
          go_wp2
          go_roundw
          case rel => exact ⟨k + 1, by omega, by go_num, fun j hj => by
            by_cases e : j = k
            · rw [e]; exact HQ.out
            · exact HE.out j (by omega), hq.drewN _⟩
          case measure => simp [intOf]; omega
        · have hb : (gi xs k != gi ys k) = true := by simp [heq]
          go_wp2
          go_ret
          exact ⟨ret_bool (tf_false (fun e => heq (by rw [e]))).symm, hq.drewN _⟩
      · go_wp2
        go_ret
        exact ⟨ret_bool (tf_true (eq_to HX.out HY.out (fun j hj => HE.out j (by omega)))).symm, hq⟩
  · go_enter Try.func23, Try.ntmps23
    go_wp2
    go_ret
    exact ⟨ret_bool (tf_false (fun e => hnm (by rw [← HX.out, ← HY.out, e]))).symm, 0, rfl⟩

set_option maxHeartbeats 400000 in
theorem eqII_any (sa : Option Addr) (n c : Nat) (xs : List (List Int)) (sb : Option Addr) (m d : Nat) (ys : List (List Int)) (w : World) (hx : Rws w sa n c xs) (hy : Rws w sb m d ys) :
    Calls Try.prog 138 #[.slice sa n c, .slice sb m d] w (Qb w (tf (xs = ys))) := by
  have hmax := hx.max
  have hmay := hy.max
  have HX := Lib.hid hx.len
  have HY := Lib.hid hy.len
  by_cases hnm : n = m
  · subst hnm
    go_enter Try.func138, Try.ntmps138
    go_wp2
    go_loopw [5] (fun i wr => ∃ k : Nat, k ≤ n ∧ i = .int .i64 k ∧ (∀ j, j < k → gr xs j = gr ys j) ∧ Qt w wr) (fun i _ => n - (intOf i).toNat)
    case atStart => exact ⟨0, by omega, rfl, fun j hj => by omega, Qt.refl w⟩
    case round =>
      obtain ⟨k, hk, rfl, he, hq⟩ := hrel
      have HE := Lib.hid he
      clear he
      by_cases hlt : k < n
      · obtain ⟨b1, o1, rfl, hb1, A1, L1, C1, hc1⟩ := (hx.below hq.below).get hlt
        obtain ⟨b2, o2, rfl, hb2, A2, L2, C2, hc2⟩ := (hy.below hq.below).get hlt
        obtain ⟨hk1, hi1⟩ := hc1 k hlt
        obtain ⟨hk2, hi2⟩ := hc2 k hlt
        have i0 : (0 : Int) ≤ (k : Int) := by omega
        have i1 : (k : Int) < (n : Int) := by omega
        clear hc1 hc2
        by_cases heq : gr xs k = gr ys k
        · have hcall : ∀ q, Calls Try.prog 23 #[.slice (A1 k) (L1 k) (C1 k), .slice (A2 k) (L2 k) (C2 k)] (wr.drewN q) (Qb (wr.drewN q) true) := fun q => by
            have := eqI_any _ _ _ _ _ _ _ _ _ (hi1.drewN q) (hi2.drewN q)
            rwa [tf_true heq] at this
          have HC := Lib.hid hcall
          have HQ := Lib.hid heq
          clear heq hcall
          go_wp2
          go_quiet ((go_at_call 23; exact Calls.quiet_of (HC.out _)))
          go_wp2
          go_roundw
          case rel => exact ⟨k + 1, by omega, by go_num, fun j hj => by
            by_cases e : j = k
            · rw [e]; exact HQ.out
            · exact HE.out j (by omega), hq.drewN _⟩
          case measure => simp [intOf]; omega
        · have hcall : ∀ q, Calls Try.prog 23 #[.slice (A1 k) (L1 k) (C1 k), .slice (A2 k) (L2 k) (C2 k)] (wr.drewN q) (Qb (wr.drewN q) false) := fun q => by
            have := eqI_any _ _ _ _ _ _ _ _ _ (hi1.drewN q) (hi2.drewN q)
            rwa [tf_false heq] at this
          have HC := Lib.hid hcall
          have HQ := Lib.hid heq
          clear heq hcall
          go_wp2
          go_quiet ((go_at_call 23; exact Calls.quiet_of (HC.out _)))
          go_wp2
          go_ret
          exact ⟨ret_bool (tf_false (fun e => HQ.out (by rw [e]))).symm, hq.drewN _⟩
      · go_wp2
        go_ret
        exact ⟨ret_bool (tf_true (eqr_to HX.out HY.out (fun j hj => HE.out j (by omega)))).symm, hq⟩
  · go_enter Try.func138, Try.ntmps138
    go_wp2
    go_ret
    exact ⟨ret_bool (tf_false (fun e => hnm (by rw [← HX.out, ← HY.out, e]))).symm, 0, rfl⟩
theorem ar_eq {a b : Ar} (h1 : a.own = b.own) (h2 : a.nxt = b.nxt) : a = b := by cases a; cases b; simp_all
theorem pa_eq {a b : Pa} (h1 : a.ar = b.ar) (h2 : a.prio = b.prio) : a = b := by cases a; cases b; simp_all

set_option maxHeartbeats 1000000 in
theorem eqA_any (v u : Value) (a b : Ar) (w : World) (hA : IsA w v a) (hB : IsA w u b) :
    Calls Try.prog 72 #[v, u] w (Bb w (tf (a = b))) := by
  obtain ⟨_, _, rfl, ⟨s1, n1, c1, rfl, h1⟩, ⟨s2, n2, c2, rfl, h2⟩⟩ := hA
  obtain ⟨_, _, rfl, ⟨s3, n3, c3, rfl, h3⟩, ⟨s4, n4, c4, rfl, h4⟩⟩ := hB
  by_cases ho : a.own = b.own
  · have k1 : tf (a.own = b.own) = true := tf_true ho
    have HO := Lib.hid ho
    clear ho
    by_cases hn : a.nxt = b.nxt
    · have k2 : tf (a.nxt = b.nxt) = true := tf_true hn
      have HN := Lib.hid hn
      clear hn
      go_enter Try.func72, Try.ntmps72
      go_wp2_with (first
        | (go_at_call 23; refine (eqI_any _ _ _ _ _ _ _ _ _ ((h1.alloc _).alloc _) ((h3.alloc _).alloc _)).mono ?_; rw [k1]; rintro e w2 ⟨rfl, m2, rfl⟩)
        | (go_at_call 138; refine (eqII_any _ _ _ _ _ _ _ _ _ ((h2.below (by repeat' (first | (with_reducible exact Below.refl _ _) | (with_reducible assumption) | (with_reducible apply below_set) | (with_reducible apply Below.alloc) | (with_reducible apply Below.drew) | (with_reducible apply below_drawn) | (with_reducible refine Below.trans ?_ (Below.mono (by assumption) ?_)) | omega | (simp only [World.size_alloc, World.size_setCell, World.size_drew]; omega))))) ((h4.below (by repeat' (first | (with_reducible exact Below.refl _ _) | (with_reducible assumption) | (with_reducible apply below_set) | (with_reducible apply Below.alloc) | (with_reducible apply Below.drew) | (with_reducible apply below_drawn) | (with_reducible refine Below.trans ?_ (Below.mono (by assumption) ?_)) | omega | (simp only [World.size_alloc, World.size_setCell, World.size_drew]; omega)))))).mono ?_; rw [k2]; rintro e w2 ⟨rfl, m2, rfl⟩))
      go_ret
      exact ⟨ret_bool (tf_true (ar_eq HO.out HN.out)).symm, (by repeat' (first | (with_reducible exact Below.refl _ _) | (with_reducible assumption) | (with_reducible apply below_set) | (with_reducible apply Below.alloc) | (with_reducible apply Below.drew) | (with_reducible apply below_drawn) | (with_reducible refine Below.trans ?_ (Below.mono (by assumption) ?_)) | omega | (simp only [World.size_alloc, World.size_setCell, World.size_drew]; omega)))⟩
    · have k2 : tf (a.nxt = b.nxt) = false := tf_false hn
      have HN := Lib.hid hn
      clear hn
      go_enter Try.func72, Try.ntmps72
      go_wp2_with (first
        | (go_at_call 23; refine (eqI_any _ _ _ _ _ _ _ _ _ ((h1.alloc _).alloc _) ((h3.alloc _).alloc _)).mono ?_; rw [k1]; rintro e w2 ⟨rfl, m2, rfl⟩)
        | (go_at_call 138; refine (eqII_any _ _ _ _ _ _ _ _ _ ((h2.below (by repeat' (first | (with_reducible exact Below.refl _ _) | (with_reducible assumption) | (with_reducible apply below_set) | (with_reducible apply Below.alloc) | (with_reducible apply Below.drew) | (with_reducible apply below_drawn) | (with_reducible refine Below.trans ?_ (Below.mono (by assumption) ?_)) | omega | (simp only [World.size_alloc, World.size_setCell, World.size_drew]; omega))))) ((h4.below (by repeat' (first | (with_reducible exact Below.refl _ _) | (with_reducible assumption) | (with_reducible apply below_set) | (with_reducible apply Below.alloc) | (with_reducible apply Below.drew) | (with_reducible apply below_drawn) | (with_reducible refine Below.trans ?_ (Below.mono (by assumption) ?_)) | omega | (simp only [World.size_alloc, World.size_setCell, World.size_drew]; omega)))))).mono ?_; rw [k2]; rintro e w2 ⟨rfl, m2, rfl⟩))
      go_ret
      exact ⟨ret_bool (tf_false (fun e => HN.out (by rw [e]))).symm, (by repeat' (first | (with_reducible exact Below.refl _ _) | (with_reducible assumption) | (with_reducible apply below_set) | (with_reducible apply Below.alloc) | (with_reducible apply Below.drew) | (with_reducible apply below_drawn) | (with_reducible refine Below.trans ?_ (Below.mono (by assumption) ?_)) | omega | (simp only [World.size_alloc, World.size_setCell, World.size_drew]; omega)))⟩
  · have k1 : tf (a.own = b.own) = false := tf_false ho
    have HO := Lib.hid ho
    clear ho
    go_enter Try.func72, Try.ntmps72
    go_wp2_with (first
      | (go_at_call 23; refine (eqI_any _ _ _ _ _ _ _ _ _ ((h1.alloc _).alloc _) ((h3.alloc _).alloc _)).mono ?_; rw [k1]; rintro e w2 ⟨rfl, m2, rfl⟩)
      | (go_at_call 138; refine (eqII_any _ _ _ _ _ _ _ _ _ ((h2.below (by repeat' (first | (with_reducible exact Below.refl _ _) | (with_reducible assumption) | (with_reducible apply below_set) | (with_reducible apply Below.alloc) | (with_reducible apply Below.drew) | (with_reducible apply below_drawn) | (with_reducible refine Below.trans ?_ (Below.mono (by assumption) ?_)) | omega | (simp only [World.size_alloc, World.size_setCell, World.size_drew]; omega))))) ((h4.below (by repeat' (first | (with_reducible exact Below.refl _ _) | (with_reducible assumption) | (with_reducible apply below_set) | (with_reducible apply Below.alloc) | (with_reducible apply Below.drew) | (with_reducible apply below_drawn) | (with_reducible refine Below.trans ?_ (Below.mono (by assumption) ?_)) | omega | (simp only [World.size_alloc, World.size_setCell, World.size_drew]; omega)))))).mono ?_; rw [k2]; rintro e w2 ⟨rfl, m2, rfl⟩))
    go_ret
    exact ⟨ret_bool (tf_false (fun e => HO.out (by rw [e]))).symm, (by repeat' (first | (with_reducible exact Below.refl _ _) | (with_reducible assumption) | (with_reducible apply below_set) | (with_reducible apply Below.alloc) | (with_reducible apply Below.drew) | (with_reducible apply below_drawn) | (with_reducible refine Below.trans ?_ (Below.mono (by assumption) ?_)) | omega | (simp only [World.size_alloc, World.size_setCell, World.size_drew]; omega)))⟩

set_option maxHeartbeats 1000000 in
theorem eqP_any (v u : Value) (a b : Pa) (w : World) (hA : IsP w v a) (hB : IsP w u b) :
    Calls Try.prog 19 #[v, u] w (Bb w (tf (a = b))) := by
  obtain ⟨_, _, _, rfl, ⟨s1, n1, c1, rfl, h1⟩, ⟨s2, n2, c2, rfl, h2⟩, ⟨s5, n5, c5, rfl, h5⟩⟩ := hA
  obtain ⟨_, _, _, rfl, ⟨s3, n3, c3, rfl, h3⟩, ⟨s4, n4, c4, rfl, h4⟩, ⟨s6, n6, c6, rfl, h6⟩⟩ := hB
  have hX : IsA w (.agg #[.slice s1 n1 c1, .slice s2 n2 c2]) a.ar := ⟨_, _, rfl, h1.is, h2.is⟩
  have hY : IsA w (.agg #[.slice s3 n3 c3, .slice s4 n4 c4]) b.ar := ⟨_, _, rfl, h3.is, h4.is⟩
  by_cases ho : a.ar = b.ar
  · have k1 : tf (a.ar = b.ar) = true := tf_true ho
    have HO := Lib.hid ho
    clear ho
    by_cases hn : a.prio = b.prio
    · have k2 : tf (a.prio = b.prio) = true := tf_true hn
      have HN := Lib.hid hn
      clear hn
      go_enter Try.func19, Try.ntmps19
      go_wp2_with (first
        | (go_at_call 72; refine (eqA_any _ _ _ _ _ (hX.below (by repeat' (first | (with_reducible exact Below.refl _ _) | (with_reducible assumption) | (with_reducible apply below_set) | (with_reducible apply Below.alloc) | (with_reducible apply Below.drew) | (with_reducible apply below_drawn) | (with_reducible refine Below.trans ?_ (Below.mono (by assumption) ?_)) | omega | (simp only [World.size_alloc, World.size_setCell, World.size_drew]; omega)))) (hY.below (by repeat' (first | (with_reducible exact Below.refl _ _) | (with_reducible assumption) | (with_reducible apply below_set) | (with_reducible apply Below.alloc) | (with_reducible apply Below.drew) | (with_reducible apply below_drawn) | (with_reducible refine Below.trans ?_ (Below.mono (by assumption) ?_)) | omega | (simp only [World.size_alloc, World.size_setCell, World.size_drew]; omega))))).mono ?_; rw [k1]; rintro e w2 ⟨rfl, hb2⟩; have hcf := bcell hb2; obtain ⟨hcell2, hfr2⟩ := hcf)
        | (go_at_call 23; refine (eqI_any _ _ _ _ _ _ _ _ _ ((h5.below (by repeat' (first | (with_reducible exact Below.refl _ _) | (with_reducible assumption) | (with_reducible apply below_set) | (with_reducible apply Below.alloc) | (with_reducible apply Below.drew) | (with_reducible apply below_drawn) | (with_reducible refine Below.trans ?_ (Below.mono (by assumption) ?_)) | omega | (simp only [World.size_alloc, World.size_setCell, World.size_drew]; omega))))) ((h6.below (by repeat' (first | (with_reducible exact Below.refl _ _) | (with_reducible assumption) | (with_reducible apply below_set) | (with_reducible apply Below.alloc) | (with_reducible apply Below.drew) | (with_reducible apply below_drawn) | (with_reducible refine Below.trans ?_ (Below.mono (by assumption) ?_)) | omega | (simp only [World.size_alloc, World.size_setCell, World.size_drew]; omega)))))).mono ?_; rw [k2]; rintro e w3 ⟨rfl, m3, rfl⟩))
      go_ret
      exact ⟨ret_bool (tf_true (pa_eq HO.out HN.out)).symm, (by repeat' (first | (with_reducible exact Below.refl _ _) | (with_reducible assumption) | (with_reducible apply below_set) | (with_reducible apply Below.alloc) | (with_reducible apply Below.drew) | (with_reducible apply below_drawn) | (with_reducible refine Below.trans ?_ (Below.mono (by assumption) ?_)) | omega | (simp only [World.size_alloc, World.size_setCell, World.size_drew]; omega)))⟩
    · have k2 : tf (a.prio = b.prio) = false := tf_false hn
      have HN := Lib.hid hn
      clear hn
      go_enter Try.func19, Try.ntmps19
      go_wp2_with (first
        | (go_at_call 72; refine (eqA_any _ _ _ _ _ (hX.below (by repeat' (first | (with_reducible exact Below.refl _ _) | (with_reducible assumption) | (with_reducible apply below_set) | (with_reducible apply Below.alloc) | (with_reducible apply Below.drew) | (with_reducible apply below_drawn) | (with_reducible refine Below.trans ?_ (Below.mono (by assumption) ?_)) | omega | (simp only [World.size_alloc, World.size_setCell, World.size_drew]; omega)))) (hY.below (by repeat' (first | (with_reducible exact Below.refl _ _) | (with_reducible assumption) | (with_reducible apply below_set) | (with_reducible apply Below.alloc) | (with_reducible apply Below.drew) | (with_reducible apply below_drawn) | (with_reducible refine Below.trans ?_ (Below.mono (by assumption) ?_)) | omega | (simp only [World.size_alloc, World.size_setCell, World.size_drew]; omega))))).mono ?_; rw [k1]; rintro e w2 ⟨rfl, hb2⟩; have hcf := bcell hb2; obtain ⟨hcell2, hfr2⟩ := hcf)
        | (go_at_call 23; refine (eqI_any _ _ _ _ _ _ _ _ _ ((h5.below (by repeat' (first | (with_reducible exact Below.refl _ _) | (with_reducible assumption) | (with_reducible apply below_set) | (with_reducible apply Below.alloc) | (with_reducible apply Below.drew) | (with_reducible apply below_drawn) | (with_reducible refine Below.trans ?_ (Below.mono (by assumption) ?_)) | omega | (simp only [World.size_alloc, World.size_setCell, World.size_drew]; omega))))) ((h6.below (by repeat' (first | (with_reducible exact Below.refl _ _) | (with_reducible assumption) | (with_reducible apply below_set) | (with_reducible apply Below.alloc) | (with_reducible apply Below.drew) | (with_reducible apply below_drawn) | (with_reducible refine Below.trans ?_ (Below.mono (by assumption) ?_)) | omega | (simp only [World.size_alloc, World.size_setCell, World.size_drew]; omega)))))).mono ?_; rw [k2]; rintro e w3 ⟨rfl, m3, rfl⟩))
      go_ret
      exact ⟨ret_bool (tf_false (fun e => HN.out (by rw [e]))).symm, (by repeat' (first | (with_reducible exact Below.refl _ _) | (with_reducible assumption) | (with_reducible apply below_set) | (with_reducible apply Below.alloc) | (with_reducible apply Below.drew) | (with_reducible apply below_drawn) | (with_reducible refine Below.trans ?_ (Below.mono (by assumption) ?_)) | omega | (simp only [World.size_alloc, World.size_setCell, World.size_drew]; omega)))⟩
  · have k1 : tf (a.ar = b.ar) = false := tf_false ho
    have HO := Lib.hid ho
    clear ho
    go_enter Try.func19, Try.ntmps19
    go_wp2_with (first
      | (go_at_call 72; refine (eqA_any _ _ _ _ _ (hX.below (by repeat' (first | (with_reducible exact Below.refl _ _) | (with_reducible assumption) | (with_reducible apply below_set) | (with_reducible apply Below.alloc) | (with_reducible apply Below.drew) | (with_reducible apply below_drawn) | (with_reducible refine Below.trans ?_ (Below.mono (by assumption) ?_)) | omega | (simp only [World.size_alloc, World.size_setCell, World.size_drew]; omega)))) (hY.below (by repeat' (first | (with_reducible exact Below.refl _ _) | (with_reducible assumption) | (with_reducible apply below_set) | (with_reducible apply Below.alloc) | (with_reducible apply Below.drew) | (with_reducible apply below_drawn) | (with_reducible refine Below.trans ?_ (Below.mono (by assumption) ?_)) | omega | (simp only [World.size_alloc, World.size_setCell, World.size_drew]; omega))))).mono ?_; rw [k1]; rintro e w2 ⟨rfl, hb2⟩; have hcf := bcell hb2; obtain ⟨hcell2, hfr2⟩ := hcf)
      | (go_at_call 23; refine (eqI_any _ _ _ _ _ _ _ _ _ ((h5.below (by repeat' (first | (with_reducible exact Below.refl _ _) | (with_reducible assumption) | (with_reducible apply below_set) | (with_reducible apply Below.alloc) | (with_reducible apply Below.drew) | (with_reducible apply below_drawn) | (with_reducible refine Below.trans ?_ (Below.mono (by assumption) ?_)) | omega | (simp only [World.size_alloc, World.size_setCell, World.size_drew]; omega))))) ((h6.below (by repeat' (first | (with_reducible exact Below.refl _ _) | (with_reducible assumption) | (with_reducible apply below_set) | (with_reducible apply Below.alloc) | (with_reducible apply Below.drew) | (with_reducible apply below_drawn) | (with_reducible refine Below.trans ?_ (Below.mono (by assumption) ?_)) | omega | (simp only [World.size_alloc, World.size_setCell, World.size_drew]; omega)))))).mono ?_; rw [k2]; rintro e w3 ⟨rfl, m3, rfl⟩))
    go_ret
    exact ⟨ret_bool (tf_false (fun e => HO.out (by rw [e]))).symm, (by repeat' (first | (with_reducible exact Below.refl _ _) | (with_reducible assumption) | (with_reducible apply below_set) | (with_reducible apply Below.alloc) | (with_reducible apply Below.drew) | (with_reducible apply below_drawn) | (with_reducible refine Below.trans ?_ (Below.mono (by assumption) ?_)) | omega | (simp only [World.size_alloc, World.size_setCell, World.size_drew]; omega)))⟩
end Go.Proofs.Ythdioaeekhkgcaa
