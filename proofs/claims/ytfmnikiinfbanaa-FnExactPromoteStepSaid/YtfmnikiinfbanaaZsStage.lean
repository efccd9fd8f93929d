/-
  Stage: read, owned; copies, comparison, marks; the argument opened.
-/
import Derived.Test.YtfmnikiinfbanaaZsLaw
import Derived.Test.YtfmnikiinfbanaaZsCb
namespace Go.Proofs.Ytfmnikiinfbanaa
set_option linter.unusedVariables false
set_option linter.unusedSimpArgs false
open Go.RowKit Go.ChangeShapes Go.WideShapes Go.ChangeAt Go.Deep Go.Joins
attribute [local go_sem ↓] Go.wp_at_zero Go.wp_at_succ
structure St where
  won : List Int
  region : List Int
  at_ : Int
def IsS (w : World) (v : Value) (x : St) : Prop := ∃ va vb, v = .agg #[va, vb, .int .i64 x.at_] ∧ IsI w va x.won ∧ IsI w vb x.region
def OwnS (lo hi : Nat) (w : World) (v : Value) (x : St) : Prop := ∃ va vb, v = .agg #[va, vb, .int .i64 x.at_] ∧ OwnI lo hi w va x.won ∧ OwnI lo hi w vb x.region ∧ ∀ g, blk va = some g → blk vb ≠ some g
theorem IsS.below {w w' : World} {v : Value} {x : St} (h : IsS w v x) (hb : Below w.heap.size w w') : IsS w' v x := let ⟨a, b, e, h1, h2⟩ := h; ⟨a, b, e, h1.below hb, h2.below hb⟩
theorem IsS.alloc {w : World} {v : Value} {a : St} (h : IsS w v a) (o : Obj) : IsS (w.alloc o) v a := h.below (below_alloc w o)
theorem IsS.drew {w : World} {v : Value} {a : St} (h : IsS w v a) : IsS w.drew v a := h.below (below_drew w)
theorem OwnS.is {lo hi : Nat} {w : World} {v : Value} {x : St} (h : OwnS lo hi w v x) : IsS w v x := let ⟨a, b, e, h1, h2, _⟩ := h; ⟨a, b, e, h1.is, h2.is⟩
theorem OwnS.below {lo hi : Nat} {w w' : World} {v : Value} {x : St} (h : OwnS lo hi w v x) (hb : Below w.heap.size w w') : OwnS lo hi w' v x := let ⟨a, b, e, h1, h2, h3⟩ := h; ⟨a, b, e, h1.below hb, h2.below hb, h3⟩
theorem OwnS.kept {lo hi : Nat} {w w' : World} {v : Value} {x : St} (h : OwnS lo hi w v x) (hk : Kept lo hi w w') : OwnS lo hi w' v x := let ⟨a, b, e, h1, h2, h3⟩ := h; ⟨a, b, e, h1.kept hk, h2.kept hk, h3⟩
theorem OwnS.mono {lo hi lo' hi' : Nat} {w : World} {v : Value} {x : St} (h : OwnS lo hi w v x) (hl : lo' ≤ lo) (hh : hi ≤ hi') : OwnS lo' hi' w v x := let ⟨a, b, e, h1, h2, h3⟩ := h; ⟨a, b, e, h1.mono hl hh, h2.mono hl hh, h3⟩
theorem OwnS.top {lo hi : Nat} {w : World} {v : Value} {x : St} (h : OwnS lo hi w v x) : OwnS lo w.heap.size w v x := let ⟨a, b, e, h1, h2, h3⟩ := h; ⟨a, b, e, h1.top, h2.top, h3⟩
theorem OwnS.final {lo hi lo' : Nat} {w W : World} {v : Value} {x : St} (h : OwnS lo hi w v x) (hk : Kept lo hi w W) (hl : lo' ≤ lo) : OwnS lo' W.heap.size W v x := (h.kept hk).top.mono hl (Nat.le_refl _)
theorem OwnS.out {lo hi lo' hi' : Nat} {w w' : World} {v : Value} {x : St} (h : OwnS lo' hi' w v x) (hO : Outside lo hi w w') (hd : hi' ≤ lo ∨ hi ≤ lo') : OwnS lo' hi' w' v x := h.kept (hO.kept hd)
theorem IsS.form {w : World} {v : Value} {x : St} (h : IsS w v x) : ∃ s0 n0 c0 s1 n1 c1 v2, v = .agg #[.slice s0 n0 c0, .slice s1 n1 c1, .int .i64 v2] := by
  obtain ⟨_, _, rfl, ⟨_, _, _, rfl, _⟩, ⟨_, _, _, rfl, _⟩⟩ := h
  exact ⟨_, _, _, _, _, _, _, rfl⟩
theorem IsS.parts {w : World} {s0 : Option Addr} {n0 c0 : Nat} {s1 : Option Addr} {n1 c1 : Nat} {v2 : Int} {x : St} (h : IsS w (.agg #[.slice s0 n0 c0, .slice s1 n1 c1, .int .i64 v2]) x) : Ints w s0 n0 c0 x.won ∧ Ints w s1 n1 c1 x.region ∧ v2 = x.at_ := by
  obtain ⟨_, _, e, h1, h2⟩ := h
  simp only [Value.agg.injEq, Array.mk.injEq, List.cons.injEq, Value.int.injEq, true_and, and_true] at e
  obtain ⟨rfl, rfl, rfl⟩ := e
  exact ⟨h1.ints, h2.ints, rfl⟩
theorem OwnS.parts {lo hi : Nat} {w : World} {s0 : Option Addr} {n0 c0 : Nat} {s1 : Option Addr} {n1 c1 : Nat} {v2 : Int} {x : St} (h : OwnS lo hi w (.agg #[.slice s0 n0 c0, .slice s1 n1 c1, .int .i64 v2]) x) : OwnI lo hi w (.slice s0 n0 c0) x.won ∧ OwnI lo hi w (.slice s1 n1 c1) x.region ∧ (∀ g, blk (.slice s0 n0 c0) = some g → blk (.slice s1 n1 c1) ≠ some g) ∧ v2 = x.at_ := by
  obtain ⟨_, _, e, h1, h2, h3⟩ := h
  simp only [Value.agg.injEq, Array.mk.injEq, List.cons.injEq, Value.int.injEq, true_and, and_true] at e
  obtain ⟨rfl, rfl, rfl⟩ := e
  exact ⟨h1, h2, h3, rfl⟩
theorem s_eq {a b : St} (h1 : a.won = b.won) (h2 : a.region = b.region) (h3 : a.at_ = b.at_) : a = b := by cases a; cases b; simp_all
def szS (x : St) : Nat := x.won.length + x.region.length
def mkS (x : St) (k : Int) : St := ⟨mkI x.won.length k, mkI x.region.length (k + x.won.length), x.at_⟩
def leafS (x : St) : Nat := x.won.length + x.region.length
def WfS (x : St) : Prop := Wf x.won ∧ Wf x.region ∧ (Lit.int .i64 x.at_).wf = true
def RetS (w : World) (x : St) (e : Ending) (w' : World) : Prop := ∃ s0 n0 c0 s1 n1 c1 v2, e = .returned (.agg #[.slice s0 n0 c0, .slice s1 n1 c1, .int .i64 v2]) ∧ OwnS w.heap.size w'.heap.size w' (.agg #[.slice s0 n0 c0, .slice s1 n1 c1, .int .i64 v2]) x ∧ Below w.heap.size w w'
set_option maxHeartbeats 1000000 in
theorem eqS_any (v u : Value) (a b : St) (w : World) (hA : IsS w v a) (hB : IsS w u b) : Calls Try.prog 27 #[v, u] w (Bb w (tf (a = b))) := by
  obtain ⟨s0, n0, c0, s1, n1, c1, v2, rfl⟩ := hA.form
  obtain ⟨t0, m0, d0, t1, m1, d1, u2, rfl⟩ := hB.form
  obtain ⟨h1, h2, e1⟩ := hA.parts
  obtain ⟨h3, h4, e2⟩ := hB.parts
  clear hA hB
  by_cases x1 : a.won = b.won
  · have k1 := Lib.hid (tf_true x1)
    by_cases x2 : a.region = b.region
    · have k2 := Lib.hid (tf_true x2)
      by_cases x3 : v2 = u2
      · have d3 : (v2 != u2) = false := by simp [x3]
        rw [tf_true (s_eq x1 x2 (by omega))]
        clear e1 e2 x1 x2 x3
        go_enter Try.func27, Try.ntmps27
        go_wp2_with fail
        refine (eqI_any _ _ _ _ _ _ _ _ _ (h1.below (by repeat' (first | (with_reducible exact Below.refl _ _) | (with_reducible apply Below.alloc) | (with_reducible apply Below.drew) | (with_reducible apply below_drawn) | omega | (simp only [World.size_alloc, World.size_setCell, World.size_drew]; omega)))) (h3.below (by repeat' (first | (with_reducible exact Below.refl _ _) | (with_reducible apply Below.alloc) | (with_reducible apply Below.drew) | (with_reducible apply below_drawn) | omega | (simp only [World.size_alloc, World.size_setCell, World.size_drew]; omega))))).mono ?_
        rw [k1.out]
        rintro e w2 ⟨rfl, m2, rfl⟩
        go_wp2_with fail
        refine (eqI_any _ _ _ _ _ _ _ _ _ (h2.below (by repeat' (first | (with_reducible exact Below.refl _ _) | (with_reducible apply Below.alloc) | (with_reducible apply Below.drew) | (with_reducible apply below_drawn) | omega | (simp only [World.size_alloc, World.size_setCell, World.size_drew]; omega)))) (h4.below (by repeat' (first | (with_reducible exact Below.refl _ _) | (with_reducible apply Below.alloc) | (with_reducible apply Below.drew) | (with_reducible apply below_drawn) | omega | (simp only [World.size_alloc, World.size_setCell, World.size_drew]; omega))))).mono ?_
        rw [k2.out]
        rintro e w3 ⟨rfl, m3, rfl⟩
        go_wp2_with fail
        go_ret
        exact ⟨rfl, (by repeat' (first | (with_reducible exact Below.refl _ _) | (with_reducible apply Below.alloc) | (with_reducible apply Below.drew) | (with_reducible apply below_drawn) | omega | (simp only [World.size_alloc, World.size_setCell, World.size_drew]; omega)))⟩
      · have d3 : (v2 != u2) = true := by simp [x3]
        rw [tf_false (fun e => x3 (by rw [e1, e2, e]))]
        clear e1 e2 x1 x2 x3
        go_enter Try.func27, Try.ntmps27
        go_wp2_with fail
        refine (eqI_any _ _ _ _ _ _ _ _ _ (h1.below (by repeat' (first | (with_reducible exact Below.refl _ _) | (with_reducible apply Below.alloc) | (with_reducible apply Below.drew) | (with_reducible apply below_drawn) | omega | (simp only [World.size_alloc, World.size_setCell, World.size_drew]; omega)))) (h3.below (by repeat' (first | (with_reducible exact Below.refl _ _) | (with_reducible apply Below.alloc) | (with_reducible apply Below.drew) | (with_reducible apply below_drawn) | omega | (simp only [World.size_alloc, World.size_setCell, World.size_drew]; omega))))).mono ?_
        rw [k1.out]
        rintro e w2 ⟨rfl, m2, rfl⟩
        go_wp2_with fail
        refine (eqI_any _ _ _ _ _ _ _ _ _ (h2.below (by repeat' (first | (with_reducible exact Below.refl _ _) | (with_reducible apply Below.alloc) | (with_reducible apply Below.drew) | (with_reducible apply below_drawn) | omega | (simp only [World.size_alloc, World.size_setCell, World.size_drew]; omega)))) (h4.below (by repeat' (first | (with_reducible exact Below.refl _ _) | (with_reducible apply Below.alloc) | (with_reducible apply Below.drew) | (with_reducible apply below_drawn) | omega | (simp only [World.size_alloc, World.size_setCell, World.size_drew]; omega))))).mono ?_
        rw [k2.out]
        rintro e w3 ⟨rfl, m3, rfl⟩
        go_wp2_with fail
        go_ret
        exact ⟨rfl, (by repeat' (first | (with_reducible exact Below.refl _ _) | (with_reducible apply Below.alloc) | (with_reducible apply Below.drew) | (with_reducible apply below_drawn) | omega | (simp only [World.size_alloc, World.size_setCell, World.size_drew]; omega)))⟩
    · have k2 := Lib.hid (tf_false x2)
      rw [tf_false (fun e => x2 (by rw [e]))]
      clear e1 e2 x1 x2
      go_enter Try.func27, Try.ntmps27
      go_wp2_with fail
      refine (eqI_any _ _ _ _ _ _ _ _ _ (h1.below (by repeat' (first | (with_reducible exact Below.refl _ _) | (with_reducible apply Below.alloc) | (with_reducible apply Below.drew) | (with_reducible apply below_drawn) | omega | (simp only [World.size_alloc, World.size_setCell, World.size_drew]; omega)))) (h3.below (by repeat' (first | (with_reducible exact Below.refl _ _) | (with_reducible apply Below.alloc) | (with_reducible apply Below.drew) | (with_reducible apply below_drawn) | omega | (simp only [World.size_alloc, World.size_setCell, World.size_drew]; omega))))).mono ?_
      rw [k1.out]
      rintro e w2 ⟨rfl, m2, rfl⟩
      go_wp2_with fail
      refine (eqI_any _ _ _ _ _ _ _ _ _ (h2.below (by repeat' (first | (with_reducible exact Below.refl _ _) | (with_reducible apply Below.alloc) | (with_reducible apply Below.drew) | (with_reducible apply below_drawn) | omega | (simp only [World.size_alloc, World.size_setCell, World.size_drew]; omega)))) (h4.below (by repeat' (first | (with_reducible exact Below.refl _ _) | (with_reducible apply Below.alloc) | (with_reducible apply Below.drew) | (with_reducible apply below_drawn) | omega | (simp only [World.size_alloc, World.size_setCell, World.size_drew]; omega))))).mono ?_
      rw [k2.out]
      rintro e w3 ⟨rfl, m3, rfl⟩
      go_wp2_with fail
      go_ret
      exact ⟨rfl, (by repeat' (first | (with_reducible exact Below.refl _ _) | (with_reducible apply Below.alloc) | (with_reducible apply Below.drew) | (with_reducible apply below_drawn) | omega | (simp only [World.size_alloc, World.size_setCell, World.size_drew]; omega)))⟩
  · have k1 := Lib.hid (tf_false x1)
    rw [tf_false (fun e => x1 (by rw [e]))]
    clear e1 e2 x1
    go_enter Try.func27, Try.ntmps27
    go_wp2_with fail
    refine (eqI_any _ _ _ _ _ _ _ _ _ (h1.below (by repeat' (first | (with_reducible exact Below.refl _ _) | (with_reducible apply Below.alloc) | (with_reducible apply Below.drew) | (with_reducible apply below_drawn) | omega | (simp only [World.size_alloc, World.size_setCell, World.size_drew]; omega)))) (h3.below (by repeat' (first | (with_reducible exact Below.refl _ _) | (with_reducible apply Below.alloc) | (with_reducible apply Below.drew) | (with_reducible apply below_drawn) | omega | (simp only [World.size_alloc, World.size_setCell, World.size_drew]; omega))))).mono ?_
    rw [k1.out]
    rintro e w2 ⟨rfl, m2, rfl⟩
    go_wp2_with fail
    go_ret
    exact ⟨rfl, (by repeat' (first | (with_reducible exact Below.refl _ _) | (with_reducible apply Below.alloc) | (with_reducible apply Below.drew) | (with_reducible apply below_drawn) | omega | (simp only [World.size_alloc, World.size_setCell, World.size_drew]; omega)))⟩
set_option maxHeartbeats 800000 in
theorem markS_any {lo hi : Nat} {w : World} {s0 : Option Addr} {n0 c0 : Nat} {s1 : Option Addr} {n1 c1 : Nat} {v2 : Int} {x : St} (h : OwnS lo hi w (.agg #[.slice s0 n0 c0, .slice s1 n1 c1, .int .i64 v2]) x) (k : Int) (h0 : 0 ≤ k) (hk : k ≤ 576460752303423488) (hs : szS x ≤ 1048576) (hhi : hi ≤ w.heap.size) :
    Calls Try.prog 37 #[.agg #[.slice s0 n0 c0, .slice s1 n1 c1, .int .i64 v2], .int .i64 k] w fun e w' => e = .returned (.int .i64 (k + leafS x)) ∧ OwnS lo hi w' (.agg #[.slice s0 n0 c0, .slice s1 n1 c1, .int .i64 v2]) (mkS x k) ∧ Outside lo hi w w' := by
  obtain ⟨h1, h2, hd, e3⟩ := h.parts
  have hl1 := h1.len
  have hl2 := h2.len
  have e1 : n0 ≤ 1048576 ∧ n1 ≤ 1048576 := by unfold szS at hs; omega
  have L1 := Lib.hid hl1
  have L2 := Lib.hid hl2
  have HD := Lib.hid hd
  have B1 := Lib.hid h1.blks
  have B2 := Lib.hid h2.blks
  have E3 := Lib.hid e3
  clear hl1 hl2 hd hs h e3
  obtain ⟨e1, e2⟩ := e1
  have hk2 : k + (n0 : Int) ≤ 4611686018427387904 := by omega
  have hk3 : 0 ≤ k + (n0 : Int) := by omega
  go_enter Try.func37, Try.ntmps37
  go_wp2_with fail
  refine (markI_any (OwnV.alloc h1 _) k h0 (by omega) e1).mono ?_
  rintro e w2 ⟨rfl, hm1, hg1⟩
  have t1 : Touch (fun g => blk (.slice s0 n0 c0) = some g) _ w2 := touch_grown hg1
  have q0 : w2.cell? ⟨w.heap.size, 0, none⟩ = some (.slice s0 n0 c0) := cell_t (by simp) t1 (fun hb => by have := (B1.out _ hb).2; omega)
  have q1 : w2.cell? ⟨w.heap.size, 1, none⟩ = some (.slice s1 n1 c1) := cell_t (by simp) t1 (fun hb => by have := (B1.out _ hb).2; omega)
  have h2' : OwnI lo hi w2 (.slice s1 n1 c1) x.region := (OwnI.alloc h2 _).touch t1 (fun g hg hb => HD.out g hb hg)
  go_wp2_with fail
  refine (markI_any h2' _ hk3 hk2 e2).mono ?_
  rintro e w3 ⟨rfl, hm2, hg2⟩
  have t2 : Touch (fun g => blk (.slice s1 n1 c1) = some g) w2 w3 := touch_grown hg2
  go_wp2_with fail
  go_ret
  refine ⟨ret_int (by unfold leafS; rw [L1.out, L2.out]; omega), ⟨_, _, by rw [E3.out]; rfl, ?_, ?_, HD.out⟩, ?_⟩
  · unfold mkS; rw [L1.out]; exact hm1.touch t2 (fun g hg hb => HD.out g hg hb)
  · unfold mkS; rw [L1.out, L2.out]; exact hm2
  · exact ((touch_below (B := fun _ => False) (below_alloc _ _)).outside (fun _ h => h.elim)).trans ((t1.outside fun g hg => B1.out g hg).trans (t2.outside fun g hg => B2.out g hg))
set_option maxHeartbeats 800000 in
theorem heldS_any {w : World} {s0 : Option Addr} {n0 c0 : Nat} {s1 : Option Addr} {n1 c1 : Nat} {v2 : Int} (x : St) (k : Int) (h : IsS w (.agg #[.slice s0 n0 c0, .slice s1 n1 c1, .int .i64 v2]) (mkS x k)) (h0 : 0 ≤ k) (hk : k ≤ 576460752303423488) (hs : szS x ≤ 1048576) :
    Calls Try.prog 40 #[.agg #[.slice s0 n0 c0, .slice s1 n1 c1, .int .i64 v2], .int .i64 k] w (Bi w (k + leafS x)) := by
  obtain ⟨h1, h2, -⟩ := h.parts
  have hl1 : x.won.length = n0 := by have := h1.1; unfold mkS at this; simpa [mkI_len] using this
  have hl2 : x.region.length = n1 := by have := h2.1; unfold mkS at this; simpa [mkI_len] using this
  have e1 : n0 ≤ 1048576 ∧ n1 ≤ 1048576 := by unfold szS at hs; omega
  have h1' : IsI w (.slice s0 n0 c0) (mkI n0 k) := by have := h1.is; unfold mkS at this; rwa [hl1] at this
  have h2' : IsI w (.slice s1 n1 c1) (mkI n1 (k + n0)) := by have := h2.is; unfold mkS at this; rwa [hl1, hl2] at this
  have L1 := Lib.hid hl1
  have L2 := Lib.hid hl2
  clear hl1 hl2 hs h h1 h2
  obtain ⟨e1, e2⟩ := e1
  have hk2 : k + (n0 : Int) ≤ 4611686018427387904 := by omega
  have hk3 : 0 ≤ k + (n0 : Int) := by omega
  go_enter Try.func40, Try.ntmps40
  go_wp2_with fail
  refine (heldI_any _ (h1'.alloc _) h0 (by omega) e1).mono ?_
  rintro e w2 ⟨rfl, rfl⟩
  go_wp2_with (go_at_call 20; refine (heldI_any _ (h2'.alloc _) hk3 hk2 e2).mono ?_; rintro e w2 ⟨rfl, rfl⟩)
  all_goals first
    | (exfalso; omega)
    | (go_ret
       exact ⟨ret_int (by unfold leafS; rw [L1.out, L2.out]; omega), below_alloc _ _⟩)
theorem szS_any (v : Value) (g : St) (l : Int) (w : World) (hP : IsS w v g) (h0 : 0 ≤ l) (hl : l ≤ 1048576) :
    Calls Try.prog 23 #[v, .int .i64 l] w (Bi w (lft l (szS g))) := by
  obtain ⟨s0, n0, c0, s1, n1, c1, v2, rfl⟩ := hP.form
  obtain ⟨h1, h2, -⟩ := hP.parts
  have hm1 := h1.max
  have hm2 := h2.max
  have e : szS g = n0 + n1 := by unfold szS; rw [h1.1, h2.1]
  rw [e]
  clear e
  by_cases hf : (n0 : Int) ≤ l
  · have hz := lft_ok hf
    by_cases hf2 : (n1 : Int) ≤ l - n0
    · have hz2 := lft_ok hf2
      rw [lft_ok (l := l) (n := n0 + n1) (by omega)]
      go_enter Try.func23, Try.ntmps23
      go_wp2_with fail
      refine (szI_any _ _ _ _ _ hm1 (by omega) (by omega)).mono ?_
      rw [hz]
      rintro e w3 ⟨rfl, rfl⟩
      go_wp2_with (go_at_call 50; refine (szI_any _ _ _ _ _ hm2 (by omega) (by omega)).mono ?_; rw [hz2]; rintro e w3 ⟨rfl, rfl⟩)
      go_ret
      exact ⟨ret_int (by omega), (by repeat' (first | (with_reducible exact Below.refl _ _) | (with_reducible assumption) | (with_reducible apply below_set) | (with_reducible apply Below.alloc) | (with_reducible apply Below.drew) | (with_reducible apply below_drawn) | (with_reducible refine Below.trans ?_ (Below.mono (by assumption) ?_)) | omega | (simp only [World.size_alloc, World.size_setCell, World.size_drew]; omega)))⟩
    · have hz2 := lft_no (l := l - n0) (n := n1) (by omega)
      rw [lft_no (l := l) (n := n0 + n1) (by omega)]
      go_enter Try.func23, Try.ntmps23
      go_wp2_with fail
      refine (szI_any _ _ _ _ _ hm1 (by omega) (by omega)).mono ?_
      rw [hz]
      rintro e w3 ⟨rfl, rfl⟩
      go_wp2_with (go_at_call 50; refine (szI_any _ _ _ _ _ hm2 (by omega) (by omega)).mono ?_; rw [hz2]; rintro e w3 ⟨rfl, rfl⟩)
      go_ret
      exact ⟨rfl, (by repeat' (first | (with_reducible exact Below.refl _ _) | (with_reducible assumption) | (with_reducible apply below_set) | (with_reducible apply Below.alloc) | (with_reducible apply Below.drew) | (with_reducible apply below_drawn) | (with_reducible refine Below.trans ?_ (Below.mono (by assumption) ?_)) | omega | (simp only [World.size_alloc, World.size_setCell, World.size_drew]; omega)))⟩
  · have hz := lft_no (l := l) (n := n0) (by omega)
    rw [lft_no (l := l) (n := n0 + n1) (by omega)]
    go_enter Try.func23, Try.ntmps23
    go_wp2_with (go_at_call 50; refine (szI_any _ _ _ _ _ hm1 (by omega) (by omega)).mono ?_; rw [hz]; rintro e w3 ⟨rfl, rfl⟩)
    go_ret
    exact ⟨rfl, (by repeat' (first | (with_reducible exact Below.refl _ _) | (with_reducible assumption) | (with_reducible apply below_set) | (with_reducible apply Below.alloc) | (with_reducible apply Below.drew) | (with_reducible apply below_drawn) | (with_reducible refine Below.trans ?_ (Below.mono (by assumption) ?_)) | omega | (simp only [World.size_alloc, World.size_setCell, World.size_drew]; omega)))⟩
end Go.Proofs.Ytfmnikiinfbanaa
