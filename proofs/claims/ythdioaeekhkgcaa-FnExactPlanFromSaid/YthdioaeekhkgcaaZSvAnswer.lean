/-
  Answer: read, owned; copies, comparison, marks; the argument opened.
-/
import Derived.Test.YthdioaeekhkgcaaZSvLaw
import Derived.Test.YthdioaeekhkgcaaZSvCb
namespace Go.Proofs.Ythdioaeekhkgcaa
set_option linter.unusedVariables false
set_option linter.unusedSimpArgs false
open Go.RowKit Go.ChangeShapes Go.WideShapes Go.ChangeAt Go.Deep Go.Joins
attribute [local go_sem ↓] Go.wp_at_zero Go.wp_at_succ
structure An where
  won : List Int
  plan : List Int
def IsN (w : World) (v : Value) (x : An) : Prop := ∃ va vb, v = .agg #[va, vb] ∧ IsI w va x.won ∧ IsI w vb x.plan
def OwnN (lo hi : Nat) (w : World) (v : Value) (x : An) : Prop := ∃ va vb, v = .agg #[va, vb] ∧ OwnI lo hi w va x.won ∧ OwnI lo hi w vb x.plan ∧ ∀ g, blk va = some g → blk vb ≠ some g
theorem IsN.below {w w' : World} {v : Value} {x : An} (h : IsN w v x) (hb : Below w.heap.size w w') : IsN w' v x := let ⟨a, b, e, h1, h2⟩ := h; ⟨a, b, e, h1.below hb, h2.below hb⟩
theorem IsN.alloc {w : World} {v : Value} {a : An} (h : IsN w v a) (o : Obj) : IsN (w.alloc o) v a := h.below (below_alloc w o)
theorem IsN.drew {w : World} {v : Value} {a : An} (h : IsN w v a) : IsN w.drew v a := h.below (below_drew w)
theorem OwnN.is {lo hi : Nat} {w : World} {v : Value} {x : An} (h : OwnN lo hi w v x) : IsN w v x := let ⟨a, b, e, h1, h2, _⟩ := h; ⟨a, b, e, h1.is, h2.is⟩
theorem OwnN.below {lo hi : Nat} {w w' : World} {v : Value} {x : An} (h : OwnN lo hi w v x) (hb : Below w.heap.size w w') : OwnN lo hi w' v x := let ⟨a, b, e, h1, h2, h3⟩ := h; ⟨a, b, e, h1.below hb, h2.below hb, h3⟩
theorem OwnN.kept {lo hi : Nat} {w w' : World} {v : Value} {x : An} (h : OwnN lo hi w v x) (hk : Kept lo hi w w') : OwnN lo hi w' v x := let ⟨a, b, e, h1, h2, h3⟩ := h; ⟨a, b, e, h1.kept hk, h2.kept hk, h3⟩
theorem OwnN.mono {lo hi lo' hi' : Nat} {w : World} {v : Value} {x : An} (h : OwnN lo hi w v x) (hl : lo' ≤ lo) (hh : hi ≤ hi') : OwnN lo' hi' w v x := let ⟨a, b, e, h1, h2, h3⟩ := h; ⟨a, b, e, h1.mono hl hh, h2.mono hl hh, h3⟩
theorem OwnN.top {lo hi : Nat} {w : World} {v : Value} {x : An} (h : OwnN lo hi w v x) : OwnN lo w.heap.size w v x := let ⟨a, b, e, h1, h2, h3⟩ := h; ⟨a, b, e, h1.top, h2.top, h3⟩
theorem OwnN.final {lo hi lo' : Nat} {w W : World} {v : Value} {x : An} (h : OwnN lo hi w v x) (hk : Kept lo hi w W) (hl : lo' ≤ lo) : OwnN lo' W.heap.size W v x := (h.kept hk).top.mono hl (Nat.le_refl _)
theorem OwnN.out {lo hi lo' hi' : Nat} {w w' : World} {v : Value} {x : An} (h : OwnN lo' hi' w v x) (hO : Outside lo hi w w') (hd : hi' ≤ lo ∨ hi ≤ lo') : OwnN lo' hi' w' v x := h.kept (hO.kept hd)
theorem IsN.form {w : World} {v : Value} {x : An} (h : IsN w v x) : ∃ s0 n0 c0 s1 n1 c1, v = .agg #[.slice s0 n0 c0, .slice s1 n1 c1] := by
  obtain ⟨_, _, rfl, ⟨_, _, _, rfl, _⟩, ⟨_, _, _, rfl, _⟩⟩ := h
  exact ⟨_, _, _, _, _, _, rfl⟩
theorem IsN.parts {w : World} {s0 : Option Addr} {n0 c0 : Nat} {s1 : Option Addr} {n1 c1 : Nat} {x : An} (h : IsN w (.agg #[.slice s0 n0 c0, .slice s1 n1 c1]) x) : Ints w s0 n0 c0 x.won ∧ Ints w s1 n1 c1 x.plan := by
  obtain ⟨_, _, e, h1, h2⟩ := h
  simp only [Value.agg.injEq, Array.mk.injEq, List.cons.injEq, Value.int.injEq, true_and, and_true] at e
  obtain ⟨rfl, rfl⟩ := e
  exact ⟨h1.ints, h2.ints⟩
theorem OwnN.parts {lo hi : Nat} {w : World} {s0 : Option Addr} {n0 c0 : Nat} {s1 : Option Addr} {n1 c1 : Nat} {x : An} (h : OwnN lo hi w (.agg #[.slice s0 n0 c0, .slice s1 n1 c1]) x) : OwnI lo hi w (.slice s0 n0 c0) x.won ∧ OwnI lo hi w (.slice s1 n1 c1) x.plan ∧ (∀ g, blk (.slice s0 n0 c0) = some g → blk (.slice s1 n1 c1) ≠ some g) := by
  obtain ⟨_, _, e, h1, h2, h3⟩ := h
  simp only [Value.agg.injEq, Array.mk.injEq, List.cons.injEq, Value.int.injEq, true_and, and_true] at e
  obtain ⟨rfl, rfl⟩ := e
  exact ⟨h1, h2, h3⟩
theorem n_eq {a b : An} (h1 : a.won = b.won) (h2 : a.plan = b.plan) : a = b := by cases a; cases b; simp_all
def szN (x : An) : Nat := x.won.length + x.plan.length
def mkN (x : An) (k : Int) : An := ⟨mkI x.won.length k, mkI x.plan.length (k + x.won.length)⟩
def leafN (x : An) : Nat := x.won.length + x.plan.length
def RetN (w : World) (x : An) (e : Ending) (w' : World) : Prop := ∃ s0 n0 c0 s1 n1 c1, e = .returned (.agg #[.slice s0 n0 c0, .slice s1 n1 c1]) ∧ OwnN w.heap.size w'.heap.size w' (.agg #[.slice s0 n0 c0, .slice s1 n1 c1]) x ∧ Below w.heap.size w w'
set_option maxHeartbeats 1000000 in
theorem eqN_any (v u : Value) (a b : An) (w : World) (hA : IsN w v a) (hB : IsN w u b) : Calls Try.prog 34 #[v, u] w (Bb w (tf (a = b))) := by
  obtain ⟨s0, n0, c0, s1, n1, c1, rfl⟩ := hA.form
  obtain ⟨t0, m0, d0, t1, m1, d1, rfl⟩ := hB.form
  obtain ⟨h1, h2⟩ := hA.parts
  obtain ⟨h3, h4⟩ := hB.parts
  clear hA hB
  by_cases x1 : a.won = b.won
  · have k1 := Lib.hid (tf_true x1)
    by_cases x2 : a.plan = b.plan
    · have k2 := Lib.hid (tf_true x2)
      rw [tf_true (n_eq x1 x2)]
      clear x1 x2
      go_enter Try.func34, Try.ntmps34
      go_wp2_with fail
      refine (eqI_any _ _ _ _ _ _ _ _ _ (h1.below (by repeat' (first | (with_reducible exact Below.refl _ _) | (with_reducible apply Below.alloc) | (with_reducible apply Below.drew) | (with_reducible apply below_drawn) | omega | (simp only [World.size_alloc, World.size_setCell, World.size_drew]; omega)))) (h3.below (by repeat' (first | (with_reducible exact Below.refl _ _) | (with_reducible apply Below.alloc) | (with_reducible apply Below.drew) | (with_reducible apply below_drawn) | omega | (simp only [World.size_alloc, World.size_setCell, World.size_drew]; omega))))).mono ?_
      rw [k1.out]
      rintro e w2 ⟨rfl, m2, rfl⟩
      go_wp2_with fail
      refine (eqI_any _ _ _ _ _ _ _ _ _ (h2.below (by repeat' (first | (with_reducible exact Below.refl _ _) | (with_reducible apply Below.alloc) | (with_reducible apply Below.drew) | (with_reducible apply below_drawn) | omega | (simp only [World.size_alloc, World.size_setCell, World.size_drew]; omega)))) (h4.below (by repeat' (first | (with_reducible exact Below.refl _ _) | (with_reducible apply Below.alloc) | (with_reducible apply Below.drew) | (with_reducible apply below_drawn) | omega | (simp only [World.size_alloc, World.size_setCell, World.size_drew]; omega))))).mono ?_
      rw [k2.out]
      rintro e w3 ⟨rfl, m3, rfl⟩
      go_wp2_with fail
      go_ret
      exact ⟨rfl, (by repeat' (first | (with_reducible exact Below.refl _ _) | (with_reducible apply Below.alloc) | (with_reducible apply Below.drew) | (with_reducible apply below_drawn) | omega | (simp only [World.size_alloc, World.size_setCell, World.size_drew]; omega)))⟩
    · have k2 := Lib.hid (tf_false x2)
      rw [tf_false (fun e => x2 (by rw [e]))]
      clear x1 x2
      go_enter Try.func34, Try.ntmps34
      go_wp2_with fail
      refine (eqI_any _ _ _ _ _ _ _ _ _ (h1.below (by repeat' (first | (with_reducible exact Below.refl _ _) | (with_reducible apply Below.alloc) | (with_reducible apply Below.drew) | (with_reducible apply below_drawn) | omega | (simp only [World.size_alloc, World.size_setCell, World.size_drew]; omega)))) (h3.below (by repeat' (first | (with_reducible exact Below.refl _ _) | (with_reducible apply Below.alloc) | (with_reducible apply Below.drew) | (with_reducible apply below_drawn) | omega | (simp only [World.size_alloc, World.size_setCell, World.size_drew]; omega))))).mono ?_
      rw [k1.out]
      rintro e w2 ⟨rfl, m2, rfl⟩
      go_wp2_with fail
      refine (eqI_any _ _ _ _ _ _ _ _ _ (h2.below (by repeat' (first | (with_reducible exact Below.refl _ _) | (with_reducible apply Below.alloc) | (with_reducible apply Below.drew) | (with_reducible apply below_drawn) | omega | (simp only [World.size_alloc, World.size_setCell, World.size_drew]; omega)))) (h4.below (by repeat' (first | (with_reducible exact Below.refl _ _) | (with_reducible apply Below.alloc) | (with_reducible apply Below.drew) | (with_reducible apply below_drawn) | omega | (simp only [World.size_alloc, World.size_setCell, World.size_drew]; omega))))).mono ?_
      rw [k2.out]
      rintro e w3 ⟨rfl, m3, rfl⟩
      go_wp2_with fail
      go_ret
      exact ⟨rfl, (by repeat' (first | (with_reducible exact Below.refl _ _) | (with_reducible apply Below.alloc) | (with_reducible apply Below.drew) | (with_reducible apply below_drawn) | omega | (simp only [World.size_alloc, World.size_setCell, World.size_drew]; omega)))⟩
  · have k1 := Lib.hid (tf_false x1)
    rw [tf_false (fun e => x1 (by rw [e]))]
    clear x1
    go_enter Try.func34, Try.ntmps34
    go_wp2_with fail
    refine (eqI_any _ _ _ _ _ _ _ _ _ (h1.below (by repeat' (first | (with_reducible exact Below.refl _ _) | (with_reducible apply Below.alloc) | (with_reducible apply Below.drew) | (with_reducible apply below_drawn) | omega | (simp only [World.size_alloc, World.size_setCell, World.size_drew]; omega)))) (h3.below (by repeat' (first | (with_reducible exact Below.refl _ _) | (with_reducible apply Below.alloc) | (with_reducible apply Below.drew) | (with_reducible apply below_drawn) | omega | (simp only [World.size_alloc, World.size_setCell, World.size_drew]; omega))))).mono ?_
    rw [k1.out]
    rintro e w2 ⟨rfl, m2, rfl⟩
    go_wp2_with fail
    go_ret
    exact ⟨rfl, (by repeat' (first | (with_reducible exact Below.refl _ _) | (with_reducible apply Below.alloc) | (with_reducible apply Below.drew) | (with_reducible apply below_drawn) | omega | (simp only [World.size_alloc, World.size_setCell, World.size_drew]; omega)))⟩
set_option maxHeartbeats 800000 in
theorem markN_any {lo hi : Nat} {w : World} {s0 : Option Addr} {n0 c0 : Nat} {s1 : Option Addr} {n1 c1 : Nat} {x : An} (h : OwnN lo hi w (.agg #[.slice s0 n0 c0, .slice s1 n1 c1]) x) (k : Int) (h0 : 0 ≤ k) (hk : k ≤ 576460752303423488) (hs : szN x ≤ 1048576) (hhi : hi ≤ w.heap.size) :
    Calls Try.prog 35 #[.agg #[.slice s0 n0 c0, .slice s1 n1 c1], .int .i64 k] w fun e w' => e = .returned (.int .i64 (k + leafN x)) ∧ OwnN lo hi w' (.agg #[.slice s0 n0 c0, .slice s1 n1 c1]) (mkN x k) ∧ Outside lo hi w w' := by
  obtain ⟨h1, h2, hd⟩ := h.parts
  have hl1 := h1.len
  have hl2 := h2.len
  have e1 : n0 ≤ 1048576 ∧ n1 ≤ 1048576 := by unfold szN at hs; omega
  have L1 := Lib.hid hl1
  have L2 := Lib.hid hl2
  have HD := Lib.hid hd
  have B1 := Lib.hid h1.blks
  have B2 := Lib.hid h2.blks
  clear hl1 hl2 hd hs h
  obtain ⟨e1, e2⟩ := e1
  have hk2 : k + (n0 : Int) ≤ 4611686018427387904 := by omega
  have hk3 : 0 ≤ k + (n0 : Int) := by omega
  go_enter Try.func35, Try.ntmps35
  go_wp2_with fail
  refine (markI_any (OwnV.alloc h1 _) k h0 (by omega) e1).mono ?_
  rintro e w2 ⟨rfl, hm1, hg1⟩
  have t1 : Touch (fun g => blk (.slice s0 n0 c0) = some g) _ w2 := touch_grown hg1
  have q0 : w2.cell? ⟨w.heap.size, 0, none⟩ = some (.slice s0 n0 c0) := cell_t (by simp) t1 (fun hb => by have := (B1.out _ hb).2; omega)
  have q1 : w2.cell? ⟨w.heap.size, 1, none⟩ = some (.slice s1 n1 c1) := cell_t (by simp) t1 (fun hb => by have := (B1.out _ hb).2; omega)
  have h2' : OwnI lo hi w2 (.slice s1 n1 c1) x.plan := (OwnI.alloc h2 _).touch t1 (fun g hg hb => HD.out g hb hg)
  go_wp2_with fail
  refine (markI_any h2' _ hk3 hk2 e2).mono ?_
  rintro e w3 ⟨rfl, hm2, hg2⟩
  have t2 : Touch (fun g => blk (.slice s1 n1 c1) = some g) w2 w3 := touch_grown hg2
  go_wp2_with fail
  go_ret
  refine ⟨ret_int (by unfold leafN; rw [L1.out, L2.out]; omega), ⟨_, _, rfl, ?_, ?_, HD.out⟩, ?_⟩
  · unfold mkN; rw [L1.out]; exact hm1.touch t2 (fun g hg hb => HD.out g hg hb)
  · unfold mkN; rw [L1.out, L2.out]; exact hm2
  · exact ((touch_below (B := fun _ => False) (below_alloc _ _)).outside (fun _ h => h.elim)).trans ((t1.outside fun g hg => B1.out g hg).trans (t2.outside fun g hg => B2.out g hg))
set_option maxHeartbeats 800000 in
theorem heldN_any {w : World} {s0 : Option Addr} {n0 c0 : Nat} {s1 : Option Addr} {n1 c1 : Nat} (x : An) (k : Int) (h : IsN w (.agg #[.slice s0 n0 c0, .slice s1 n1 c1]) (mkN x k)) (h0 : 0 ≤ k) (hk : k ≤ 576460752303423488) (hs : szN x ≤ 1048576) :
    Calls Try.prog 36 #[.agg #[.slice s0 n0 c0, .slice s1 n1 c1], .int .i64 k] w (Bi w (k + leafN x)) := by
  obtain ⟨h1, h2⟩ := h.parts
  have hl1 : x.won.length = n0 := by have := h1.1; unfold mkN at this; simpa [mkI_len] using this
  have hl2 : x.plan.length = n1 := by have := h2.1; unfold mkN at this; simpa [mkI_len] using this
  have e1 : n0 ≤ 1048576 ∧ n1 ≤ 1048576 := by unfold szN at hs; omega
  have h1' : IsI w (.slice s0 n0 c0) (mkI n0 k) := by have := h1.is; unfold mkN at this; rwa [hl1] at this
  have h2' : IsI w (.slice s1 n1 c1) (mkI n1 (k + n0)) := by have := h2.is; unfold mkN at this; rwa [hl1, hl2] at this
  have L1 := Lib.hid hl1
  have L2 := Lib.hid hl2
  clear hl1 hl2 hs h h1 h2
  obtain ⟨e1, e2⟩ := e1
  have hk2 : k + (n0 : Int) ≤ 4611686018427387904 := by omega
  have hk3 : 0 ≤ k + (n0 : Int) := by omega
  go_enter Try.func36, Try.ntmps36
  go_wp2_with fail
  refine (heldI_any _ (h1'.alloc _) h0 (by omega) e1).mono ?_
  rintro e w2 ⟨rfl, rfl⟩
  go_wp2_with (go_at_call 99; refine (heldI_any _ (h2'.alloc _) hk3 hk2 e2).mono ?_; rintro e w2 ⟨rfl, rfl⟩)
  all_goals first
    | (exfalso; omega)
    | (go_ret
       exact ⟨ret_int (by unfold leafN; rw [L1.out, L2.out]; omega), below_alloc _ _⟩)
end Go.Proofs.Ythdioaeekhkgcaa
