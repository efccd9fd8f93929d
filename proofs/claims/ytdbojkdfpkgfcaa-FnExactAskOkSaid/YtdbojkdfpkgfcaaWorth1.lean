/-
  Worths: read, owned; their sizes, copies, comparison; the argument opened.
-/
import Derived.Test.YtdbojkdfpkgfcaaLawX
import Derived.Test.YtdbojkdfpkgfcaaEdges
namespace Go.Proofs.Ytdbojkdfpkgfcaa
set_option linter.unusedVariables false
set_option linter.unusedSimpArgs false
open Go.RowKit Go.ChangeShapes Go.WideShapes Go.ChangeAt Go.Deep Go.Joins

structure Wo where
  head : Int
  over : List Int
  way : Int
def IsW (w : World) (v : Value) (x : Wo) : Prop := ∃ vo, v = .agg #[.int .i64 x.head, vo, .int .i64 x.way] ∧ IsI w vo x.over
def OwnW (lo hi : Nat) (w : World) (v : Value) (x : Wo) : Prop := ∃ vo, v = .agg #[.int .i64 x.head, vo, .int .i64 x.way] ∧ OwnI lo hi w vo x.over
theorem IsW.below {w w' : World} {v : Value} {x : Wo} (h : IsW w v x) (hb : Below w.heap.size w w') : IsW w' v x := let ⟨a, e, h⟩ := h; ⟨a, e, h.below hb⟩
theorem IsW.alloc {w : World} {v : Value} {a : Wo} (h : IsW w v a) (o : Obj) : IsW (w.alloc o) v a := h.below (below_alloc w o)
theorem IsW.drew {w : World} {v : Value} {a : Wo} (h : IsW w v a) : IsW w.drew v a := h.below (below_drew w)
theorem OwnW.is {lo hi : Nat} {w : World} {v : Value} {x : Wo} (h : OwnW lo hi w v x) : IsW w v x := let ⟨a, e, h⟩ := h; ⟨a, e, h.is⟩
theorem OwnW.below {lo hi : Nat} {w w' : World} {v : Value} {x : Wo} (h : OwnW lo hi w v x) (hb : Below w.heap.size w w') : OwnW lo hi w' v x := let ⟨a, e, h⟩ := h; ⟨a, e, h.below hb⟩
theorem OwnW.out {lo hi lo' hi' : Nat} {w w' : World} {v : Value} {x : Wo} (h : OwnW lo' hi' w v x) (hO : Outside lo hi w w') (hd : hi' ≤ lo ∨ hi ≤ lo') : OwnW lo' hi' w' v x := let ⟨a, e, h⟩ := h; ⟨a, e, h.out hO hd⟩
theorem IsW.form {w : World} {v : Value} {x : Wo} (h : IsW w v x) : ∃ v0 s1 n1 c1 v2, v = .agg #[.int .i64 v0, .slice s1 n1 c1, .int .i64 v2] := by
  obtain ⟨_, rfl, ⟨s, n, c, rfl, _⟩⟩ := h
  exact ⟨_, _, _, _, _, rfl⟩
theorem IsW.parts {w : World} {a b : Int} {s : Option Addr} {n c : Nat} {x : Wo} (h : IsW w (.agg #[.int .i64 a, .slice s n c, .int .i64 b]) x) : a = x.head ∧ Ints w s n c x.over ∧ b = x.way := by
  obtain ⟨_, e, h⟩ := h
  simp only [Value.agg.injEq, Array.mk.injEq, List.cons.injEq, Value.int.injEq, true_and, and_true] at e
  obtain ⟨rfl, rfl, rfl⟩ := e
  exact ⟨rfl, h.ints, rfl⟩
def szW (x : Wo) : Nat := x.over.length
def WfW (x : Wo) : Prop := (Lit.int .i64 x.head).wf = true ∧ Wf x.over ∧ (Lit.int .i64 x.way).wf = true

section
variable {H : Type} {enc : TypeId × Value → H} {W : World} {base : Nat}
set_option maxRecDepth 100000 in
theorem openW {r : Reach} {b0 : Nat} {v : Value} {d : DataW H} {p : List MemPlace} (hv : Value.okWide Try.prog W r b0 39 v) (h : DataW.Trod enc Try.prog W base (fun _ => true) true 39 v d p) : ∃ x, IsW W v x ∧ WfW x := by
  obtain ⟨c0, c1, c2, y0, y1, y2, m, rfl, _, _, h0, h1, h2⟩ := open_agg3 Try.underlying39 (by kernel_rfl) (by kernel_rfl) hv h
  obtain ⟨a, e0, _, wa⟩ := DataW.trod_int Try.underlying2 h0
  obtain ⟨b, e2, _, wb⟩ := DataW.trod_int Try.underlying2 h2
  obtain ⟨xs, hx, wx⟩ := openI h1
  simp only [List.cons.injEq, and_true] at e0 e2
  subst e0 e2
  exact ⟨⟨a, xs, b⟩, ⟨_, rfl, hx⟩, wa, wx, wb⟩
end

theorem szW_any (v : Value) (g : Wo) (l : Int) (w : World) (hP : IsW w v g) (h0 : 0 ≤ l) (hl : l ≤ 1048576) :
    Calls Try.prog 24 #[v, .int .i64 l] w (Bi w (lft l (szW g))) := by
  obtain ⟨a, s1, n1, c1, b, rfl⟩ := hP.form
  obtain ⟨-, h1, -⟩ := hP.parts
  have hm := h1.max
  have HL := Lib.hid h1.1
  have e : szW g = n1 := h1.1
  rw [e]
  clear e
  by_cases hf : (n1 : Int) ≤ l
  · have hz := lft_ok hf
    rw [hz]
    go_enter Try.func24, Try.ntmps24
    go_wp2_with (go_at_call 59; refine (szI_any _ _ _ _ _ hm (by omega) (by omega)).mono ?_; rw [hz]; rintro e w3 ⟨rfl, rfl⟩)
    go_ret
    exact ⟨rfl, (by repeat' (first | (with_reducible exact Below.refl _ _) | (with_reducible assumption) | (with_reducible apply below_set) | (with_reducible apply Below.alloc) | (with_reducible apply Below.drew) | (with_reducible apply below_drawn) | (with_reducible refine Below.trans ?_ (Below.mono (by assumption) ?_)) | omega | (simp only [World.size_alloc, World.size_setCell, World.size_drew]; omega)))⟩
  · have hz := lft_no (l := l) (n := n1) (by omega)
    rw [hz]
    go_enter Try.func24, Try.ntmps24
    go_wp2_with (go_at_call 59; refine (szI_any _ _ _ _ _ hm (by omega) (by omega)).mono ?_; rw [hz]; rintro e w3 ⟨rfl, rfl⟩)
    go_ret
    exact ⟨rfl, (by repeat' (first | (with_reducible exact Below.refl _ _) | (with_reducible assumption) | (with_reducible apply below_set) | (with_reducible apply Below.alloc) | (with_reducible apply Below.drew) | (with_reducible apply below_drawn) | (with_reducible refine Below.trans ?_ (Below.mono (by assumption) ?_)) | omega | (simp only [World.size_alloc, World.size_setCell, World.size_drew]; omega)))⟩

def RetW (w : World) (x : Wo) (e : Ending) (w' : World) : Prop := ∃ v0 s1 n1 c1 v2, e = .returned (.agg #[.int .i64 v0, .slice s1 n1 c1, .int .i64 v2]) ∧ OwnW w.heap.size w'.heap.size w' (.agg #[.int .i64 v0, .slice s1 n1 c1, .int .i64 v2]) x ∧ Below w.heap.size w w'

set_option maxHeartbeats 1000000 in
theorem toW_any (v : Value) (g : Wo) (w : World) (hW : IsW w v g) (hn : szW g ≤ 1048576) : Calls Try.prog 26 #[v] w (RetW w g) := by
  obtain ⟨a, s1, n1, c1, b, rfl⟩ := hW.form
  obtain ⟨ha, h1, hb⟩ := hW.parts
  have HA := Lib.hid ha
  have HB := Lib.hid hb
  have hl : n1 ≤ 1048576 := by have := h1.1; unfold szW at hn; omega
  clear ha hb hn
  go_enter Try.func26, Try.ntmps26
  go_wp2_with fail
  refine (toI_any _ _ _ _ _ (h1.below (by repeat' (first | (with_reducible exact Below.refl _ _) | (with_reducible assumption) | (with_reducible apply below_set) | (with_reducible apply Below.alloc) | (with_reducible apply Below.drew) | (with_reducible apply below_drawn) | (with_reducible refine Below.trans ?_ (Below.mono (by assumption) ?_)) | omega | (simp only [World.size_alloc, World.size_setCell, World.size_drew]; omega)))) hl).mono ?_
  rintro e w3 ⟨hlk, s4, c4, rfl, ho3, hb3⟩
  clear hlk
  have hcf3 := bcell hb3
  obtain ⟨hcell3, hfr3⟩ := hcf3
  have hz3 := hb3.size
  simp only [World.size_alloc, World.size_setCell, World.size_drew] at hz3
  have hz3a : w.heap.size < w3.heap.size := (by omega)
  have hz3b : w.heap.size + 1 < w3.heap.size := (by omega)
  have hz3c : w.heap.size + 1 + 1 < w3.heap.size := (by omega)
  go_wp2_with fail
  refine bodyPost_ret (v := .agg #[.int .i64 a, .slice s4 n1 c4, .int .i64 b]) (by simp [results, Try.results26, go_sem, hcell3, hfr3, hz3a, hz3b, hz3c]) rfl ?_
  refine ⟨_, _, _, _, _, rfl, ⟨.slice s4 n1 c4, ?_, ?_⟩, ?_⟩
  · rw [HA.out, HB.out]
  · exact ho3.final (by repeat' (first | (with_reducible exact Kept.refl _ _ _) | (with_reducible apply Kept.set) | (with_reducible apply Kept.alloc) | (with_reducible apply Kept.drew) | (with_reducible apply Kept.drewN) | (with_reducible refine Kept.below ?_ (by assumption)) | omega | (simp only [World.size_alloc, World.size_setCell, World.size_drew]; omega))) (by first | omega | (simp only [World.size_alloc, World.size_setCell, World.size_drew]; omega))
  · exact (by repeat' (first | (with_reducible exact Below.refl _ _) | (with_reducible assumption) | (with_reducible apply below_set) | (with_reducible apply Below.alloc) | (with_reducible apply Below.drew) | (with_reducible apply below_drawn) | (with_reducible refine Below.trans ?_ (Below.mono (by assumption) ?_)) | omega | (simp only [World.size_alloc, World.size_setCell, World.size_drew]; omega)))

theorem wo_eq {a b : Wo} (h1 : a.head = b.head) (h2 : a.over = b.over) (h3 : a.way = b.way) : a = b := by cases a; cases b; simp_all
set_option maxHeartbeats 1000000 in
theorem eqW_any (v u : Value) (a b : Wo) (w : World) (hA : IsW w v a) (hB : IsW w u b) : Calls Try.prog 28 #[v, u] w (Bb w (tf (a = b))) := by
  obtain ⟨p0, s1, n1, c1, p1, rfl⟩ := hA.form
  obtain ⟨r0, s2, n2, c2, r1, rfl⟩ := hB.form
  obtain ⟨e1, h1, e2⟩ := hA.parts
  obtain ⟨e3, h2, e4⟩ := hB.parts
  clear hA hB
  by_cases x1 : p0 = r0
  · have d1 : (p0 != r0) = false := by simp [x1]
    by_cases x2 : a.over = b.over
    · have k2 := Lib.hid (tf_true x2)
      by_cases x3 : p1 = r1
      · have d3 : (p1 != r1) = false := by simp [x3]
        rw [tf_true (wo_eq (by omega) x2 (by omega))]
        clear e1 e2 e3 e4 x1 x2 x3
        go_enter Try.func28, Try.ntmps28
        go_wp2_with (go_at_call 32; refine (eqI_any _ _ _ _ _ _ _ _ _ (h1.below (by repeat' (first | (with_reducible exact Below.refl _ _) | (with_reducible apply Below.alloc) | (with_reducible apply Below.drew) | (with_reducible apply below_drawn) | omega | (simp only [World.size_alloc, World.size_setCell, World.size_drew]; omega)))) (h2.below (by repeat' (first | (with_reducible exact Below.refl _ _) | (with_reducible apply Below.alloc) | (with_reducible apply Below.drew) | (with_reducible apply below_drawn) | omega | (simp only [World.size_alloc, World.size_setCell, World.size_drew]; omega))))).mono ?_; rw [k2.out]; rintro e w2 ⟨rfl, m2, rfl⟩)
        go_ret
        exact ⟨rfl, (by repeat' (first | (with_reducible exact Below.refl _ _) | (with_reducible apply Below.alloc) | (with_reducible apply Below.drew) | (with_reducible apply below_drawn) | omega | (simp only [World.size_alloc, World.size_setCell, World.size_drew]; omega)))⟩
      · have d3 : (p1 != r1) = true := by simp [x3]
        rw [tf_false (fun e => x3 (by rw [e2, e4, e]))]
        clear e1 e2 e3 e4 x1 x2 x3
        go_enter Try.func28, Try.ntmps28
        go_wp2_with (go_at_call 32; refine (eqI_any _ _ _ _ _ _ _ _ _ (h1.below (by repeat' (first | (with_reducible exact Below.refl _ _) | (with_reducible apply Below.alloc) | (with_reducible apply Below.drew) | (with_reducible apply below_drawn) | omega | (simp only [World.size_alloc, World.size_setCell, World.size_drew]; omega)))) (h2.below (by repeat' (first | (with_reducible exact Below.refl _ _) | (with_reducible apply Below.alloc) | (with_reducible apply Below.drew) | (with_reducible apply below_drawn) | omega | (simp only [World.size_alloc, World.size_setCell, World.size_drew]; omega))))).mono ?_; rw [k2.out]; rintro e w2 ⟨rfl, m2, rfl⟩)
        go_ret
        exact ⟨rfl, (by repeat' (first | (with_reducible exact Below.refl _ _) | (with_reducible apply Below.alloc) | (with_reducible apply Below.drew) | (with_reducible apply below_drawn) | omega | (simp only [World.size_alloc, World.size_setCell, World.size_drew]; omega)))⟩
    · have k2 := Lib.hid (tf_false x2)
      rw [tf_false (fun e => x2 (by rw [e]))]
      clear e1 e2 e3 e4 x1 x2
      go_enter Try.func28, Try.ntmps28
      go_wp2_with (go_at_call 32; refine (eqI_any _ _ _ _ _ _ _ _ _ (h1.below (by repeat' (first | (with_reducible exact Below.refl _ _) | (with_reducible apply Below.alloc) | (with_reducible apply Below.drew) | (with_reducible apply below_drawn) | omega | (simp only [World.size_alloc, World.size_setCell, World.size_drew]; omega)))) (h2.below (by repeat' (first | (with_reducible exact Below.refl _ _) | (with_reducible apply Below.alloc) | (with_reducible apply Below.drew) | (with_reducible apply below_drawn) | omega | (simp only [World.size_alloc, World.size_setCell, World.size_drew]; omega))))).mono ?_; rw [k2.out]; rintro e w2 ⟨rfl, m2, rfl⟩)
      go_ret
      exact ⟨rfl, (by repeat' (first | (with_reducible exact Below.refl _ _) | (with_reducible apply Below.alloc) | (with_reducible apply Below.drew) | (with_reducible apply below_drawn) | omega | (simp only [World.size_alloc, World.size_setCell, World.size_drew]; omega)))⟩
  · have d1 : (p0 != r0) = true := by simp [x1]
    rw [tf_false (fun e => x1 (by rw [e1, e3, e]))]
    clear e1 e2 e3 e4 x1
    go_enter Try.func28, Try.ntmps28
    go_wp2_with fail
    go_ret
    exact ⟨rfl, (by repeat' (first | (with_reducible exact Below.refl _ _) | (with_reducible apply Below.alloc) | (with_reducible apply Below.drew) | (with_reducible apply below_drawn) | omega | (simp only [World.size_alloc, World.size_setCell, World.size_drew]; omega)))⟩
end Go.Proofs.Ytdbojkdfpkgfcaa
