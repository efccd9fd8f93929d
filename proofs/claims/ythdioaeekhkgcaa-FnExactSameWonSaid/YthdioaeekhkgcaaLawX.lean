/-
  Words for the exact laws' walks.
-/
import Derived.Test.YthdioaeekhkgcaaLaw
import Derived.Test.YthdioaeekhkgcaaOps
namespace Go.Proofs.Ythdioaeekhkgcaa
set_option linter.unusedVariables false
set_option linter.unusedSimpArgs false
open Go.RowKit
theorem own : ownKnob Try.prog.godebug = none := by kernel_rfl
theorem laid : laidOutB Try.prog = true := by kernel_rfl

theorem toI_any' {s : Option Addr} {n c : Nat} {g : List Int} {w : World} (h : IsI w (.slice s n c) g) (hn : n ≤ 1048576) : Calls Try.prog 21 #[.slice s n c] w (RetI' w g) :=
  (toI_any _ _ _ _ _ h.ints hn).mono fun _ _ ⟨_, sa, c, e, h1, h2⟩ => ⟨sa, n, c, e, h1, h2⟩
theorem eqI_any' {a b : Value} {x y : List Int} {w : World} (hx : IsI w a x) (hy : IsI w b y) : Calls Try.prog 23 #[a, b] w (Bb w (tf (x = y))) := by
  obtain ⟨_, _, _, rfl, h1⟩ := hx
  obtain ⟨_, _, _, rfl, h2⟩ := hy
  exact (eqI_any _ _ _ _ _ _ _ _ _ h1 h2).mono fun _ _ h => h.bb

set_option maxHeartbeats 400000 in
theorem szP_any (v : Value) (g : Pa) (l : Int) (w : World) (hP : IsP w v g) (h0 : 0 ≤ l) (hl : l ≤ 1048576) :
    Calls Try.prog 15 #[v, .int .i64 l] w (Bi w (lft l (szP g))) := by
  obtain ⟨_, _, _, rfl, ⟨s1, n1, c1, rfl, h1⟩, ⟨s2, n2, c2, rfl, h2⟩, ⟨s3, n3, c3, rfl, h3⟩⟩ := hP
  have hA : IsA w (.agg #[.slice s1 n1 c1, .slice s2 n2 c2]) g.ar := ⟨_, _, rfl, h1.is, h2.is⟩
  have hm3 := h3.max
  have HL := Lib.hid h3.1
  by_cases hf : (szA g.ar : Int) ≤ l
  · have hz := lft_ok hf
    by_cases hg : (szA g.ar : Int) + n3 ≤ l
    · have hz2 := lft_ok (l := l - szA g.ar) (n := n3) (by omega)
      go_enter Try.func15, Try.ntmps15
      go_wp2_with (first | (go_at_call 63; refine (szA_any _ _ _ _ (hA.below (by repeat' (first | (with_reducible exact Below.refl _ _) | (with_reducible assumption) | (with_reducible apply below_set) | (with_reducible apply Below.alloc) | (with_reducible apply Below.drew) | (with_reducible apply below_drawn) | (with_reducible refine Below.trans ?_ (Below.mono (by assumption) ?_)) | omega | (simp only [World.size_alloc, World.size_setCell, World.size_drew]; omega)))) (by omega) (by omega)).mono ?_; rw [hz]; rintro e w2 ⟨rfl, hb2⟩; have hcf := bcell hb2; obtain ⟨hcell2, hfr2⟩ := hcf) | (go_at_call 64; refine (szI_any _ _ _ _ _ hm3 (by omega) (by omega)).mono ?_; rw [hz2]; rintro e w3 ⟨rfl, rfl⟩))
      go_ret
      exact ⟨ret_int (by rw [lft_ok]; · unfold szP; rw [HL.out]; omega
                         · unfold szP; rw [HL.out]; omega), (by repeat' (first | (with_reducible exact Below.refl _ _) | (with_reducible assumption) | (with_reducible apply below_set) | (with_reducible apply Below.alloc) | (with_reducible apply Below.drew) | (with_reducible apply below_drawn) | (with_reducible refine Below.trans ?_ (Below.mono (by assumption) ?_)) | omega | (simp only [World.size_alloc, World.size_setCell, World.size_drew]; omega)))⟩
    · have hz2 := lft_no (l := l - szA g.ar) (n := n3) (by omega)
      go_enter Try.func15, Try.ntmps15
      go_wp2_with (first | (go_at_call 63; refine (szA_any _ _ _ _ (hA.below (by repeat' (first | (with_reducible exact Below.refl _ _) | (with_reducible assumption) | (with_reducible apply below_set) | (with_reducible apply Below.alloc) | (with_reducible apply Below.drew) | (with_reducible apply below_drawn) | (with_reducible refine Below.trans ?_ (Below.mono (by assumption) ?_)) | omega | (simp only [World.size_alloc, World.size_setCell, World.size_drew]; omega)))) (by omega) (by omega)).mono ?_; rw [hz]; rintro e w2 ⟨rfl, hb2⟩; have hcf := bcell hb2; obtain ⟨hcell2, hfr2⟩ := hcf) | (go_at_call 64; refine (szI_any _ _ _ _ _ hm3 (by omega) (by omega)).mono ?_; rw [hz2]; rintro e w3 ⟨rfl, rfl⟩))
      go_ret
      exact ⟨ret_int (by rw [lft_no]; unfold szP; rw [HL.out]; omega), (by repeat' (first | (with_reducible exact Below.refl _ _) | (with_reducible assumption) | (with_reducible apply below_set) | (with_reducible apply Below.alloc) | (with_reducible apply Below.drew) | (with_reducible apply below_drawn) | (with_reducible refine Below.trans ?_ (Below.mono (by assumption) ?_)) | omega | (simp only [World.size_alloc, World.size_setCell, World.size_drew]; omega)))⟩
  · have hz := lft_no (l := l) (n := szA g.ar) (by omega)
    go_enter Try.func15, Try.ntmps15
    go_wp2_with (go_at_call 63; refine (szA_any _ _ _ _ (hA.below (by repeat' (first | (with_reducible exact Below.refl _ _) | (with_reducible assumption) | (with_reducible apply below_set) | (with_reducible apply Below.alloc) | (with_reducible apply Below.drew) | (with_reducible apply below_drawn) | (with_reducible refine Below.trans ?_ (Below.mono (by assumption) ?_)) | omega | (simp only [World.size_alloc, World.size_setCell, World.size_drew]; omega)))) (by omega) (by omega)).mono ?_; rw [hz]; rintro e w2 ⟨rfl, hb2⟩; have hcf := bcell hb2; obtain ⟨hcell2, hfr2⟩ := hcf)
    go_ret
    exact ⟨ret_int (by rw [lft_no]; unfold szP; omega), (by repeat' (first | (with_reducible exact Below.refl _ _) | (with_reducible assumption) | (with_reducible apply below_set) | (with_reducible apply Below.alloc) | (with_reducible apply Below.drew) | (with_reducible apply below_drawn) | (with_reducible refine Below.trans ?_ (Below.mono (by assumption) ?_)) | omega | (simp only [World.size_alloc, World.size_setCell, World.size_drew]; omega)))⟩

end Go.Proofs.Ythdioaeekhkgcaa
