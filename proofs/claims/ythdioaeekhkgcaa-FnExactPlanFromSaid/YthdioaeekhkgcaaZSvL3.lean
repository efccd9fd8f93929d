/-
  The contracts of Solved and PlanFrom as the laws' walks want them.
-/
import Derived.Test.YthdioaeekhkgcaaZSvE25
namespace Go.Proofs.Ythdioaeekhkgcaa
set_option linter.unusedVariables false
set_option linter.unusedSimpArgs false
open Go.RowKit
noncomputable def planA (g : Pa) (ps : List Int) : An := ⟨winL g, planN g (winL g) ps g.prio.length⟩
open Classical in
noncomputable def solN (g : Pa) : An := if PaOk g then planA g (noP g.prio.length) else ⟨[], []⟩
open Classical in
noncomputable def plnN (g : Pa) (ps : List Int) : An := if Fits g ps then planA g ps else ⟨[], []⟩
theorem planA_sz {g : Pa} (hg : PaOk g) {ps : List Int} (hp : PickOk g ps) : szN (planA g ps) ≤ 1048576 := by
  have hl := hg.len
  have hle := hg.ar.le
  have h1 := winL_len g
  have h2 := (planN_ok hg hp g.prio.length (Nat.le_refl _)).pk.1
  unfold szN planA
  simp only [h1, h2]
  omega
theorem solN_sz (g : Pa) : szN (solN g) ≤ 1048576 := by
  unfold solN
  split
  · exact planA_sz (by assumption) (noP_ok (by assumption))
  · exact Nat.zero_le _
theorem plnN_sz (g : Pa) (ps : List Int) : szN (plnN g ps) ≤ 1048576 := by
  unfold plnN
  split
  · rename_i h; exact planA_sz h.1.1.1 (fits_pick h)
  · exact Nat.zero_le _
theorem solved_i (v : Value) (g : Pa) (w : World) (hP : IsP w v g) : Calls Try.prog 33 #[v] w (RetN w (solN g)) := by
  by_cases hg : PaOk g
  · rw [solN, if_pos hg]; exact calls_N (x := planA g _) (vs := [v]) (solved_if g hg) (.cons (av_P hP) .nil)
  · rw [solN, if_neg hg]; exact calls_N0 (vs := [v]) (solved_ino g hg) (.cons (av_P hP) .nil)
theorem solved_s (v : Value) (g : Pa) (w : World) (hP : IsP w v g) : Calls Try.prog 32 #[v] w (RetN w (solN g)) := by
  by_cases hg : PaOk g
  · rw [solN, if_pos hg]; exact calls_N (x := planA g _) (vs := [v]) (solved_sf g hg) (.cons (av_P hP) .nil)
  · rw [solN, if_neg hg]; exact calls_N0 (vs := [v]) (solved_sno g hg) (.cons (av_P hP) .nil)
theorem planFrom_i (v u : Value) (g : Pa) (ps : List Int) (w : World) (hP : IsP w v g) (hI : IsI w u ps) : Calls Try.prog 38 #[v, u] w (RetNB w (plnN g ps) (tf (Fits g ps))) := by
  by_cases hg : Fits g ps
  · rw [plnN, if_pos hg, tf_true hg]; exact calls_NB (x := planA g ps) (vs := [v, u]) (planFrom_if g ps hg) (.cons (av_P hP) (.cons (av_I hI) .nil))
  · rw [plnN, if_neg hg, tf_false hg]; exact calls_NB0 (vs := [v, u]) (planFrom_ino g ps hg) (.cons (av_P hP) (.cons (av_I hI) .nil))
theorem planFrom_s (v u : Value) (g : Pa) (ps : List Int) (w : World) (hP : IsP w v g) (hI : IsI w u ps) : Calls Try.prog 37 #[v, u] w (RetNB w (plnN g ps) (tf (Fits g ps))) := by
  by_cases hg : Fits g ps
  · rw [plnN, if_pos hg, tf_true hg]; exact calls_NB (x := planA g ps) (vs := [v, u]) (planFrom_sf g ps hg) (.cons (av_P hP) (.cons (av_I hI) .nil))
  · rw [plnN, if_neg hg, tf_false hg]; exact calls_NB0 (vs := [v, u]) (planFrom_sno g ps hg) (.cons (av_P hP) (.cons (av_I hI) .nil))
end Go.Proofs.Ythdioaeekhkgcaa
