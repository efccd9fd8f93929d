/-
  The contracts of measures as the laws' walks want them.
-/
import Derived.Test.YtfkiloibifigfaaM12
import Derived.Test.YtfkiloibifigfaaLaw
namespace Go.Proofs.Ytfkiloibifigfaa
set_option linter.unusedVariables false
set_option linter.unusedSimpArgs false
open Go.RowKit

theorem tableOk_i (v u : Value) (g : Pa) (t : List (List Int)) (w : World) (hP : IsP w v g) (hI : IsII w u t) : Calls Try.prog 19 #[v, u] w (Bb w (tf (TabOkP g t))) :=
  calls_b (vs := [v, u]) (tableOk_if g t) (.cons (av_P hP) (.cons (av_II hI) .nil))
theorem tableOk_s (v u : Value) (g : Pa) (t : List (List Int)) (w : World) (hP : IsP w v g) (hI : IsII w u t) : Calls Try.prog 16 #[v, u] w (Bb w (tf (TabOkP g t))) :=
  calls_b (vs := [v, u]) (tableOk_sf g t) (.cons (av_P hP) (.cons (av_II hI) .nil))
theorem steady_i (v u : Value) (g : Pa) (t : List (List Int)) (w : World) (hP : IsP w v g) (hI : IsII w u t) : Calls Try.prog 36 #[v, u] w (Bb w (tf (StdP g t))) :=
  calls_b (vs := [v, u]) (steady_if g t) (.cons (av_P hP) (.cons (av_II hI) .nil))
theorem steady_s (v u : Value) (g : Pa) (t : List (List Int)) (w : World) (hP : IsP w v g) (hI : IsII w u t) : Calls Try.prog 35 #[v, u] w (Bb w (tf (StdP g t))) :=
  calls_b (vs := [v, u]) (steady_sf g t) (.cons (av_P hP) (.cons (av_II hI) .nil))
theorem atLeast_i (v u x : Value) (g : Pa) (a b : List Int) (p : Int) (w : World) (hP : IsP w v g) (hA : IsI w u a) (hB : IsI w x b) : Calls Try.prog 24 #[v, u, x, .int .i64 p] w (Bb w (tf (AtlP g a b p))) :=
  calls_b (vs := [v, u, x, .int .i64 p]) (atLeast_if g a b p) (.cons (av_P hP) (.cons (av_I hA) (.cons (av_I hB) (.cons (av_n _ _) .nil))))
theorem atLeast_s (v u x : Value) (g : Pa) (a b : List Int) (p : Int) (w : World) (hP : IsP w v g) (hA : IsI w u a) (hB : IsI w x b) : Calls Try.prog 22 #[v, u, x, .int .i64 p] w (Bb w (tf (AtlP g a b p))) :=
  calls_b (vs := [v, u, x, .int .i64 p]) (atLeast_sf g a b p) (.cons (av_P hP) (.cons (av_I hA) (.cons (av_I hB) (.cons (av_n _ _) .nil))))
open Classical in
/-- What AskedBy gives. -/
noncomputable def abL (g : Pa) (v : Int) (m : List Int) : List Int := if AskP g v m then askL g v.toNat m else []
theorem abL_len (g : Pa) (v : Int) (m : List Int) : (abL g v m).length ≤ 1048576 := by
  unfold abL
  split
  · rename_i h
    have := (msr_len (ask_msr h.1.1 (v := v.toNat) h.2.2)).2
    omega
  · exact Nat.zero_le _
theorem askedBy_i (v u : Value) (g : Pa) (x : Int) (m : List Int) (w : World) (hP : IsP w v g) (hI : IsI w u m) : Calls Try.prog 27 #[v, .int .i64 x, u] w (RetI' w (abL g x m)) := by
  by_cases h : AskP g x m
  · rw [abL, if_pos h]; exact calls_I (vs := [v, .int .i64 x, u]) (askedBy_if g x m h) rfl (.cons (av_P hP) (.cons (av_n _ _) (.cons (av_I hI) .nil)))
  · rw [abL, if_neg h]; exact calls_I0 (vs := [v, .int .i64 x, u]) (askedBy_ino g x m h) (.cons (av_P hP) (.cons (av_n _ _) (.cons (av_I hI) .nil)))
theorem askedBy_s (v u : Value) (g : Pa) (x : Int) (m : List Int) (w : World) (hP : IsP w v g) (hI : IsI w u m) : Calls Try.prog 26 #[v, .int .i64 x, u] w (RetI' w (abL g x m)) := by
  by_cases h : AskP g x m
  · rw [abL, if_pos h]; exact calls_I (vs := [v, .int .i64 x, u]) (askedBy_sf g x m h) rfl (.cons (av_P hP) (.cons (av_n _ _) (.cons (av_I hI) .nil)))
  · rw [abL, if_neg h]; exact calls_I (vs := [v, .int .i64 x, u]) (askedBy_sno g x m h) rfl (.cons (av_P hP) (.cons (av_n _ _) (.cons (av_I hI) .nil)))
open Classical in
noncomputable def mwN (g : Pa) : List Int := if Small g then mwL g else []
theorem mwN_len (g : Pa) : (mwN g).length ≤ 1048576 := by
  unfold mwN
  split
  · rename_i h; rw [mwL, tab_len]; have := h.2; omega
  · exact Nat.zero_le _
theorem mWon_i (v : Value) (g : Pa) (w : World) (hP : IsP w v g) : Calls Try.prog 42 #[v] w (RetI' w (mwN g)) := by
  by_cases h : Small g
  · rw [mwN, if_pos h]; exact calls_I (vs := [v]) (mWon_if g h) rfl (.cons (av_P hP) .nil)
  · rw [mwN, if_neg h]; exact calls_I0 (vs := [v]) (mWon_ino g h) (.cons (av_P hP) .nil)
theorem mWon_s (v : Value) (g : Pa) (w : World) (hP : IsP w v g) : Calls Try.prog 41 #[v] w (RetI' w (mwN g)) := by
  by_cases h : Small g
  · rw [mwN, if_pos h]; exact calls_I (vs := [v]) (mWon_sf g h) rfl (.cons (av_P hP) .nil)
  · rw [mwN, if_neg h]; exact calls_I (vs := [v]) (mWon_sno g h) rfl (.cons (av_P hP) .nil)
open Classical in
noncomputable def mpN (g : Pa) : List Int := if Small g then mpL g else []
theorem mpN_len (g : Pa) : (mpN g).length ≤ 1048576 := by
  unfold mpN
  split
  · rename_i h; rw [mpL, tab_len]; have := h.2; omega
  · exact Nat.zero_le _
theorem mPlan_i (v : Value) (g : Pa) (w : World) (hP : IsP w v g) : Calls Try.prog 40 #[v] w (RetI' w (mpN g)) := by
  by_cases h : Small g
  · rw [mpN, if_pos h]; exact calls_I (vs := [v]) (mPlan_if g h) rfl (.cons (av_P hP) .nil)
  · rw [mpN, if_neg h]; exact calls_I0 (vs := [v]) (mPlan_ino g h) (.cons (av_P hP) .nil)
theorem mPlan_s (v : Value) (g : Pa) (w : World) (hP : IsP w v g) : Calls Try.prog 39 #[v] w (RetI' w (mpN g)) := by
  by_cases h : Small g
  · rw [mpN, if_pos h]; exact calls_I (vs := [v]) (mPlan_sf g h) rfl (.cons (av_P hP) .nil)
  · rw [mpN, if_neg h]; exact calls_I (vs := [v]) (mPlan_sno g h) rfl (.cons (av_P hP) .nil)
end Go.Proofs.Ytfkiloibifigfaa
