/-
  The contracts of promotion as the laws' walks want them.
-/
import Derived.Test.YtfmnikiinfbanaaZaQA
import Derived.Test.YtfmnikiinfbanaaZaLaw
import Derived.Test.YtfmnikiinfbanaaZaM3
namespace Go.Proofs.Ytfmnikiinfbanaa
set_option linter.unusedVariables false
set_option linter.unusedSimpArgs false
open Go.RowKit
open Classical in

noncomputable def stpN (g : Pa) : List Int := if Small g then stpL g (nS g) else []
theorem stpN_len (g : Pa) : (stpN g).length ≤ 1048576 := by
  unfold stpN
  split
  · rw [stpL, tab_len]; decide
  · exact Nat.zero_le _
theorem stepsIn_i (v : Value) (g : Pa) (w : World) (hP : IsP w v g) : Calls Try.prog 15 #[v] w (RetI' w (stpN g)) := by
  by_cases h : Small g
  · rw [stpN, if_pos h]; exact calls_I (vs := [v]) (stepsIn_if g h) rfl (.cons (av_P hP) .nil)
  · rw [stpN, if_neg h]; exact calls_I0 (vs := [v]) (stepsIn_ino g h) (.cons (av_P hP) .nil)
theorem stepsIn_s (v : Value) (g : Pa) (w : World) (hP : IsP w v g) : Calls Try.prog 13 #[v] w (RetI' w (stpN g)) := by
  by_cases h : Small g
  · rw [stpN, if_pos h]; exact calls_I (vs := [v]) (stepsIn_sf g h) rfl (.cons (av_P hP) .nil)
  · rw [stpN, if_neg h]; exact calls_I (vs := [v]) (stepsIn_sno g h) rfl (.cons (av_P hP) .nil)
end Go.Proofs.Ytfmnikiinfbanaa
