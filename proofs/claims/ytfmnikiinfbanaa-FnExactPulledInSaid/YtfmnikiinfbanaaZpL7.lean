/-
  The contracts of the functions that are told of a stage, as the laws' walks want them.
-/
import Derived.Test.YtfmnikiinfbanaaZpQC
import Derived.Test.YtfmnikiinfbanaaZpL6
import Derived.Test.YtfmnikiinfbanaaZpStage
namespace Go.Proofs.Ytfmnikiinfbanaa
set_option linter.unusedVariables false
set_option linter.unusedSimpArgs false
open Go.RowKit
theorem av_S {w : World} {v : Value} {s : St} (h : IsS w v s) : AVC φ00 h00 w (stA s) v := by
  obtain ⟨x, y, rfl, h1, h2⟩ := h
  exact agg_avs (vs := [x, y, .int .i64 s.at_]) (.cons (av_I h1) (.cons (av_I h2) (.cons (av_n _ _) .nil)))
open Classical in
noncomputable def pulN (g : Pa) (s : St) : List Int := if OnS g s then pulL g s else []
theorem pulN_len (g : Pa) (s : St) : (pulN g s).length ≤ 1048576 := by
  unfold pulN
  split
  · rename_i h
    have h1 := lst_len (Pul g s) g.prio.length
    have h2 := h.1.2
    unfold pulL
    omega
  · exact Nat.zero_le _
theorem pulledIn_i (v u : Value) (g : Pa) (s : St) (w : World) (hP : IsP w v g) (hS : IsS w u s) : Calls Try.prog 36 #[v, u] w (RetI' w (pulN g s)) := by
  by_cases h : OnS g s
  · rw [pulN, if_pos h]; exact calls_I (vs := [v, u]) (pulledInP_if g s h) rfl (.cons (av_P hP) (.cons (av_S hS) .nil))
  · rw [pulN, if_neg h]; exact calls_I0 (vs := [v, u]) (pulledInP_ino g s h) (.cons (av_P hP) (.cons (av_S hS) .nil))
theorem pulledIn_s (v u : Value) (g : Pa) (s : St) (w : World) (hP : IsP w v g) (hS : IsS w u s) : Calls Try.prog 35 #[v, u] w (RetI' w (pulN g s)) := by
  by_cases h : OnS g s
  · rw [pulN, if_pos h]; exact calls_I (vs := [v, u]) (pulledInP_sf g s h) rfl (.cons (av_P hP) (.cons (av_S hS) .nil))
  · rw [pulN, if_neg h]; exact calls_I (vs := [v, u]) (pulledInP_sno g s h) rfl (.cons (av_P hP) (.cons (av_S hS) .nil))
end Go.Proofs.Ytfmnikiinfbanaa
