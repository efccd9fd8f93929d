/-
  The contracts of the functions that are told of a stage, as the laws' walks want them.
-/
import Derived.Test.YtfmnikiinfbanaaZaQC
import Derived.Test.YtfmnikiinfbanaaZaL6
import Derived.Test.YtfmnikiinfbanaaZaStage
namespace Go.Proofs.Ytfmnikiinfbanaa
set_option linter.unusedVariables false
set_option linter.unusedSimpArgs false
open Go.RowKit
theorem av_S {w : World} {v : Value} {s : St} (h : IsS w v s) : AVC φ00 h00 w (stA s) v := by
  obtain ⟨x, y, rfl, h1, h2⟩ := h
  exact agg_avs (vs := [x, y, .int .i64 s.at_]) (.cons (av_I h1) (.cons (av_I h2) (.cons (av_n _ _) .nil)))
theorem stageIn_i (v u : Value) (g : Pa) (s : St) (w : World) (hP : IsP w v g) (hS : IsS w u s) : Calls Try.prog 26 #[v, u] w (Bb w (tf (Small g ∧ StgIn g s))) :=
  calls_b (vs := [v, u]) (stageInP_if g s) (.cons (av_P hP) (.cons (av_S hS) .nil))
theorem stageIn_s (v u : Value) (g : Pa) (s : St) (w : World) (hP : IsP w v g) (hS : IsS w u s) : Calls Try.prog 24 #[v, u] w (Bb w (tf (Small g ∧ StgIn g s))) :=
  calls_b (vs := [v, u]) (stageInP_sf g s) (.cons (av_P hP) (.cons (av_S hS) .nil))
theorem shutIn_i (v u : Value) (g : Pa) (s : St) (w : World) (hP : IsP w v g) (hS : IsS w u s) : Calls Try.prog 34 #[v, u] w (Bb w (tf (OnS g s ∧ ShutP g s))) :=
  calls_b (vs := [v, u]) (shutInP_if g s) (.cons (av_P hP) (.cons (av_S hS) .nil))
theorem shutIn_s (v u : Value) (g : Pa) (s : St) (w : World) (hP : IsP w v g) (hS : IsS w u s) : Calls Try.prog 33 #[v, u] w (Bb w (tf (OnS g s ∧ ShutP g s))) :=
  calls_b (vs := [v, u]) (shutInP_sf g s) (.cons (av_P hP) (.cons (av_S hS) .nil))
end Go.Proofs.Ytfmnikiinfbanaa
