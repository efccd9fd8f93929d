/-
  The contracts as the laws' walks want them.
-/
import Derived.Test.YthdioaeekhkgcaaE13
import Derived.Test.YthdioaeekhkgcaaLaw
namespace Go.Proofs.Ythdioaeekhkgcaa
set_option linter.unusedVariables false
set_option linter.unusedSimpArgs false
open Go.RowKit

theorem sameWon_i (v u : Value) (g h : Pa) (w : World) (hP : IsP w v g) (hQ : IsP w u h) : Calls Try.prog 18 #[v, u] w (Bb w (tf (SameW g h))) :=
  calls_b (sameWon_if g h) (.cons (av_P hP) (.cons (av_P hQ) .nil))
theorem sameWon_s (v u : Value) (g h : Pa) (w : World) (hP : IsP w v g) (hQ : IsP w u h) : Calls Try.prog 16 #[v, u] w (Bb w (tf (SameW g h))) :=
  calls_b (sameWon_sf g h) (.cons (av_P hP) (.cons (av_P hQ) .nil))
end Go.Proofs.Ythdioaeekhkgcaa
