/-
  The contracts of KeepsWon as the law's walk wants them.
-/
import Derived.Test.YthdioaeekhkgcaaE14
import Derived.Test.YthdioaeekhkgcaaLaw
namespace Go.Proofs.Ythdioaeekhkgcaa
set_option linter.unusedVariables false
set_option linter.unusedSimpArgs false
open Go.RowKit

theorem keepsWon_i (v u : Value) (g : Pa) (ps : List Int) (w : World) (hP : IsP w v g) (hI : IsI w u ps) : Calls Try.prog 25 #[v, u] w (Bb w (tf (Keeps g ps))) :=
  calls_b (keepsWon_if g ps) (.cons (av_P hP) (.cons (av_I hI) .nil))
theorem keepsWon_s (v u : Value) (g : Pa) (ps : List Int) (w : World) (hP : IsP w v g) (hI : IsI w u ps) : Calls Try.prog 24 #[v, u] w (Bb w (tf (Keeps g ps))) :=
  calls_b (keepsWon_sf g ps) (.cons (av_P hP) (.cons (av_I hI) .nil))
end Go.Proofs.Ythdioaeekhkgcaa
