/-
  The contracts of DominionIn as the law's walk wants them.
-/
import Derived.Test.YthdioaeekhkgcaaE15
import Derived.Test.YthdioaeekhkgcaaLaw
namespace Go.Proofs.Ythdioaeekhkgcaa
set_option linter.unusedVariables false
set_option linter.unusedSimpArgs false
open Go.RowKit

theorem len_hid {a : Nat} {xs : List Int} (h : RowKit.Hid (xs.length = a)) (h2 : a ≤ 1048576) : xs.length ≤ 1048576 := by have h3 : xs.length = a := h; omega
theorem domIn_i (v u : Value) (g : Pa) (who : Int) (xs : List Int) (w : World) (hP : IsP w v g) (hI : IsI w u xs) (hx : xs.length ≤ 1048576) : Calls Try.prog 22 #[v, .int .i64 who, u] w (Bb w (tf (DomIs g who xs))) :=
  calls_b (vs := [v, .int .i64 who, u]) (dominionIn_if g who xs hx) (.cons (av_P hP) (.cons (av_n _ _) (.cons (av_I hI) .nil)))
theorem domIn_s (v u : Value) (g : Pa) (who : Int) (xs : List Int) (w : World) (hP : IsP w v g) (hI : IsI w u xs) (hx : xs.length ≤ 1048576) : Calls Try.prog 20 #[v, .int .i64 who, u] w (Bb w (tf (DomIs g who xs))) :=
  calls_b (vs := [v, .int .i64 who, u]) (dominionIn_sf g who xs hx) (.cons (av_P hP) (.cons (av_n _ _) (.cons (av_I hI) .nil)))
end Go.Proofs.Ythdioaeekhkgcaa
