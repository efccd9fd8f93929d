/-
  AskOk: the contracts as the law's walk uses them.
-/
import Derived.Test.YtdbojkdfpkgfcaaE5
namespace Go.Proofs.Ytdbojkdfpkgfcaa
set_option linter.unusedVariables false
set_option linter.unusedSimpArgs false
open Go.RowKit

theorem askOk_i (v u : Value) (g : Pa) (xs : List Int) (who d mine yours : Int) (w : World) (hP : IsP w v g) (hI : IsI w u xs) : Calls Try.prog 31 #[v, u, .int .i64 who, .int .i64 d, .int .i64 mine, .int .i64 yours] w (Bb w (tf (AskIs g xs who d mine yours))) :=
  calls_b (vs := [v, u, .int .i64 who, .int .i64 d, .int .i64 mine, .int .i64 yours]) (askOk_f g xs who d mine yours) (.cons (av_P hP) (.cons (av_I hI) (.cons (av_n _ _) (.cons (av_n _ _) (.cons (av_n _ _) (.cons (av_n _ _) .nil))))))
theorem askOk_s (v u : Value) (g : Pa) (xs : List Int) (who d mine yours : Int) (w : World) (hP : IsP w v g) (hI : IsI w u xs) : Calls Try.prog 29 #[v, u, .int .i64 who, .int .i64 d, .int .i64 mine, .int .i64 yours] w (Bb w (tf (AskIs g xs who d mine yours))) :=
  calls_b (vs := [v, u, .int .i64 who, .int .i64 d, .int .i64 mine, .int .i64 yours]) (askOk_sf g xs who d mine yours) (.cons (av_P hP) (.cons (av_I hI) (.cons (av_n _ _) (.cons (av_n _ _) (.cons (av_n _ _) (.cons (av_n _ _) .nil))))))
end Go.Proofs.Ytdbojkdfpkgfcaa
