/-
  Measures, the program: the least table.
-/
import Derived.Test.YtceonklhlpkfgaaZlM7
namespace Go.Proofs.Ytceonklhlpkfgaa
set_option linter.unusedVariables false
set_option linter.unusedSimpArgs false
open Go.RowKit
attribute [local irreducible] ay cM Aw Le
theorem jI {g : Pa} (hg : PaOk g) {t : List (List Int)} (ht : dg g t) {v : Nat} (hv : v < g.prio.length) : bJ g (gg g t v):=MS.dem_ok (hH hg) ht hv
end Go.Proofs.Ytceonklhlpkfgaa
