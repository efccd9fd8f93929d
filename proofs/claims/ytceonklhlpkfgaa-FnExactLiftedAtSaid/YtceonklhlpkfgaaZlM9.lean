/-
  Measures, the program: the functions themselves.
-/
import Derived.Test.YtceonklhlpkfgaaZlM8
import Derived.Test.YtceonklhlpkfgaaZlNp
namespace Go.Proofs.Ytceonklhlpkfgaa
set_option linter.unusedVariables false
set_option linter.unusedSimpArgs false
open Go.RowKit
def jK (g : Pa) (t : List (List Int)) : Prop:=eZ g ∧ dg g t
end Go.Proofs.Ytceonklhlpkfgaa
