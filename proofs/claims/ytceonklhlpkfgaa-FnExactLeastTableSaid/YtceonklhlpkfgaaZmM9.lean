/-
  Measures, the program: the functions themselves.
-/
import Derived.Test.YtceonklhlpkfgaaZmM8
import Derived.Test.YtceonklhlpkfgaaZmNp
namespace Go.Proofs.Ytceonklhlpkfgaa
set_option linter.unusedVariables false
set_option linter.unusedSimpArgs false
open Go.RowKit
theorem pT {g : Pa} (hs : cH g) : (bd g).Least (bd g).least:=MS.least_is (MS.least_ex (cX hs.1) (oy hs) (by decide))
theorem oF {g : Pa} (hs : cH g) : dc g (bd g).least:=(pT hs).1.1
end Go.Proofs.Ytceonklhlpkfgaa
