/-
  Solved and PlanFrom: the program's side.
-/
import Derived.Test.YtlodllmpndflcaaZoE14
import Derived.Test.YtlodllmpndflcaaZoD5
import Derived.Test.YtlodllmpndflcaaZoE15
import Derived.Test.YtlodllmpndflcaaZoNp
namespace Go.Proofs.Ytlodllmpndflcaa
set_option linter.unusedVariables false
set_option linter.unusedSimpArgs false
open Go.RowKit
theorem qp {g : Pa} (hg : PaOk g) {v t : Nat} (hv : v < g.prio.length) (ht : t < (gr g.ar.nxt v).length) : 0 ≤ gi (gr g.ar.nxt v) t ∧ gi (gr g.ar.nxt v) t < g.prio.length:=by
 have hl:=hg.len
 have:=(hg.ar.vert v (by omega)).2.2.2.2 t ht
 exact ⟨this.1,by omega⟩
end Go.Proofs.Ytlodllmpndflcaa
namespace Go.Proofs.Ytlodllmpndflcaa
set_option linter.unusedVariables false
set_option linter.unusedSimpArgs false
open Go.RowKit
end Go.Proofs.Ytlodllmpndflcaa
namespace Go.Proofs.Ytlodllmpndflcaa
set_option linter.unusedVariables false
set_option linter.unusedSimpArgs false
open Go.RowKit
