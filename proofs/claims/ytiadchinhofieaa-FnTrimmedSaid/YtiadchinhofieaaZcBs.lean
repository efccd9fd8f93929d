/-
  Binary search in a set; what is in one set and not in another one.
-/
import Derived.Test.YtiadchinhofieaaZcKf
import Derived.Test.YtiadchinhofieaaZcCb
import Derived.Test.YtiadchinhofieaaZcAt2
namespace Go.Proofs.Ytiadchinhofieaa
set_option linter.unusedVariables false
set_option linter.unusedSimpArgs false
open Go.RowKit
theorem gK {xs : List Int} {m : Int} (h : cS xs m) : xs.Pairwise (· < ·):=by
 rw [List.pairwise_iff_getElem]
 have key : ∀ d i,i + d + 1 < xs.length → gi xs i < gi xs (i + d + 1):=by
  intro d
  induction d with
  | zero => intro i hi; exact (h (i + 1) hi).2.2 (Nat.succ_pos _)
  | succ d ih =>
    intro i hi
    have h1:=ih i (by omega)
    have h2:=(h (i + d + 1 + 1) (by omega)).2.2 (Nat.succ_pos _)
    rw [show i + d + 1 + 1 - 1 = i + d + 1 by omega] at h2
    rw [show i + (d + 1) + 1 = i + d + 1 + 1 by omega]
    omega
 intro i j hi hj hij
 have:=key (j - i - 1) i (by omega)
 rw [show i + (j - i - 1) + 1 = j by omega] at this
 rwa [c9 hi,c9 hj] at this
end Go.Proofs.Ytiadchinhofieaa
