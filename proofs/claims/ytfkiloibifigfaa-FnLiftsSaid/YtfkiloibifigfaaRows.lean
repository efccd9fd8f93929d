/-
  No cell of these rows narrows 'for every input' (looked for: loops, veiled, ifaces, maps, wideKeys, modest, calm, conditions, laid).
  DERIVED. THE GIVEN ROWS OF THIS SEAT. 11 by the template 'for every input the law returns true; each argument reads behind the call as it read before'; 0 by the template 'total and deterministic' (their statements: YtfkiloibifigfaaTotals.lean).
  GIVEN WITH THE SEED: the statements are not yours to turn. If you find one false, say at which input.
  Laid BY PROGRAM, IN A SANDBOX (cutbox-rows.mjs): the forced cells as the released guide's own fill.sh prints them over the translation 4dc04f37afa1a26c… (all of the seat's roots in one cut). By AI agents, Wed Nov 11 2026. No macro, syntax, notation, axiom, sorry.
-/
import Derived.Test.YtfkiloibifigfaaChecked
import GoSem.Claim
import GoSem.ClaimJoined
import GoSem.ClaimMapViews
import Derived.JoinedTies
import Derived.KernelRfl
namespace Go.Proofs.Ytfkiloibifigfaa
/- THE CELL 'sum', in the pinned program and in every row, IS THE sha256 OF THE DUMP (.gsa) THAT YtfkiloibifigfaaProg.lean LOADS. Nothing in Lean hashes anything: it is a label: what it is worth is what the hold of that sum in a sandbox is worth. -/
noncomputable def Try.pinned : Pinned := { name := "ytfkiloibifigfaa", sum := "4dc04f37afa1a26c43f75b8b18e7794997c077adf3c63a8b93e2fdd08c042c9f", checked := Try.checked }
namespace Rows
def none {H : Type} : Left H := { results := [], args := [] }

/-- 'laws.FnExactTableOk': WHATEVER THE INPUT: true; the input reads as it did. -/
def fnExactTableOkSpec : ChangeSpec := { name := "fnExactTableOk", fn := fun _ => fun
  | [d1, d2] => { results := [.lit (.bool true)], args := [d1, d2] }
  | _ => none }
def fnExactTableOkRow : OpenClaim := { program := "ytfkiloibifigfaa", sum := "4dc04f37afa1a26c43f75b8b18e7794997c077adf3c63a8b93e2fdd08c042c9f", func := "loop.example/g00869/laws.FnExactTableOk", spec := "fnExactTableOk", recurses := true, apart := false }
def FnExactTableOkSaid : Prop := fnExactTableOkRow.holds Try.pinned (OpenSpec.ofChange fnExactTableOkSpec)

/-- ITS FALSE NEIGHBOUR: 'it returns false'. Refute it at one input. -/
def fnExactTableOkWrong : ChangeSpec := { name := "fnExactTableOk", fn := fun _ => fun
  | [d1, d2] => { results := [.lit (.bool false)], args := [d1, d2] }
  | _ => none }
def FnExactTableOkWrongFalsely : Prop := fnExactTableOkRow.holds Try.pinned (OpenSpec.ofChange fnExactTableOkWrong)

/-- 'laws.FnExactAtLeastIn': WHATEVER THE INPUT: true; the input reads as it did. -/
def fnExactAtLeastInSpec : ChangeSpec := { name := "fnExactAtLeastIn", fn := fun _ => fun
  | [d1, d2, d3, d4] => { results := [.lit (.bool true)], args := [d1, d2, d3, d4] }
  | _ => none }
def fnExactAtLeastInRow : OpenClaim := { program := "ytfkiloibifigfaa", sum := "4dc04f37afa1a26c43f75b8b18e7794997c077adf3c63a8b93e2fdd08c042c9f", func := "loop.example/g00869/laws.FnExactAtLeastIn", spec := "fnExactAtLeastIn", recurses := true, apart := false }
def FnExactAtLeastInSaid : Prop := fnExactAtLeastInRow.holds Try.pinned (OpenSpec.ofChange fnExactAtLeastInSpec)

/-- ITS FALSE NEIGHBOUR: 'it returns false'. Refute it at one input. -/
def fnExactAtLeastInWrong : ChangeSpec := { name := "fnExactAtLeastIn", fn := fun _ => fun
  | [d1, d2, d3, d4] => { results := [.lit (.bool false)], args := [d1, d2, d3, d4] }
  | _ => none }
def FnExactAtLeastInWrongFalsely : Prop := fnExactAtLeastInRow.holds Try.pinned (OpenSpec.ofChange fnExactAtLeastInWrong)

/-- 'laws.FnExactAskedBy': WHATEVER THE INPUT: true; the input reads as it did. -/
def fnExactAskedBySpec : ChangeSpec := { name := "fnExactAskedBy", fn := fun _ => fun
  | [d1, d2, d3] => { results := [.lit (.bool true)], args := [d1, d2, d3] }
  | _ => none }
def fnExactAskedByRow : OpenClaim := { program := "ytfkiloibifigfaa", sum := "4dc04f37afa1a26c43f75b8b18e7794997c077adf3c63a8b93e2fdd08c042c9f", func := "loop.example/g00869/laws.FnExactAskedBy", spec := "fnExactAskedBy", recurses := true, apart := false }
def FnExactAskedBySaid : Prop := fnExactAskedByRow.holds Try.pinned (OpenSpec.ofChange fnExactAskedBySpec)

/-- ITS FALSE NEIGHBOUR: 'it returns false'. Refute it at one input. -/
def fnExactAskedByWrong : ChangeSpec := { name := "fnExactAskedBy", fn := fun _ => fun
  | [d1, d2, d3] => { results := [.lit (.bool false)], args := [d1, d2, d3] }
  | _ => none }
def FnExactAskedByWrongFalsely : Prop := fnExactAskedByRow.holds Try.pinned (OpenSpec.ofChange fnExactAskedByWrong)

/-- 'laws.FnExactLiftedAt': WHATEVER THE INPUT: true; the input reads as it did. -/
def fnExactLiftedAtSpec : ChangeSpec := { name := "fnExactLiftedAt", fn := fun _ => fun
  | [d1, d2, d3] => { results := [.lit (.bool true)], args := [d1, d2, d3] }
  | _ => none }
def fnExactLiftedAtRow : OpenClaim := { program := "ytfkiloibifigfaa", sum := "4dc04f37afa1a26c43f75b8b18e7794997c077adf3c63a8b93e2fdd08c042c9f", func := "loop.example/g00869/laws.FnExactLiftedAt", spec := "fnExactLiftedAt", unfollowed := true, recurses := true, apart := false }
def FnExactLiftedAtSaid : Prop := fnExactLiftedAtRow.holds Try.pinned (OpenSpec.ofChange fnExactLiftedAtSpec)

/-- ITS FALSE NEIGHBOUR: 'it returns false'. Refute it at one input. -/
def fnExactLiftedAtWrong : ChangeSpec := { name := "fnExactLiftedAt", fn := fun _ => fun
  | [d1, d2, d3] => { results := [.lit (.bool false)], args := [d1, d2, d3] }
  | _ => none }
def FnExactLiftedAtWrongFalsely : Prop := fnExactLiftedAtRow.holds Try.pinned (OpenSpec.ofChange fnExactLiftedAtWrong)

/-- 'laws.FnExactSteadyIn': WHATEVER THE INPUT: true; the input reads as it did. -/
def fnExactSteadyInSpec : ChangeSpec := { name := "fnExactSteadyIn", fn := fun _ => fun
  | [d1, d2] => { results := [.lit (.bool true)], args := [d1, d2] }
  | _ => none }
def fnExactSteadyInRow : OpenClaim := { program := "ytfkiloibifigfaa", sum := "4dc04f37afa1a26c43f75b8b18e7794997c077adf3c63a8b93e2fdd08c042c9f", func := "loop.example/g00869/laws.FnExactSteadyIn", spec := "fnExactSteadyIn", unfollowed := true, recurses := true, apart := false }
def FnExactSteadyInSaid : Prop := fnExactSteadyInRow.holds Try.pinned (OpenSpec.ofChange fnExactSteadyInSpec)

/-- ITS FALSE NEIGHBOUR: 'it returns false'. Refute it at one input. -/
def fnExactSteadyInWrong : ChangeSpec := { name := "fnExactSteadyIn", fn := fun _ => fun
  | [d1, d2] => { results := [.lit (.bool false)], args := [d1, d2] }
  | _ => none }
def FnExactSteadyInWrongFalsely : Prop := fnExactSteadyInRow.holds Try.pinned (OpenSpec.ofChange fnExactSteadyInWrong)

/-- 'laws.FnExactLeastTable': WHATEVER THE INPUT: true; the input reads as it did. -/
def fnExactLeastTableSpec : ChangeSpec := { name := "fnExactLeastTable", fn := fun _ => fun
  | [d] => { results := [.lit (.bool true)], args := [d] }
  | _ => none }
def fnExactLeastTableRow : OpenClaim := { program := "ytfkiloibifigfaa", sum := "4dc04f37afa1a26c43f75b8b18e7794997c077adf3c63a8b93e2fdd08c042c9f", func := "loop.example/g00869/laws.FnExactLeastTable", spec := "fnExactLeastTable", unfollowed := true, recurses := true, apart := false }
def FnExactLeastTableSaid : Prop := fnExactLeastTableRow.holds Try.pinned (OpenSpec.ofChange fnExactLeastTableSpec)

/-- ITS FALSE NEIGHBOUR: 'it returns false'. Refute it at one input. -/
def fnExactLeastTableWrong : ChangeSpec := { name := "fnExactLeastTable", fn := fun _ => fun
  | [d] => { results := [.lit (.bool false)], args := [d] }
  | _ => none }
def FnExactLeastTableWrongFalsely : Prop := fnExactLeastTableRow.holds Try.pinned (OpenSpec.ofChange fnExactLeastTableWrong)

/-- 'laws.FnExactMeasurePlan': WHATEVER THE INPUT: true; the input reads as it did. -/
def fnExactMeasurePlanSpec : ChangeSpec := { name := "fnExactMeasurePlan", fn := fun _ => fun
  | [d] => { results := [.lit (.bool true)], args := [d] }
  | _ => none }
def fnExactMeasurePlanRow : OpenClaim := { program := "ytfkiloibifigfaa", sum := "4dc04f37afa1a26c43f75b8b18e7794997c077adf3c63a8b93e2fdd08c042c9f", func := "loop.example/g00869/laws.FnExactMeasurePlan", spec := "fnExactMeasurePlan", unfollowed := true, recurses := true, apart := false }
def FnExactMeasurePlanSaid : Prop := fnExactMeasurePlanRow.holds Try.pinned (OpenSpec.ofChange fnExactMeasurePlanSpec)

/-- ITS FALSE NEIGHBOUR: 'it returns false'. Refute it at one input. -/
def fnExactMeasurePlanWrong : ChangeSpec := { name := "fnExactMeasurePlan", fn := fun _ => fun
  | [d] => { results := [.lit (.bool false)], args := [d] }
  | _ => none }
def FnExactMeasurePlanWrongFalsely : Prop := fnExactMeasurePlanRow.holds Try.pinned (OpenSpec.ofChange fnExactMeasurePlanWrong)

/-- 'laws.FnExactMeasureWon': WHATEVER THE INPUT: true; the input reads as it did. -/
def fnExactMeasureWonSpec : ChangeSpec := { name := "fnExactMeasureWon", fn := fun _ => fun
  | [d] => { results := [.lit (.bool true)], args := [d] }
  | _ => none }
def fnExactMeasureWonRow : OpenClaim := { program := "ytfkiloibifigfaa", sum := "4dc04f37afa1a26c43f75b8b18e7794997c077adf3c63a8b93e2fdd08c042c9f", func := "loop.example/g00869/laws.FnExactMeasureWon", spec := "fnExactMeasureWon", unfollowed := true, recurses := true, apart := false }
def FnExactMeasureWonSaid : Prop := fnExactMeasureWonRow.holds Try.pinned (OpenSpec.ofChange fnExactMeasureWonSpec)

/-- ITS FALSE NEIGHBOUR: 'it returns false'. Refute it at one input. -/
def fnExactMeasureWonWrong : ChangeSpec := { name := "fnExactMeasureWon", fn := fun _ => fun
  | [d] => { results := [.lit (.bool false)], args := [d] }
  | _ => none }
def FnExactMeasureWonWrongFalsely : Prop := fnExactMeasureWonRow.holds Try.pinned (OpenSpec.ofChange fnExactMeasureWonWrong)

/-- 'laws.FnLifts': WHATEVER THE INPUT: true; the input reads as it did. -/
def fnLiftsSpec : ChangeSpec := { name := "fnLifts", fn := fun _ => fun
  | [d] => { results := [.lit (.bool true)], args := [d] }
  | _ => none }
def fnLiftsRow : OpenClaim := { program := "ytfkiloibifigfaa", sum := "4dc04f37afa1a26c43f75b8b18e7794997c077adf3c63a8b93e2fdd08c042c9f", func := "loop.example/g00869/laws.FnLifts", spec := "fnLifts", unfollowed := true, recurses := true, apart := false }
def FnLiftsSaid : Prop := fnLiftsRow.holds Try.pinned (OpenSpec.ofChange fnLiftsSpec)

/-- ITS FALSE NEIGHBOUR: 'it returns false'. Refute it at one input. -/
def fnLiftsWrong : ChangeSpec := { name := "fnLifts", fn := fun _ => fun
  | [d] => { results := [.lit (.bool false)], args := [d] }
  | _ => none }
def FnLiftsWrongFalsely : Prop := fnLiftsRow.holds Try.pinned (OpenSpec.ofChange fnLiftsWrong)

/-- 'laws.FnLeastTable': WHATEVER THE INPUT: true; the input reads as it did. -/
def fnLeastTableSpec : ChangeSpec := { name := "fnLeastTable", fn := fun _ => fun
  | [d] => { results := [.lit (.bool true)], args := [d] }
  | _ => none }
def fnLeastTableRow : OpenClaim := { program := "ytfkiloibifigfaa", sum := "4dc04f37afa1a26c43f75b8b18e7794997c077adf3c63a8b93e2fdd08c042c9f", func := "loop.example/g00869/laws.FnLeastTable", spec := "fnLeastTable", unfollowed := true, recurses := true, apart := false }
def FnLeastTableSaid : Prop := fnLeastTableRow.holds Try.pinned (OpenSpec.ofChange fnLeastTableSpec)

/-- ITS FALSE NEIGHBOUR: 'it returns false'. Refute it at one input. -/
def fnLeastTableWrong : ChangeSpec := { name := "fnLeastTable", fn := fun _ => fun
  | [d] => { results := [.lit (.bool false)], args := [d] }
  | _ => none }
def FnLeastTableWrongFalsely : Prop := fnLeastTableRow.holds Try.pinned (OpenSpec.ofChange fnLeastTableWrong)

/-- 'laws.FnMeasured': WHATEVER THE INPUT: true; the input reads as it did. -/
def fnMeasuredSpec : ChangeSpec := { name := "fnMeasured", fn := fun _ => fun
  | [d] => { results := [.lit (.bool true)], args := [d] }
  | _ => none }
def fnMeasuredRow : OpenClaim := { program := "ytfkiloibifigfaa", sum := "4dc04f37afa1a26c43f75b8b18e7794997c077adf3c63a8b93e2fdd08c042c9f", func := "loop.example/g00869/laws.FnMeasured", spec := "fnMeasured", unfollowed := true, recurses := true, apart := false }
def FnMeasuredSaid : Prop := fnMeasuredRow.holds Try.pinned (OpenSpec.ofChange fnMeasuredSpec)

/-- ITS FALSE NEIGHBOUR: 'it returns false'. Refute it at one input. -/
def fnMeasuredWrong : ChangeSpec := { name := "fnMeasured", fn := fun _ => fun
  | [d] => { results := [.lit (.bool false)], args := [d] }
  | _ => none }
def FnMeasuredWrongFalsely : Prop := fnMeasuredRow.holds Try.pinned (OpenSpec.ofChange fnMeasuredWrong)

/- THE SECOND FORM. 'bulk': how many values and letters a reading holds, each counted each time it is reached (what is shared counts as often as it is met; a slice's spare places count too). A statement '..UptoSaid' is the law's where the arguments, and the package variables that the reading takes, are together of bulk at most 1048576: NARROWER than '..Said'. Prove '..Said' where nothing that the law and all that it calls make is longer than what came in: it says more and counts as full. Else prove '..UptoSaid'. A law counts once. -/
mutual
def uptoBulk {H : Type} : DataW H → Nat
  | .lit (.string bytes) => bytes.length + 1
  | .lit _ => 1
  | .nil => 1
  | .ptr d => uptoBulk d + 1
  | .slice elems spare => uptoBulkAll elems + uptoBulkAll spare + 1
  | .agg parts => uptoBulkAll parts + 1
  | .iface _ d => uptoBulk d + 1
  | .map entries => uptoBulkEntries entries + 1
  | .held _ => 1
def uptoBulkAll {H : Type} : List (DataW H) → Nat
  | [] => 0
  | d :: r => uptoBulk d + uptoBulkAll r
def uptoBulkEntries {H : Type} : List (Lit × DataW H) → Nat
  | [] => 0
  | x :: r => uptoBulkEntry x + uptoBulkEntries r
def uptoBulkEntry {H : Type} : Lit × DataW H → Nat
  | (.string bytes, d) => bytes.length + uptoBulk d + 1
  | (_, d) => uptoBulk d + 1
 end
def uptoSmall : (H : Type) → List (DataW H) → Bool := fun _ ds => decide (uptoBulkAll ds ≤ 1048576)
def OpenSpec.upto (s : _root_.Go.ChangeSpec) : _root_.Go.OpenSpec := { _root_.Go.OpenSpec.ofChange s with cond := some uptoSmall }

/-- 'laws.FnExactTableOk', WHERE WHAT IT READS IS OF BULK AT MOST 1048576: true; the input reads as it did. -/
def fnExactTableOkUptoRow : OpenClaim := { program := "ytfkiloibifigfaa", sum := "4dc04f37afa1a26c43f75b8b18e7794997c077adf3c63a8b93e2fdd08c042c9f", func := "loop.example/g00869/laws.FnExactTableOk", spec := "fnExactTableOk", recurses := true, apart := false, narrowed := true }
def FnExactTableOkUptoSaid : Prop := fnExactTableOkUptoRow.holds Try.pinned (OpenSpec.upto fnExactTableOkSpec)

/-- 'laws.FnExactAtLeastIn', WHERE WHAT IT READS IS OF BULK AT MOST 1048576: true; the input reads as it did. -/
def fnExactAtLeastInUptoRow : OpenClaim := { program := "ytfkiloibifigfaa", sum := "4dc04f37afa1a26c43f75b8b18e7794997c077adf3c63a8b93e2fdd08c042c9f", func := "loop.example/g00869/laws.FnExactAtLeastIn", spec := "fnExactAtLeastIn", recurses := true, apart := false, narrowed := true }
def FnExactAtLeastInUptoSaid : Prop := fnExactAtLeastInUptoRow.holds Try.pinned (OpenSpec.upto fnExactAtLeastInSpec)

/-- 'laws.FnExactAskedBy', WHERE WHAT IT READS IS OF BULK AT MOST 1048576: true; the input reads as it did. -/
def fnExactAskedByUptoRow : OpenClaim := { program := "ytfkiloibifigfaa", sum := "4dc04f37afa1a26c43f75b8b18e7794997c077adf3c63a8b93e2fdd08c042c9f", func := "loop.example/g00869/laws.FnExactAskedBy", spec := "fnExactAskedBy", recurses := true, apart := false, narrowed := true }
def FnExactAskedByUptoSaid : Prop := fnExactAskedByUptoRow.holds Try.pinned (OpenSpec.upto fnExactAskedBySpec)

/-- 'laws.FnExactLiftedAt', WHERE WHAT IT READS IS OF BULK AT MOST 1048576: true; the input reads as it did. -/
def fnExactLiftedAtUptoRow : OpenClaim := { program := "ytfkiloibifigfaa", sum := "4dc04f37afa1a26c43f75b8b18e7794997c077adf3c63a8b93e2fdd08c042c9f", func := "loop.example/g00869/laws.FnExactLiftedAt", spec := "fnExactLiftedAt", unfollowed := true, recurses := true, apart := false, narrowed := true }
def FnExactLiftedAtUptoSaid : Prop := fnExactLiftedAtUptoRow.holds Try.pinned (OpenSpec.upto fnExactLiftedAtSpec)

/-- 'laws.FnExactSteadyIn', WHERE WHAT IT READS IS OF BULK AT MOST 1048576: true; the input reads as it did. -/
def fnExactSteadyInUptoRow : OpenClaim := { program := "ytfkiloibifigfaa", sum := "4dc04f37afa1a26c43f75b8b18e7794997c077adf3c63a8b93e2fdd08c042c9f", func := "loop.example/g00869/laws.FnExactSteadyIn", spec := "fnExactSteadyIn", unfollowed := true, recurses := true, apart := false, narrowed := true }
def FnExactSteadyInUptoSaid : Prop := fnExactSteadyInUptoRow.holds Try.pinned (OpenSpec.upto fnExactSteadyInSpec)

/-- 'laws.FnExactLeastTable', WHERE WHAT IT READS IS OF BULK AT MOST 1048576: true; the input reads as it did. -/
def fnExactLeastTableUptoRow : OpenClaim := { program := "ytfkiloibifigfaa", sum := "4dc04f37afa1a26c43f75b8b18e7794997c077adf3c63a8b93e2fdd08c042c9f", func := "loop.example/g00869/laws.FnExactLeastTable", spec := "fnExactLeastTable", unfollowed := true, recurses := true, apart := false, narrowed := true }
def FnExactLeastTableUptoSaid : Prop := fnExactLeastTableUptoRow.holds Try.pinned (OpenSpec.upto fnExactLeastTableSpec)

/-- 'laws.FnExactMeasurePlan', WHERE WHAT IT READS IS OF BULK AT MOST 1048576: true; the input reads as it did. -/
def fnExactMeasurePlanUptoRow : OpenClaim := { program := "ytfkiloibifigfaa", sum := "4dc04f37afa1a26c43f75b8b18e7794997c077adf3c63a8b93e2fdd08c042c9f", func := "loop.example/g00869/laws.FnExactMeasurePlan", spec := "fnExactMeasurePlan", unfollowed := true, recurses := true, apart := false, narrowed := true }
def FnExactMeasurePlanUptoSaid : Prop := fnExactMeasurePlanUptoRow.holds Try.pinned (OpenSpec.upto fnExactMeasurePlanSpec)

/-- 'laws.FnExactMeasureWon', WHERE WHAT IT READS IS OF BULK AT MOST 1048576: true; the input reads as it did. -/
def fnExactMeasureWonUptoRow : OpenClaim := { program := "ytfkiloibifigfaa", sum := "4dc04f37afa1a26c43f75b8b18e7794997c077adf3c63a8b93e2fdd08c042c9f", func := "loop.example/g00869/laws.FnExactMeasureWon", spec := "fnExactMeasureWon", unfollowed := true, recurses := true, apart := false, narrowed := true }
def FnExactMeasureWonUptoSaid : Prop := fnExactMeasureWonUptoRow.holds Try.pinned (OpenSpec.upto fnExactMeasureWonSpec)

/-- 'laws.FnLifts', WHERE WHAT IT READS IS OF BULK AT MOST 1048576: true; the input reads as it did. -/
def fnLiftsUptoRow : OpenClaim := { program := "ytfkiloibifigfaa", sum := "4dc04f37afa1a26c43f75b8b18e7794997c077adf3c63a8b93e2fdd08c042c9f", func := "loop.example/g00869/laws.FnLifts", spec := "fnLifts", unfollowed := true, recurses := true, apart := false, narrowed := true }
def FnLiftsUptoSaid : Prop := fnLiftsUptoRow.holds Try.pinned (OpenSpec.upto fnLiftsSpec)

/-- 'laws.FnLeastTable', WHERE WHAT IT READS IS OF BULK AT MOST 1048576: true; the input reads as it did. -/
def fnLeastTableUptoRow : OpenClaim := { program := "ytfkiloibifigfaa", sum := "4dc04f37afa1a26c43f75b8b18e7794997c077adf3c63a8b93e2fdd08c042c9f", func := "loop.example/g00869/laws.FnLeastTable", spec := "fnLeastTable", unfollowed := true, recurses := true, apart := false, narrowed := true }
def FnLeastTableUptoSaid : Prop := fnLeastTableUptoRow.holds Try.pinned (OpenSpec.upto fnLeastTableSpec)

/-- 'laws.FnMeasured', WHERE WHAT IT READS IS OF BULK AT MOST 1048576: true; the input reads as it did. -/
def fnMeasuredUptoRow : OpenClaim := { program := "ytfkiloibifigfaa", sum := "4dc04f37afa1a26c43f75b8b18e7794997c077adf3c63a8b93e2fdd08c042c9f", func := "loop.example/g00869/laws.FnMeasured", spec := "fnMeasured", unfollowed := true, recurses := true, apart := false, narrowed := true }
def FnMeasuredUptoSaid : Prop := fnMeasuredUptoRow.holds Try.pinned (OpenSpec.upto fnMeasuredSpec)

end Rows
end Go.Proofs.Ytfkiloibifigfaa
