/-
  No cell of these rows narrows 'for every input' (looked for: loops, veiled, ifaces, maps, wideKeys, modest, calm, conditions, laid).
  DERIVED. THE GIVEN ROWS OF THIS SEAT. 9 by the template 'for every input the law returns true; each argument reads behind the call as it read before'; 0 by the template 'total and deterministic' (their statements: YtfmnikiinfbanaaTotals.lean).
  GIVEN WITH THE SEED: the statements are not yours to turn. If you find one false, say at which input.
  Laid BY PROGRAM, IN A SANDBOX (cutbox-rows.mjs): the forced cells as the released guide's own fill.sh prints them over the translation a052b6e917e4cae8… (all of the seat's roots in one cut). By AI agents, Wed Nov 11 2026. No macro, syntax, notation, axiom, sorry.
-/
import Derived.Test.YtfmnikiinfbanaaChecked
import GoSem.Claim
import GoSem.ClaimJoined
import GoSem.ClaimMapViews
import Derived.JoinedTies
import Derived.KernelRfl
namespace Go.Proofs.Ytfmnikiinfbanaa
/- THE CELL 'sum', in the pinned program and in every row, IS THE sha256 OF THE DUMP (.gsa) THAT YtfmnikiinfbanaaProg.lean LOADS. Nothing in Lean hashes anything: it is a label: what it is worth is what the hold of that sum in a sandbox is worth. -/
noncomputable def Try.pinned : Pinned := { name := "ytfmnikiinfbanaa", sum := "a052b6e917e4cae8bd5f27aaa33d296bba8888c003cdd2b6d64ef7d5cb6c4062", checked := Try.checked }
namespace Rows
def none {H : Type} : Left H := { results := [], args := [] }

/-- 'laws.FnExactStepsIn': WHATEVER THE INPUT: true; the input reads as it did. -/
def fnExactStepsInSpec : ChangeSpec := { name := "fnExactStepsIn", fn := fun _ => fun
  | [d] => { results := [.lit (.bool true)], args := [d] }
  | _ => none }
def fnExactStepsInRow : OpenClaim := { program := "ytfmnikiinfbanaa", sum := "a052b6e917e4cae8bd5f27aaa33d296bba8888c003cdd2b6d64ef7d5cb6c4062", func := "loop.example/g00869/laws.FnExactStepsIn", spec := "fnExactStepsIn", apart := false }
def FnExactStepsInSaid : Prop := fnExactStepsInRow.holds Try.pinned (OpenSpec.ofChange fnExactStepsInSpec)

/-- ITS FALSE NEIGHBOUR: 'it returns false'. Refute it at one input. -/
def fnExactStepsInWrong : ChangeSpec := { name := "fnExactStepsIn", fn := fun _ => fun
  | [d] => { results := [.lit (.bool false)], args := [d] }
  | _ => none }
def FnExactStepsInWrongFalsely : Prop := fnExactStepsInRow.holds Try.pinned (OpenSpec.ofChange fnExactStepsInWrong)

/-- 'laws.FnExactPromoteWon': WHATEVER THE INPUT: true; the input reads as it did. -/
def fnExactPromoteWonSpec : ChangeSpec := { name := "fnExactPromoteWon", fn := fun _ => fun
  | [d] => { results := [.lit (.bool true)], args := [d] }
  | _ => none }
def fnExactPromoteWonRow : OpenClaim := { program := "ytfmnikiinfbanaa", sum := "a052b6e917e4cae8bd5f27aaa33d296bba8888c003cdd2b6d64ef7d5cb6c4062", func := "loop.example/g00869/laws.FnExactPromoteWon", spec := "fnExactPromoteWon", apart := false }
def FnExactPromoteWonSaid : Prop := fnExactPromoteWonRow.holds Try.pinned (OpenSpec.ofChange fnExactPromoteWonSpec)

/-- ITS FALSE NEIGHBOUR: 'it returns false'. Refute it at one input. -/
def fnExactPromoteWonWrong : ChangeSpec := { name := "fnExactPromoteWon", fn := fun _ => fun
  | [d] => { results := [.lit (.bool false)], args := [d] }
  | _ => none }
def FnExactPromoteWonWrongFalsely : Prop := fnExactPromoteWonRow.holds Try.pinned (OpenSpec.ofChange fnExactPromoteWonWrong)

/-- 'laws.FnExactStageIn': WHATEVER THE INPUT: true; the input reads as it did. -/
def fnExactStageInSpec : ChangeSpec := { name := "fnExactStageIn", fn := fun _ => fun
  | [d1, d2] => { results := [.lit (.bool true)], args := [d1, d2] }
  | _ => none }
def fnExactStageInRow : OpenClaim := { program := "ytfmnikiinfbanaa", sum := "a052b6e917e4cae8bd5f27aaa33d296bba8888c003cdd2b6d64ef7d5cb6c4062", func := "loop.example/g00869/laws.FnExactStageIn", spec := "fnExactStageIn", unfollowed := true, recurses := true, apart := false }
def FnExactStageInSaid : Prop := fnExactStageInRow.holds Try.pinned (OpenSpec.ofChange fnExactStageInSpec)

/-- ITS FALSE NEIGHBOUR: 'it returns false'. Refute it at one input. -/
def fnExactStageInWrong : ChangeSpec := { name := "fnExactStageIn", fn := fun _ => fun
  | [d1, d2] => { results := [.lit (.bool false)], args := [d1, d2] }
  | _ => none }
def FnExactStageInWrongFalsely : Prop := fnExactStageInRow.holds Try.pinned (OpenSpec.ofChange fnExactStageInWrong)

/-- 'laws.FnExactStagesOf': WHATEVER THE INPUT: true; the input reads as it did. -/
def fnExactStagesOfSpec : ChangeSpec := { name := "fnExactStagesOf", fn := fun _ => fun
  | [d] => { results := [.lit (.bool true)], args := [d] }
  | _ => none }
def fnExactStagesOfRow : OpenClaim := { program := "ytfmnikiinfbanaa", sum := "a052b6e917e4cae8bd5f27aaa33d296bba8888c003cdd2b6d64ef7d5cb6c4062", func := "loop.example/g00869/laws.FnExactStagesOf", spec := "fnExactStagesOf", apart := false }
def FnExactStagesOfSaid : Prop := fnExactStagesOfRow.holds Try.pinned (OpenSpec.ofChange fnExactStagesOfSpec)

/-- ITS FALSE NEIGHBOUR: 'it returns false'. Refute it at one input. -/
def fnExactStagesOfWrong : ChangeSpec := { name := "fnExactStagesOf", fn := fun _ => fun
  | [d] => { results := [.lit (.bool false)], args := [d] }
  | _ => none }
def FnExactStagesOfWrongFalsely : Prop := fnExactStagesOfRow.holds Try.pinned (OpenSpec.ofChange fnExactStagesOfWrong)

/-- 'laws.FnExactShutIn': WHATEVER THE INPUT: true; the input reads as it did. -/
def fnExactShutInSpec : ChangeSpec := { name := "fnExactShutIn", fn := fun _ => fun
  | [d1, d2] => { results := [.lit (.bool true)], args := [d1, d2] }
  | _ => none }
def fnExactShutInRow : OpenClaim := { program := "ytfmnikiinfbanaa", sum := "a052b6e917e4cae8bd5f27aaa33d296bba8888c003cdd2b6d64ef7d5cb6c4062", func := "loop.example/g00869/laws.FnExactShutIn", spec := "fnExactShutIn", unfollowed := true, recurses := true, apart := false }
def FnExactShutInSaid : Prop := fnExactShutInRow.holds Try.pinned (OpenSpec.ofChange fnExactShutInSpec)

/-- ITS FALSE NEIGHBOUR: 'it returns false'. Refute it at one input. -/
def fnExactShutInWrong : ChangeSpec := { name := "fnExactShutIn", fn := fun _ => fun
  | [d1, d2] => { results := [.lit (.bool false)], args := [d1, d2] }
  | _ => none }
def FnExactShutInWrongFalsely : Prop := fnExactShutInRow.holds Try.pinned (OpenSpec.ofChange fnExactShutInWrong)

/-- 'laws.FnExactPulledIn': WHATEVER THE INPUT: true; the input reads as it did. -/
def fnExactPulledInSpec : ChangeSpec := { name := "fnExactPulledIn", fn := fun _ => fun
  | [d1, d2] => { results := [.lit (.bool true)], args := [d1, d2] }
  | _ => none }
def fnExactPulledInRow : OpenClaim := { program := "ytfmnikiinfbanaa", sum := "a052b6e917e4cae8bd5f27aaa33d296bba8888c003cdd2b6d64ef7d5cb6c4062", func := "loop.example/g00869/laws.FnExactPulledIn", spec := "fnExactPulledIn", unfollowed := true, recurses := true, apart := false }
def FnExactPulledInSaid : Prop := fnExactPulledInRow.holds Try.pinned (OpenSpec.ofChange fnExactPulledInSpec)

/-- ITS FALSE NEIGHBOUR: 'it returns false'. Refute it at one input. -/
def fnExactPulledInWrong : ChangeSpec := { name := "fnExactPulledIn", fn := fun _ => fun
  | [d1, d2] => { results := [.lit (.bool false)], args := [d1, d2] }
  | _ => none }
def FnExactPulledInWrongFalsely : Prop := fnExactPulledInRow.holds Try.pinned (OpenSpec.ofChange fnExactPulledInWrong)

/-- 'laws.FnExactPromoteStep': WHATEVER THE INPUT: true; the input reads as it did. -/
def fnExactPromoteStepSpec : ChangeSpec := { name := "fnExactPromoteStep", fn := fun _ => fun
  | [d1, d2] => { results := [.lit (.bool true)], args := [d1, d2] }
  | _ => none }
def fnExactPromoteStepRow : OpenClaim := { program := "ytfmnikiinfbanaa", sum := "a052b6e917e4cae8bd5f27aaa33d296bba8888c003cdd2b6d64ef7d5cb6c4062", func := "loop.example/g00869/laws.FnExactPromoteStep", spec := "fnExactPromoteStep", unfollowed := true, recurses := true, apart := false }
def FnExactPromoteStepSaid : Prop := fnExactPromoteStepRow.holds Try.pinned (OpenSpec.ofChange fnExactPromoteStepSpec)

/-- ITS FALSE NEIGHBOUR: 'it returns false'. Refute it at one input. -/
def fnExactPromoteStepWrong : ChangeSpec := { name := "fnExactPromoteStep", fn := fun _ => fun
  | [d1, d2] => { results := [.lit (.bool false)], args := [d1, d2] }
  | _ => none }
def FnExactPromoteStepWrongFalsely : Prop := fnExactPromoteStepRow.holds Try.pinned (OpenSpec.ofChange fnExactPromoteStepWrong)

/-- 'laws.FnPulled': WHATEVER THE INPUT: true; the input reads as it did. -/
def fnPulledSpec : ChangeSpec := { name := "fnPulled", fn := fun _ => fun
  | [d] => { results := [.lit (.bool true)], args := [d] }
  | _ => none }
def fnPulledRow : OpenClaim := { program := "ytfmnikiinfbanaa", sum := "a052b6e917e4cae8bd5f27aaa33d296bba8888c003cdd2b6d64ef7d5cb6c4062", func := "loop.example/g00869/laws.FnPulled", spec := "fnPulled", unfollowed := true, recurses := true, apart := false }
def FnPulledSaid : Prop := fnPulledRow.holds Try.pinned (OpenSpec.ofChange fnPulledSpec)

/-- ITS FALSE NEIGHBOUR: 'it returns false'. Refute it at one input. -/
def fnPulledWrong : ChangeSpec := { name := "fnPulled", fn := fun _ => fun
  | [d] => { results := [.lit (.bool false)], args := [d] }
  | _ => none }
def FnPulledWrongFalsely : Prop := fnPulledRow.holds Try.pinned (OpenSpec.ofChange fnPulledWrong)

/-- 'laws.FnPromoted': WHATEVER THE INPUT: true; the input reads as it did. -/
def fnPromotedSpec : ChangeSpec := { name := "fnPromoted", fn := fun _ => fun
  | [d] => { results := [.lit (.bool true)], args := [d] }
  | _ => none }
def fnPromotedRow : OpenClaim := { program := "ytfmnikiinfbanaa", sum := "a052b6e917e4cae8bd5f27aaa33d296bba8888c003cdd2b6d64ef7d5cb6c4062", func := "loop.example/g00869/laws.FnPromoted", spec := "fnPromoted", unfollowed := true, recurses := true, apart := false }
def FnPromotedSaid : Prop := fnPromotedRow.holds Try.pinned (OpenSpec.ofChange fnPromotedSpec)

/-- ITS FALSE NEIGHBOUR: 'it returns false'. Refute it at one input. -/
def fnPromotedWrong : ChangeSpec := { name := "fnPromoted", fn := fun _ => fun
  | [d] => { results := [.lit (.bool false)], args := [d] }
  | _ => none }
def FnPromotedWrongFalsely : Prop := fnPromotedRow.holds Try.pinned (OpenSpec.ofChange fnPromotedWrong)

/- THE SECOND FORM. 'bulk': how many values and letters a reading holds, each counted each time it is reached (what is shared counts as often as it is met; a slice's spare places count too). A statement '..UptoSaid' is the law's where the arguments, and the package variables that the reading takes, are together of bulk at most 1048576: NARROWER than '..Said'. Prove '..Said' where nothing that the law and all that it calls make is longer than what came in: it says more and counts as full. Else prove '..UptoSaid'. A law counts once. -/
mutual
def uptoBulk {H : Type} : DataW H → Nat
  | .lit (.string bytes) => bytes.length + 1
  | .lit _ => 1
  | .nil => 1
  | .ptr d => uptoBulk d + 1
  | .slice elems spare => uptoBulkAll elems + uptoBulkAll spare + 1
  | .agg parts => uptoBulkAll parts + 1
  | .iface _ d => uptoBulk d + 1
  | .map entries => uptoBulkEntries entries + 1
  | .held _ => 1
def uptoBulkAll {H : Type} : List (DataW H) → Nat
  | [] => 0
  | d :: r => uptoBulk d + uptoBulkAll r
def uptoBulkEntries {H : Type} : List (Lit × DataW H) → Nat
  | [] => 0
  | x :: r => uptoBulkEntry x + uptoBulkEntries r
def uptoBulkEntry {H : Type} : Lit × DataW H → Nat
  | (.string bytes, d) => bytes.length + uptoBulk d + 1
  | (_, d) => uptoBulk d + 1
 end
def uptoSmall : (H : Type) → List (DataW H) → Bool := fun _ ds => decide (uptoBulkAll ds ≤ 1048576)
def OpenSpec.upto (s : _root_.Go.ChangeSpec) : _root_.Go.OpenSpec := { _root_.Go.OpenSpec.ofChange s with cond := some uptoSmall }

/-- 'laws.FnExactStepsIn', WHERE WHAT IT READS IS OF BULK AT MOST 1048576: true; the input reads as it did. -/
def fnExactStepsInUptoRow : OpenClaim := { program := "ytfmnikiinfbanaa", sum := "a052b6e917e4cae8bd5f27aaa33d296bba8888c003cdd2b6d64ef7d5cb6c4062", func := "loop.example/g00869/laws.FnExactStepsIn", spec := "fnExactStepsIn", apart := false, narrowed := true }
def FnExactStepsInUptoSaid : Prop := fnExactStepsInUptoRow.holds Try.pinned (OpenSpec.upto fnExactStepsInSpec)

/-- 'laws.FnExactPromoteWon', WHERE WHAT IT READS IS OF BULK AT MOST 1048576: true; the input reads as it did. -/
def fnExactPromoteWonUptoRow : OpenClaim := { program := "ytfmnikiinfbanaa", sum := "a052b6e917e4cae8bd5f27aaa33d296bba8888c003cdd2b6d64ef7d5cb6c4062", func := "loop.example/g00869/laws.FnExactPromoteWon", spec := "fnExactPromoteWon", apart := false, narrowed := true }
def FnExactPromoteWonUptoSaid : Prop := fnExactPromoteWonUptoRow.holds Try.pinned (OpenSpec.upto fnExactPromoteWonSpec)

/-- 'laws.FnExactStageIn', WHERE WHAT IT READS IS OF BULK AT MOST 1048576: true; the input reads as it did. -/
def fnExactStageInUptoRow : OpenClaim := { program := "ytfmnikiinfbanaa", sum := "a052b6e917e4cae8bd5f27aaa33d296bba8888c003cdd2b6d64ef7d5cb6c4062", func := "loop.example/g00869/laws.FnExactStageIn", spec := "fnExactStageIn", unfollowed := true, recurses := true, apart := false, narrowed := true }
def FnExactStageInUptoSaid : Prop := fnExactStageInUptoRow.holds Try.pinned (OpenSpec.upto fnExactStageInSpec)

/-- 'laws.FnExactStagesOf', WHERE WHAT IT READS IS OF BULK AT MOST 1048576: true; the input reads as it did. -/
def fnExactStagesOfUptoRow : OpenClaim := { program := "ytfmnikiinfbanaa", sum := "a052b6e917e4cae8bd5f27aaa33d296bba8888c003cdd2b6d64ef7d5cb6c4062", func := "loop.example/g00869/laws.FnExactStagesOf", spec := "fnExactStagesOf", apart := false, narrowed := true }
def FnExactStagesOfUptoSaid : Prop := fnExactStagesOfUptoRow.holds Try.pinned (OpenSpec.upto fnExactStagesOfSpec)

/-- 'laws.FnExactShutIn', WHERE WHAT IT READS IS OF BULK AT MOST 1048576: true; the input reads as it did. -/
def fnExactShutInUptoRow : OpenClaim := { program := "ytfmnikiinfbanaa", sum := "a052b6e917e4cae8bd5f27aaa33d296bba8888c003cdd2b6d64ef7d5cb6c4062", func := "loop.example/g00869/laws.FnExactShutIn", spec := "fnExactShutIn", unfollowed := true, recurses := true, apart := false, narrowed := true }
def FnExactShutInUptoSaid : Prop := fnExactShutInUptoRow.holds Try.pinned (OpenSpec.upto fnExactShutInSpec)

/-- 'laws.FnExactPulledIn', WHERE WHAT IT READS IS OF BULK AT MOST 1048576: true; the input reads as it did. -/
def fnExactPulledInUptoRow : OpenClaim := { program := "ytfmnikiinfbanaa", sum := "a052b6e917e4cae8bd5f27aaa33d296bba8888c003cdd2b6d64ef7d5cb6c4062", func := "loop.example/g00869/laws.FnExactPulledIn", spec := "fnExactPulledIn", unfollowed := true, recurses := true, apart := false, narrowed := true }
def FnExactPulledInUptoSaid : Prop := fnExactPulledInUptoRow.holds Try.pinned (OpenSpec.upto fnExactPulledInSpec)

/-- 'laws.FnExactPromoteStep', WHERE WHAT IT READS IS OF BULK AT MOST 1048576: true; the input reads as it did. -/
def fnExactPromoteStepUptoRow : OpenClaim := { program := "ytfmnikiinfbanaa", sum := "a052b6e917e4cae8bd5f27aaa33d296bba8888c003cdd2b6d64ef7d5cb6c4062", func := "loop.example/g00869/laws.FnExactPromoteStep", spec := "fnExactPromoteStep", unfollowed := true, recurses := true, apart := false, narrowed := true }
def FnExactPromoteStepUptoSaid : Prop := fnExactPromoteStepUptoRow.holds Try.pinned (OpenSpec.upto fnExactPromoteStepSpec)

/-- 'laws.FnPulled', WHERE WHAT IT READS IS OF BULK AT MOST 1048576: true; the input reads as it did. -/
def fnPulledUptoRow : OpenClaim := { program := "ytfmnikiinfbanaa", sum := "a052b6e917e4cae8bd5f27aaa33d296bba8888c003cdd2b6d64ef7d5cb6c4062", func := "loop.example/g00869/laws.FnPulled", spec := "fnPulled", unfollowed := true, recurses := true, apart := false, narrowed := true }
def FnPulledUptoSaid : Prop := fnPulledUptoRow.holds Try.pinned (OpenSpec.upto fnPulledSpec)

/-- 'laws.FnPromoted', WHERE WHAT IT READS IS OF BULK AT MOST 1048576: true; the input reads as it did. -/
def fnPromotedUptoRow : OpenClaim := { program := "ytfmnikiinfbanaa", sum := "a052b6e917e4cae8bd5f27aaa33d296bba8888c003cdd2b6d64ef7d5cb6c4062", func := "loop.example/g00869/laws.FnPromoted", spec := "fnPromoted", unfollowed := true, recurses := true, apart := false, narrowed := true }
def FnPromotedUptoSaid : Prop := fnPromotedUptoRow.holds Try.pinned (OpenSpec.upto fnPromotedSpec)

end Rows
end Go.Proofs.Ytfmnikiinfbanaa
