/-
  No cell of these rows narrows 'for every input' (looked for: loops, veiled, ifaces, maps, wideKeys, modest, calm, conditions, laid).
  DERIVED. THE GIVEN ROWS OF THIS SEAT. 11 by the template 'for every input the law returns true; each argument reads behind the call as it read before'; 0 by the template 'total and deterministic' (their statements: YtiadchinhofieaaTotals.lean).
  GIVEN WITH THE SEED: the statements are not yours to turn. If you find one false, say at which input.
  Laid BY PROGRAM, IN A SANDBOX (cutbox-rows.mjs): the forced cells as the released guide's own fill.sh prints them over the translation f397d4b3539cf2fd… (all of the seat's roots in one cut). By AI agents, Wed Nov 11 2026. No macro, syntax, notation, axiom, sorry.
-/
import Derived.Test.YtiadchinhofieaaChecked
import GoSem.Claim
import GoSem.ClaimJoined
import GoSem.ClaimMapViews
import Derived.JoinedTies
import Derived.KernelRfl
namespace Go.Proofs.Ytiadchinhofieaa
/- THE CELL 'sum', in the pinned program and in every row, IS THE sha256 OF THE DUMP (.gsa) THAT YtiadchinhofieaaProg.lean LOADS. Nothing in Lean hashes anything: it is a label: what it is worth is what the hold of that sum in a sandbox is worth. -/
noncomputable def Try.pinned : Pinned := { name := "ytiadchinhofieaa", sum := "f397d4b3539cf2fd78766b9485977ec93c9b73efccfd4647676734242e161aee", checked := Try.checked }
namespace Rows
def none {H : Type} : Left H := { results := [], args := [] }

/-- 'laws.FnExactEdgeNeeded': WHATEVER THE INPUT: true; the input reads as it did. -/
def fnExactEdgeNeededSpec : ChangeSpec := { name := "fnExactEdgeNeeded", fn := fun _ => fun
  | [d1, d2, d3] => { results := [.lit (.bool true)], args := [d1, d2, d3] }
  | _ => none }
def fnExactEdgeNeededRow : OpenClaim := { program := "ytiadchinhofieaa", sum := "f397d4b3539cf2fd78766b9485977ec93c9b73efccfd4647676734242e161aee", func := "loop.example/g00869/laws.FnExactEdgeNeeded", spec := "fnExactEdgeNeeded", recurses := true, apart := false }
def FnExactEdgeNeededSaid : Prop := fnExactEdgeNeededRow.holds Try.pinned (OpenSpec.ofChange fnExactEdgeNeededSpec)

/-- ITS FALSE NEIGHBOUR: 'it returns false'. Refute it at one input. -/
def fnExactEdgeNeededWrong : ChangeSpec := { name := "fnExactEdgeNeeded", fn := fun _ => fun
  | [d1, d2, d3] => { results := [.lit (.bool false)], args := [d1, d2, d3] }
  | _ => none }
def FnExactEdgeNeededWrongFalsely : Prop := fnExactEdgeNeededRow.holds Try.pinned (OpenSpec.ofChange fnExactEdgeNeededWrong)

/-- 'laws.FnExactCutEdge': WHATEVER THE INPUT: true; the input reads as it did. -/
def fnExactCutEdgeSpec : ChangeSpec := { name := "fnExactCutEdge", fn := fun _ => fun
  | [d1, d2, d3] => { results := [.lit (.bool true)], args := [d1, d2, d3] }
  | _ => none }
def fnExactCutEdgeRow : OpenClaim := { program := "ytiadchinhofieaa", sum := "f397d4b3539cf2fd78766b9485977ec93c9b73efccfd4647676734242e161aee", func := "loop.example/g00869/laws.FnExactCutEdge", spec := "fnExactCutEdge", apart := false }
def FnExactCutEdgeSaid : Prop := fnExactCutEdgeRow.holds Try.pinned (OpenSpec.ofChange fnExactCutEdgeSpec)

/-- ITS FALSE NEIGHBOUR: 'it returns false'. Refute it at one input. -/
def fnExactCutEdgeWrong : ChangeSpec := { name := "fnExactCutEdge", fn := fun _ => fun
  | [d1, d2, d3] => { results := [.lit (.bool false)], args := [d1, d2, d3] }
  | _ => none }
def FnExactCutEdgeWrongFalsely : Prop := fnExactCutEdgeRow.holds Try.pinned (OpenSpec.ofChange fnExactCutEdgeWrong)

/-- 'laws.FnExactTrimmed': WHATEVER THE INPUT: true; the input reads as it did. -/
def fnExactTrimmedSpec : ChangeSpec := { name := "fnExactTrimmed", fn := fun _ => fun
  | [d] => { results := [.lit (.bool true)], args := [d] }
  | _ => none }
def fnExactTrimmedRow : OpenClaim := { program := "ytiadchinhofieaa", sum := "f397d4b3539cf2fd78766b9485977ec93c9b73efccfd4647676734242e161aee", func := "loop.example/g00869/laws.FnExactTrimmed", spec := "fnExactTrimmed", recurses := true, apart := false }
def FnExactTrimmedSaid : Prop := fnExactTrimmedRow.holds Try.pinned (OpenSpec.ofChange fnExactTrimmedSpec)

/-- ITS FALSE NEIGHBOUR: 'it returns false'. Refute it at one input. -/
def fnExactTrimmedWrong : ChangeSpec := { name := "fnExactTrimmed", fn := fun _ => fun
  | [d] => { results := [.lit (.bool false)], args := [d] }
  | _ => none }
def FnExactTrimmedWrongFalsely : Prop := fnExactTrimmedRow.holds Try.pinned (OpenSpec.ofChange fnExactTrimmedWrong)

/-- 'laws.FnTrimmed': WHATEVER THE INPUT: true; the input reads as it did. -/
def fnTrimmedSpec : ChangeSpec := { name := "fnTrimmed", fn := fun _ => fun
  | [d] => { results := [.lit (.bool true)], args := [d] }
  | _ => none }
def fnTrimmedRow : OpenClaim := { program := "ytiadchinhofieaa", sum := "f397d4b3539cf2fd78766b9485977ec93c9b73efccfd4647676734242e161aee", func := "loop.example/g00869/laws.FnTrimmed", spec := "fnTrimmed", recurses := true, apart := false }
def FnTrimmedSaid : Prop := fnTrimmedRow.holds Try.pinned (OpenSpec.ofChange fnTrimmedSpec)

/-- ITS FALSE NEIGHBOUR: 'it returns false'. Refute it at one input. -/
def fnTrimmedWrong : ChangeSpec := { name := "fnTrimmed", fn := fun _ => fun
  | [d] => { results := [.lit (.bool false)], args := [d] }
  | _ => none }
def FnTrimmedWrongFalsely : Prop := fnTrimmedRow.holds Try.pinned (OpenSpec.ofChange fnTrimmedWrong)

/-- 'laws.FnExactWorthOf': WHATEVER THE INPUT: true; the input reads as it did. -/
def fnExactWorthOfSpec : ChangeSpec := { name := "fnExactWorthOf", fn := fun _ => fun
  | [d1, d2, d3, d4] => { results := [.lit (.bool true)], args := [d1, d2, d3, d4] }
  | _ => none }
def fnExactWorthOfRow : OpenClaim := { program := "ytiadchinhofieaa", sum := "f397d4b3539cf2fd78766b9485977ec93c9b73efccfd4647676734242e161aee", func := "loop.example/g00869/laws.FnExactWorthOf", spec := "fnExactWorthOf", recurses := true, apart := false }
def FnExactWorthOfSaid : Prop := fnExactWorthOfRow.holds Try.pinned (OpenSpec.ofChange fnExactWorthOfSpec)

/-- ITS FALSE NEIGHBOUR: 'it returns false'. Refute it at one input. -/
def fnExactWorthOfWrong : ChangeSpec := { name := "fnExactWorthOf", fn := fun _ => fun
  | [d1, d2, d3, d4] => { results := [.lit (.bool false)], args := [d1, d2, d3, d4] }
  | _ => none }
def FnExactWorthOfWrongFalsely : Prop := fnExactWorthOfRow.holds Try.pinned (OpenSpec.ofChange fnExactWorthOfWrong)

/-- 'laws.FnExactWorthsOf': WHATEVER THE INPUT: true; the input reads as it did. -/
def fnExactWorthsOfSpec : ChangeSpec := { name := "fnExactWorthsOf", fn := fun _ => fun
  | [d1, d2] => { results := [.lit (.bool true)], args := [d1, d2] }
  | _ => none }
def fnExactWorthsOfRow : OpenClaim := { program := "ytiadchinhofieaa", sum := "f397d4b3539cf2fd78766b9485977ec93c9b73efccfd4647676734242e161aee", func := "loop.example/g00869/laws.FnExactWorthsOf", spec := "fnExactWorthsOf", recurses := true, apart := false }
def FnExactWorthsOfSaid : Prop := fnExactWorthsOfRow.holds Try.pinned (OpenSpec.ofChange fnExactWorthsOfSpec)

/-- ITS FALSE NEIGHBOUR: 'it returns false'. Refute it at one input. -/
def fnExactWorthsOfWrong : ChangeSpec := { name := "fnExactWorthsOf", fn := fun _ => fun
  | [d1, d2] => { results := [.lit (.bool false)], args := [d1, d2] }
  | _ => none }
def FnExactWorthsOfWrongFalsely : Prop := fnExactWorthsOfRow.holds Try.pinned (OpenSpec.ofChange fnExactWorthsOfWrong)

/-- 'laws.FnExactBetterPlan': WHATEVER THE INPUT: true; the input reads as it did. -/
def fnExactBetterPlanSpec : ChangeSpec := { name := "fnExactBetterPlan", fn := fun _ => fun
  | [d1, d2] => { results := [.lit (.bool true)], args := [d1, d2] }
  | _ => none }
def fnExactBetterPlanRow : OpenClaim := { program := "ytiadchinhofieaa", sum := "f397d4b3539cf2fd78766b9485977ec93c9b73efccfd4647676734242e161aee", func := "loop.example/g00869/laws.FnExactBetterPlan", spec := "fnExactBetterPlan", recurses := true, apart := false }
def FnExactBetterPlanSaid : Prop := fnExactBetterPlanRow.holds Try.pinned (OpenSpec.ofChange fnExactBetterPlanSpec)

/-- ITS FALSE NEIGHBOUR: 'it returns false'. Refute it at one input. -/
def fnExactBetterPlanWrong : ChangeSpec := { name := "fnExactBetterPlan", fn := fun _ => fun
  | [d1, d2] => { results := [.lit (.bool false)], args := [d1, d2] }
  | _ => none }
def FnExactBetterPlanWrongFalsely : Prop := fnExactBetterPlanRow.holds Try.pinned (OpenSpec.ofChange fnExactBetterPlanWrong)

/-- 'laws.FnExactBestPlan': WHATEVER THE INPUT: true; the input reads as it did. -/
def fnExactBestPlanSpec : ChangeSpec := { name := "fnExactBestPlan", fn := fun _ => fun
  | [d] => { results := [.lit (.bool true)], args := [d] }
  | _ => none }
def fnExactBestPlanRow : OpenClaim := { program := "ytiadchinhofieaa", sum := "f397d4b3539cf2fd78766b9485977ec93c9b73efccfd4647676734242e161aee", func := "loop.example/g00869/laws.FnExactBestPlan", spec := "fnExactBestPlan", recurses := true, apart := false }
def FnExactBestPlanSaid : Prop := fnExactBestPlanRow.holds Try.pinned (OpenSpec.ofChange fnExactBestPlanSpec)

/-- ITS FALSE NEIGHBOUR: 'it returns false'. Refute it at one input. -/
def fnExactBestPlanWrong : ChangeSpec := { name := "fnExactBestPlan", fn := fun _ => fun
  | [d] => { results := [.lit (.bool false)], args := [d] }
  | _ => none }
def FnExactBestPlanWrongFalsely : Prop := fnExactBestPlanRow.holds Try.pinned (OpenSpec.ofChange fnExactBestPlanWrong)

/-- 'laws.FnExactImproveWon': WHATEVER THE INPUT: true; the input reads as it did. -/
def fnExactImproveWonSpec : ChangeSpec := { name := "fnExactImproveWon", fn := fun _ => fun
  | [d] => { results := [.lit (.bool true)], args := [d] }
  | _ => none }
def fnExactImproveWonRow : OpenClaim := { program := "ytiadchinhofieaa", sum := "f397d4b3539cf2fd78766b9485977ec93c9b73efccfd4647676734242e161aee", func := "loop.example/g00869/laws.FnExactImproveWon", spec := "fnExactImproveWon", recurses := true, apart := false }
def FnExactImproveWonSaid : Prop := fnExactImproveWonRow.holds Try.pinned (OpenSpec.ofChange fnExactImproveWonSpec)

/-- ITS FALSE NEIGHBOUR: 'it returns false'. Refute it at one input. -/
def fnExactImproveWonWrong : ChangeSpec := { name := "fnExactImproveWon", fn := fun _ => fun
  | [d] => { results := [.lit (.bool false)], args := [d] }
  | _ => none }
def FnExactImproveWonWrongFalsely : Prop := fnExactImproveWonRow.holds Try.pinned (OpenSpec.ofChange fnExactImproveWonWrong)

/-- 'laws.FnReplied': WHATEVER THE INPUT: true; the input reads as it did. -/
def fnRepliedSpec : ChangeSpec := { name := "fnReplied", fn := fun _ => fun
  | [d] => { results := [.lit (.bool true)], args := [d] }
  | _ => none }
def fnRepliedRow : OpenClaim := { program := "ytiadchinhofieaa", sum := "f397d4b3539cf2fd78766b9485977ec93c9b73efccfd4647676734242e161aee", func := "loop.example/g00869/laws.FnReplied", spec := "fnReplied", recurses := true, apart := false }
def FnRepliedSaid : Prop := fnRepliedRow.holds Try.pinned (OpenSpec.ofChange fnRepliedSpec)

/-- ITS FALSE NEIGHBOUR: 'it returns false'. Refute it at one input. -/
def fnRepliedWrong : ChangeSpec := { name := "fnReplied", fn := fun _ => fun
  | [d] => { results := [.lit (.bool false)], args := [d] }
  | _ => none }
def FnRepliedWrongFalsely : Prop := fnRepliedRow.holds Try.pinned (OpenSpec.ofChange fnRepliedWrong)

/-- 'laws.FnBetter': WHATEVER THE INPUT: true; the input reads as it did. -/
def fnBetterSpec : ChangeSpec := { name := "fnBetter", fn := fun _ => fun
  | [d] => { results := [.lit (.bool true)], args := [d] }
  | _ => none }
def fnBetterRow : OpenClaim := { program := "ytiadchinhofieaa", sum := "f397d4b3539cf2fd78766b9485977ec93c9b73efccfd4647676734242e161aee", func := "loop.example/g00869/laws.FnBetter", spec := "fnBetter", recurses := true, apart := false }
def FnBetterSaid : Prop := fnBetterRow.holds Try.pinned (OpenSpec.ofChange fnBetterSpec)

/-- ITS FALSE NEIGHBOUR: 'it returns false'. Refute it at one input. -/
def fnBetterWrong : ChangeSpec := { name := "fnBetter", fn := fun _ => fun
  | [d] => { results := [.lit (.bool false)], args := [d] }
  | _ => none }
def FnBetterWrongFalsely : Prop := fnBetterRow.holds Try.pinned (OpenSpec.ofChange fnBetterWrong)

/- THE SECOND FORM. 'bulk': how many values and letters a reading holds, each counted each time it is reached (what is shared counts as often as it is met; a slice's spare places count too). A statement '..UptoSaid' is the law's where the arguments, and the package variables that the reading takes, are together of bulk at most 1048576: NARROWER than '..Said'. Prove '..Said' where nothing that the law and all that it calls make is longer than what came in: it says more and counts as full. Else prove '..UptoSaid'. A law counts once. -/
mutual
def uptoBulk {H : Type} : DataW H → Nat
  | .lit (.string bytes) => bytes.length + 1
  | .lit _ => 1
  | .nil => 1
  | .ptr d => uptoBulk d + 1
  | .slice elems spare => uptoBulkAll elems + uptoBulkAll spare + 1
  | .agg parts => uptoBulkAll parts + 1
  | .iface _ d => uptoBulk d + 1
  | .map entries => uptoBulkEntries entries + 1
  | .held _ => 1
def uptoBulkAll {H : Type} : List (DataW H) → Nat
  | [] => 0
  | d :: r => uptoBulk d + uptoBulkAll r
def uptoBulkEntries {H : Type} : List (Lit × DataW H) → Nat
  | [] => 0
  | x :: r => uptoBulkEntry x + uptoBulkEntries r
def uptoBulkEntry {H : Type} : Lit × DataW H → Nat
  | (.string bytes, d) => bytes.length + uptoBulk d + 1
  | (_, d) => uptoBulk d + 1
 end
def uptoSmall : (H : Type) → List (DataW H) → Bool := fun _ ds => decide (uptoBulkAll ds ≤ 1048576)
def OpenSpec.upto (s : _root_.Go.ChangeSpec) : _root_.Go.OpenSpec := { _root_.Go.OpenSpec.ofChange s with cond := some uptoSmall }

/-- 'laws.FnExactEdgeNeeded', WHERE WHAT IT READS IS OF BULK AT MOST 1048576: true; the input reads as it did. -/
def fnExactEdgeNeededUptoRow : OpenClaim := { program := "ytiadchinhofieaa", sum := "f397d4b3539cf2fd78766b9485977ec93c9b73efccfd4647676734242e161aee", func := "loop.example/g00869/laws.FnExactEdgeNeeded", spec := "fnExactEdgeNeeded", recurses := true, apart := false, narrowed := true }
def FnExactEdgeNeededUptoSaid : Prop := fnExactEdgeNeededUptoRow.holds Try.pinned (OpenSpec.upto fnExactEdgeNeededSpec)

/-- 'laws.FnExactCutEdge', WHERE WHAT IT READS IS OF BULK AT MOST 1048576: true; the input reads as it did. -/
def fnExactCutEdgeUptoRow : OpenClaim := { program := "ytiadchinhofieaa", sum := "f397d4b3539cf2fd78766b9485977ec93c9b73efccfd4647676734242e161aee", func := "loop.example/g00869/laws.FnExactCutEdge", spec := "fnExactCutEdge", apart := false, narrowed := true }
def FnExactCutEdgeUptoSaid : Prop := fnExactCutEdgeUptoRow.holds Try.pinned (OpenSpec.upto fnExactCutEdgeSpec)

/-- 'laws.FnExactTrimmed', WHERE WHAT IT READS IS OF BULK AT MOST 1048576: true; the input reads as it did. -/
def fnExactTrimmedUptoRow : OpenClaim := { program := "ytiadchinhofieaa", sum := "f397d4b3539cf2fd78766b9485977ec93c9b73efccfd4647676734242e161aee", func := "loop.example/g00869/laws.FnExactTrimmed", spec := "fnExactTrimmed", recurses := true, apart := false, narrowed := true }
def FnExactTrimmedUptoSaid : Prop := fnExactTrimmedUptoRow.holds Try.pinned (OpenSpec.upto fnExactTrimmedSpec)

/-- 'laws.FnTrimmed', WHERE WHAT IT READS IS OF BULK AT MOST 1048576: true; the input reads as it did. -/
def fnTrimmedUptoRow : OpenClaim := { program := "ytiadchinhofieaa", sum := "f397d4b3539cf2fd78766b9485977ec93c9b73efccfd4647676734242e161aee", func := "loop.example/g00869/laws.FnTrimmed", spec := "fnTrimmed", recurses := true, apart := false, narrowed := true }
def FnTrimmedUptoSaid : Prop := fnTrimmedUptoRow.holds Try.pinned (OpenSpec.upto fnTrimmedSpec)

/-- 'laws.FnExactWorthOf', WHERE WHAT IT READS IS OF BULK AT MOST 1048576: true; the input reads as it did. -/
def fnExactWorthOfUptoRow : OpenClaim := { program := "ytiadchinhofieaa", sum := "f397d4b3539cf2fd78766b9485977ec93c9b73efccfd4647676734242e161aee", func := "loop.example/g00869/laws.FnExactWorthOf", spec := "fnExactWorthOf", recurses := true, apart := false, narrowed := true }
def FnExactWorthOfUptoSaid : Prop := fnExactWorthOfUptoRow.holds Try.pinned (OpenSpec.upto fnExactWorthOfSpec)

/-- 'laws.FnExactWorthsOf', WHERE WHAT IT READS IS OF BULK AT MOST 1048576: true; the input reads as it did. -/
def fnExactWorthsOfUptoRow : OpenClaim := { program := "ytiadchinhofieaa", sum := "f397d4b3539cf2fd78766b9485977ec93c9b73efccfd4647676734242e161aee", func := "loop.example/g00869/laws.FnExactWorthsOf", spec := "fnExactWorthsOf", recurses := true, apart := false, narrowed := true }
def FnExactWorthsOfUptoSaid : Prop := fnExactWorthsOfUptoRow.holds Try.pinned (OpenSpec.upto fnExactWorthsOfSpec)

/-- 'laws.FnExactBetterPlan', WHERE WHAT IT READS IS OF BULK AT MOST 1048576: true; the input reads as it did. -/
def fnExactBetterPlanUptoRow : OpenClaim := { program := "ytiadchinhofieaa", sum := "f397d4b3539cf2fd78766b9485977ec93c9b73efccfd4647676734242e161aee", func := "loop.example/g00869/laws.FnExactBetterPlan", spec := "fnExactBetterPlan", recurses := true, apart := false, narrowed := true }
def FnExactBetterPlanUptoSaid : Prop := fnExactBetterPlanUptoRow.holds Try.pinned (OpenSpec.upto fnExactBetterPlanSpec)

/-- 'laws.FnExactBestPlan', WHERE WHAT IT READS IS OF BULK AT MOST 1048576: true; the input reads as it did. -/
def fnExactBestPlanUptoRow : OpenClaim := { program := "ytiadchinhofieaa", sum := "f397d4b3539cf2fd78766b9485977ec93c9b73efccfd4647676734242e161aee", func := "loop.example/g00869/laws.FnExactBestPlan", spec := "fnExactBestPlan", recurses := true, apart := false, narrowed := true }
def FnExactBestPlanUptoSaid : Prop := fnExactBestPlanUptoRow.holds Try.pinned (OpenSpec.upto fnExactBestPlanSpec)

/-- 'laws.FnExactImproveWon', WHERE WHAT IT READS IS OF BULK AT MOST 1048576: true; the input reads as it did. -/
def fnExactImproveWonUptoRow : OpenClaim := { program := "ytiadchinhofieaa", sum := "f397d4b3539cf2fd78766b9485977ec93c9b73efccfd4647676734242e161aee", func := "loop.example/g00869/laws.FnExactImproveWon", spec := "fnExactImproveWon", recurses := true, apart := false, narrowed := true }
def FnExactImproveWonUptoSaid : Prop := fnExactImproveWonUptoRow.holds Try.pinned (OpenSpec.upto fnExactImproveWonSpec)

/-- 'laws.FnReplied', WHERE WHAT IT READS IS OF BULK AT MOST 1048576: true; the input reads as it did. -/
def fnRepliedUptoRow : OpenClaim := { program := "ytiadchinhofieaa", sum := "f397d4b3539cf2fd78766b9485977ec93c9b73efccfd4647676734242e161aee", func := "loop.example/g00869/laws.FnReplied", spec := "fnReplied", recurses := true, apart := false, narrowed := true }
def FnRepliedUptoSaid : Prop := fnRepliedUptoRow.holds Try.pinned (OpenSpec.upto fnRepliedSpec)

/-- 'laws.FnBetter', WHERE WHAT IT READS IS OF BULK AT MOST 1048576: true; the input reads as it did. -/
def fnBetterUptoRow : OpenClaim := { program := "ytiadchinhofieaa", sum := "f397d4b3539cf2fd78766b9485977ec93c9b73efccfd4647676734242e161aee", func := "loop.example/g00869/laws.FnBetter", spec := "fnBetter", recurses := true, apart := false, narrowed := true }
def FnBetterUptoSaid : Prop := fnBetterUptoRow.holds Try.pinned (OpenSpec.upto fnBetterSpec)

end Rows
end Go.Proofs.Ytiadchinhofieaa
