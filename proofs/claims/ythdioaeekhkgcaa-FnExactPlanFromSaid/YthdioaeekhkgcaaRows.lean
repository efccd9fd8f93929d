/-
  No cell of these rows narrows 'for every input' (looked for: loops, veiled, ifaces, maps, wideKeys, modest, calm, conditions, laid).
  DERIVED. THE GIVEN ROWS OF THIS SEAT. 12 by the template 'for every input the law returns true; each argument reads behind the call as it read before'; 0 by the template 'total and deterministic' (their statements: YthdioaeekhkgcaaTotals.lean).
  GIVEN WITH THE SEED: the statements are not yours to turn. If you find one false, say at which input.
  Laid BY PROGRAM, IN A SANDBOX (cutbox-rows.mjs): the forced cells as the released guide's own fill.sh prints them over the translation e8e586658290be7b… (all of the seat's roots in one cut). By AI agents, Wed Nov 11 2026. No macro, syntax, notation, axiom, sorry.
-/
import Derived.Test.YthdioaeekhkgcaaChecked
import GoSem.Claim
import GoSem.ClaimJoined
import GoSem.ClaimMapViews
import Derived.JoinedTies
import Derived.KernelRfl
namespace Go.Proofs.Ythdioaeekhkgcaa
/- THE CELL 'sum', in the pinned program and in every row, IS THE sha256 OF THE DUMP (.gsa) THAT YthdioaeekhkgcaaProg.lean LOADS. Nothing in Lean hashes anything: it is a label: what it is worth is what the hold of that sum in a sandbox is worth. -/
noncomputable def Try.pinned : Pinned := { name := "ythdioaeekhkgcaa", sum := "e8e586658290be7bde7a5d8ddd415d34a6d547c831e9b5213fdde2907a5baaaf", checked := Try.checked }
namespace Rows
def none {H : Type} : Left H := { results := [], args := [] }

/-- 'laws.FnExactSameWon': WHATEVER THE INPUT: true; the input reads as it did. -/
def fnExactSameWonSpec : ChangeSpec := { name := "fnExactSameWon", fn := fun _ => fun
  | [d1, d2] => { results := [.lit (.bool true)], args := [d1, d2] }
  | _ => none }
def fnExactSameWonRow : OpenClaim := { program := "ythdioaeekhkgcaa", sum := "e8e586658290be7bde7a5d8ddd415d34a6d547c831e9b5213fdde2907a5baaaf", func := "loop.example/g00869/laws.FnExactSameWon", spec := "fnExactSameWon", recurses := true, apart := false }
def FnExactSameWonSaid : Prop := fnExactSameWonRow.holds Try.pinned (OpenSpec.ofChange fnExactSameWonSpec)

/-- ITS FALSE NEIGHBOUR: 'it returns false'. Refute it at one input. -/
def fnExactSameWonWrong : ChangeSpec := { name := "fnExactSameWon", fn := fun _ => fun
  | [d1, d2] => { results := [.lit (.bool false)], args := [d1, d2] }
  | _ => none }
def FnExactSameWonWrongFalsely : Prop := fnExactSameWonRow.holds Try.pinned (OpenSpec.ofChange fnExactSameWonWrong)

/-- 'laws.FnExactDominionIn': WHATEVER THE INPUT: true; the input reads as it did. -/
def fnExactDominionInSpec : ChangeSpec := { name := "fnExactDominionIn", fn := fun _ => fun
  | [d1, d2, d3] => { results := [.lit (.bool true)], args := [d1, d2, d3] }
  | _ => none }
def fnExactDominionInRow : OpenClaim := { program := "ythdioaeekhkgcaa", sum := "e8e586658290be7bde7a5d8ddd415d34a6d547c831e9b5213fdde2907a5baaaf", func := "loop.example/g00869/laws.FnExactDominionIn", spec := "fnExactDominionIn", recurses := true, apart := false }
def FnExactDominionInSaid : Prop := fnExactDominionInRow.holds Try.pinned (OpenSpec.ofChange fnExactDominionInSpec)

/-- ITS FALSE NEIGHBOUR: 'it returns false'. Refute it at one input. -/
def fnExactDominionInWrong : ChangeSpec := { name := "fnExactDominionIn", fn := fun _ => fun
  | [d1, d2, d3] => { results := [.lit (.bool false)], args := [d1, d2, d3] }
  | _ => none }
def FnExactDominionInWrongFalsely : Prop := fnExactDominionInRow.holds Try.pinned (OpenSpec.ofChange fnExactDominionInWrong)

/-- 'laws.FnExactKeepsWon': WHATEVER THE INPUT: true; the input reads as it did. -/
def fnExactKeepsWonSpec : ChangeSpec := { name := "fnExactKeepsWon", fn := fun _ => fun
  | [d1, d2] => { results := [.lit (.bool true)], args := [d1, d2] }
  | _ => none }
def fnExactKeepsWonRow : OpenClaim := { program := "ythdioaeekhkgcaa", sum := "e8e586658290be7bde7a5d8ddd415d34a6d547c831e9b5213fdde2907a5baaaf", func := "loop.example/g00869/laws.FnExactKeepsWon", spec := "fnExactKeepsWon", recurses := true, apart := false }
def FnExactKeepsWonSaid : Prop := fnExactKeepsWonRow.holds Try.pinned (OpenSpec.ofChange fnExactKeepsWonSpec)

/-- ITS FALSE NEIGHBOUR: 'it returns false'. Refute it at one input. -/
def fnExactKeepsWonWrong : ChangeSpec := { name := "fnExactKeepsWon", fn := fun _ => fun
  | [d1, d2] => { results := [.lit (.bool false)], args := [d1, d2] }
  | _ => none }
def FnExactKeepsWonWrongFalsely : Prop := fnExactKeepsWonRow.holds Try.pinned (OpenSpec.ofChange fnExactKeepsWonWrong)

/-- 'laws.FnExactEdgeNeeded': WHATEVER THE INPUT: true; the input reads as it did. -/
def fnExactEdgeNeededSpec : ChangeSpec := { name := "fnExactEdgeNeeded", fn := fun _ => fun
  | [d1, d2, d3] => { results := [.lit (.bool true)], args := [d1, d2, d3] }
  | _ => none }
def fnExactEdgeNeededRow : OpenClaim := { program := "ythdioaeekhkgcaa", sum := "e8e586658290be7bde7a5d8ddd415d34a6d547c831e9b5213fdde2907a5baaaf", func := "loop.example/g00869/laws.FnExactEdgeNeeded", spec := "fnExactEdgeNeeded", recurses := true, apart := false }
def FnExactEdgeNeededSaid : Prop := fnExactEdgeNeededRow.holds Try.pinned (OpenSpec.ofChange fnExactEdgeNeededSpec)

/-- ITS FALSE NEIGHBOUR: 'it returns false'. Refute it at one input. -/
def fnExactEdgeNeededWrong : ChangeSpec := { name := "fnExactEdgeNeeded", fn := fun _ => fun
  | [d1, d2, d3] => { results := [.lit (.bool false)], args := [d1, d2, d3] }
  | _ => none }
def FnExactEdgeNeededWrongFalsely : Prop := fnExactEdgeNeededRow.holds Try.pinned (OpenSpec.ofChange fnExactEdgeNeededWrong)

/-- 'laws.FnExactTrimmed': WHATEVER THE INPUT: true; the input reads as it did. -/
def fnExactTrimmedSpec : ChangeSpec := { name := "fnExactTrimmed", fn := fun _ => fun
  | [d] => { results := [.lit (.bool true)], args := [d] }
  | _ => none }
def fnExactTrimmedRow : OpenClaim := { program := "ythdioaeekhkgcaa", sum := "e8e586658290be7bde7a5d8ddd415d34a6d547c831e9b5213fdde2907a5baaaf", func := "loop.example/g00869/laws.FnExactTrimmed", spec := "fnExactTrimmed", recurses := true, apart := false }
def FnExactTrimmedSaid : Prop := fnExactTrimmedRow.holds Try.pinned (OpenSpec.ofChange fnExactTrimmedSpec)

/-- ITS FALSE NEIGHBOUR: 'it returns false'. Refute it at one input. -/
def fnExactTrimmedWrong : ChangeSpec := { name := "fnExactTrimmed", fn := fun _ => fun
  | [d] => { results := [.lit (.bool false)], args := [d] }
  | _ => none }
def FnExactTrimmedWrongFalsely : Prop := fnExactTrimmedRow.holds Try.pinned (OpenSpec.ofChange fnExactTrimmedWrong)

/-- 'laws.FnExactSolved': WHATEVER THE INPUT: true; the input reads as it did. -/
def fnExactSolvedSpec : ChangeSpec := { name := "fnExactSolved", fn := fun _ => fun
  | [d] => { results := [.lit (.bool true)], args := [d] }
  | _ => none }
def fnExactSolvedRow : OpenClaim := { program := "ythdioaeekhkgcaa", sum := "e8e586658290be7bde7a5d8ddd415d34a6d547c831e9b5213fdde2907a5baaaf", func := "loop.example/g00869/laws.FnExactSolved", spec := "fnExactSolved", recurses := true, apart := false }
def FnExactSolvedSaid : Prop := fnExactSolvedRow.holds Try.pinned (OpenSpec.ofChange fnExactSolvedSpec)

/-- ITS FALSE NEIGHBOUR: 'it returns false'. Refute it at one input. -/
def fnExactSolvedWrong : ChangeSpec := { name := "fnExactSolved", fn := fun _ => fun
  | [d] => { results := [.lit (.bool false)], args := [d] }
  | _ => none }
def FnExactSolvedWrongFalsely : Prop := fnExactSolvedRow.holds Try.pinned (OpenSpec.ofChange fnExactSolvedWrong)

/-- 'laws.FnExactPlanFrom': WHATEVER THE INPUT: true; the input reads as it did. -/
def fnExactPlanFromSpec : ChangeSpec := { name := "fnExactPlanFrom", fn := fun _ => fun
  | [d1, d2] => { results := [.lit (.bool true)], args := [d1, d2] }
  | _ => none }
def fnExactPlanFromRow : OpenClaim := { program := "ythdioaeekhkgcaa", sum := "e8e586658290be7bde7a5d8ddd415d34a6d547c831e9b5213fdde2907a5baaaf", func := "loop.example/g00869/laws.FnExactPlanFrom", spec := "fnExactPlanFrom", recurses := true, apart := false }
def FnExactPlanFromSaid : Prop := fnExactPlanFromRow.holds Try.pinned (OpenSpec.ofChange fnExactPlanFromSpec)

/-- ITS FALSE NEIGHBOUR: 'it returns false'. Refute it at one input. -/
def fnExactPlanFromWrong : ChangeSpec := { name := "fnExactPlanFrom", fn := fun _ => fun
  | [d1, d2] => { results := [.lit (.bool false)], args := [d1, d2] }
  | _ => none }
def FnExactPlanFromWrongFalsely : Prop := fnExactPlanFromRow.holds Try.pinned (OpenSpec.ofChange fnExactPlanFromWrong)

/-- 'laws.FnTop': WHATEVER THE INPUT: true; the input reads as it did. -/
def fnTopSpec : ChangeSpec := { name := "fnTop", fn := fun _ => fun
  | [d] => { results := [.lit (.bool true)], args := [d] }
  | _ => none }
def fnTopRow : OpenClaim := { program := "ythdioaeekhkgcaa", sum := "e8e586658290be7bde7a5d8ddd415d34a6d547c831e9b5213fdde2907a5baaaf", func := "loop.example/g00869/laws.FnTop", spec := "fnTop", recurses := true, apart := false }
def FnTopSaid : Prop := fnTopRow.holds Try.pinned (OpenSpec.ofChange fnTopSpec)

/-- ITS FALSE NEIGHBOUR: 'it returns false'. Refute it at one input. -/
def fnTopWrong : ChangeSpec := { name := "fnTop", fn := fun _ => fun
  | [d] => { results := [.lit (.bool false)], args := [d] }
  | _ => none }
def FnTopWrongFalsely : Prop := fnTopRow.holds Try.pinned (OpenSpec.ofChange fnTopWrong)

/-- 'laws.FnDominion': WHATEVER THE INPUT: true; the input reads as it did. -/
def fnDominionSpec : ChangeSpec := { name := "fnDominion", fn := fun _ => fun
  | [d] => { results := [.lit (.bool true)], args := [d] }
  | _ => none }
def fnDominionRow : OpenClaim := { program := "ythdioaeekhkgcaa", sum := "e8e586658290be7bde7a5d8ddd415d34a6d547c831e9b5213fdde2907a5baaaf", func := "loop.example/g00869/laws.FnDominion", spec := "fnDominion", recurses := true, apart := false }
def FnDominionSaid : Prop := fnDominionRow.holds Try.pinned (OpenSpec.ofChange fnDominionSpec)

/-- ITS FALSE NEIGHBOUR: 'it returns false'. Refute it at one input. -/
def fnDominionWrong : ChangeSpec := { name := "fnDominion", fn := fun _ => fun
  | [d] => { results := [.lit (.bool false)], args := [d] }
  | _ => none }
def FnDominionWrongFalsely : Prop := fnDominionRow.holds Try.pinned (OpenSpec.ofChange fnDominionWrong)

/-- 'laws.FnTrimmed': WHATEVER THE INPUT: true; the input reads as it did. -/
def fnTrimmedSpec : ChangeSpec := { name := "fnTrimmed", fn := fun _ => fun
  | [d] => { results := [.lit (.bool true)], args := [d] }
  | _ => none }
def fnTrimmedRow : OpenClaim := { program := "ythdioaeekhkgcaa", sum := "e8e586658290be7bde7a5d8ddd415d34a6d547c831e9b5213fdde2907a5baaaf", func := "loop.example/g00869/laws.FnTrimmed", spec := "fnTrimmed", recurses := true, apart := false }
def FnTrimmedSaid : Prop := fnTrimmedRow.holds Try.pinned (OpenSpec.ofChange fnTrimmedSpec)

/-- ITS FALSE NEIGHBOUR: 'it returns false'. Refute it at one input. -/
def fnTrimmedWrong : ChangeSpec := { name := "fnTrimmed", fn := fun _ => fun
  | [d] => { results := [.lit (.bool false)], args := [d] }
  | _ => none }
def FnTrimmedWrongFalsely : Prop := fnTrimmedRow.holds Try.pinned (OpenSpec.ofChange fnTrimmedWrong)

/-- 'laws.FnRest': WHATEVER THE INPUT: true; the input reads as it did. -/
def fnRestSpec : ChangeSpec := { name := "fnRest", fn := fun _ => fun
  | [d] => { results := [.lit (.bool true)], args := [d] }
  | _ => none }
def fnRestRow : OpenClaim := { program := "ythdioaeekhkgcaa", sum := "e8e586658290be7bde7a5d8ddd415d34a6d547c831e9b5213fdde2907a5baaaf", func := "loop.example/g00869/laws.FnRest", spec := "fnRest", recurses := true, apart := false }
def FnRestSaid : Prop := fnRestRow.holds Try.pinned (OpenSpec.ofChange fnRestSpec)

/-- ITS FALSE NEIGHBOUR: 'it returns false'. Refute it at one input. -/
def fnRestWrong : ChangeSpec := { name := "fnRest", fn := fun _ => fun
  | [d] => { results := [.lit (.bool false)], args := [d] }
  | _ => none }
def FnRestWrongFalsely : Prop := fnRestRow.holds Try.pinned (OpenSpec.ofChange fnRestWrong)

/-- 'laws.FnAnswers': WHATEVER THE INPUT: true; the input reads as it did. -/
def fnAnswersSpec : ChangeSpec := { name := "fnAnswers", fn := fun _ => fun
  | [d] => { results := [.lit (.bool true)], args := [d] }
  | _ => none }
def fnAnswersRow : OpenClaim := { program := "ythdioaeekhkgcaa", sum := "e8e586658290be7bde7a5d8ddd415d34a6d547c831e9b5213fdde2907a5baaaf", func := "loop.example/g00869/laws.FnAnswers", spec := "fnAnswers", recurses := true, apart := false }
def FnAnswersSaid : Prop := fnAnswersRow.holds Try.pinned (OpenSpec.ofChange fnAnswersSpec)

/-- ITS FALSE NEIGHBOUR: 'it returns false'. Refute it at one input. -/
def fnAnswersWrong : ChangeSpec := { name := "fnAnswers", fn := fun _ => fun
  | [d] => { results := [.lit (.bool false)], args := [d] }
  | _ => none }
def FnAnswersWrongFalsely : Prop := fnAnswersRow.holds Try.pinned (OpenSpec.ofChange fnAnswersWrong)

/- THE SECOND FORM. 'bulk': how many values and letters a reading holds, each counted each time it is reached (what is shared counts as often as it is met; a slice's spare places count too). A statement '..UptoSaid' is the law's where the arguments, and the package variables that the reading takes, are together of bulk at most 1048576: NARROWER than '..Said'. Prove '..Said' where nothing that the law and all that it calls make is longer than what came in: it says more and counts as full. Else prove '..UptoSaid'. A law counts once. -/
mutual
def uptoBulk {H : Type} : DataW H → Nat
  | .lit (.string bytes) => bytes.length + 1
  | .lit _ => 1
  | .nil => 1
  | .ptr d => uptoBulk d + 1
  | .slice elems spare => uptoBulkAll elems + uptoBulkAll spare + 1
  | .agg parts => uptoBulkAll parts + 1
  | .iface _ d => uptoBulk d + 1
  | .map entries => uptoBulkEntries entries + 1
  | .held _ => 1
def uptoBulkAll {H : Type} : List (DataW H) → Nat
  | [] => 0
  | d :: r => uptoBulk d + uptoBulkAll r
def uptoBulkEntries {H : Type} : List (Lit × DataW H) → Nat
  | [] => 0
  | x :: r => uptoBulkEntry x + uptoBulkEntries r
def uptoBulkEntry {H : Type} : Lit × DataW H → Nat
  | (.string bytes, d) => bytes.length + uptoBulk d + 1
  | (_, d) => uptoBulk d + 1
 end
def uptoSmall : (H : Type) → List (DataW H) → Bool := fun _ ds => decide (uptoBulkAll ds ≤ 1048576)
def OpenSpec.upto (s : _root_.Go.ChangeSpec) : _root_.Go.OpenSpec := { _root_.Go.OpenSpec.ofChange s with cond := some uptoSmall }

/-- 'laws.FnExactSameWon', WHERE WHAT IT READS IS OF BULK AT MOST 1048576: true; the input reads as it did. -/
def fnExactSameWonUptoRow : OpenClaim := { program := "ythdioaeekhkgcaa", sum := "e8e586658290be7bde7a5d8ddd415d34a6d547c831e9b5213fdde2907a5baaaf", func := "loop.example/g00869/laws.FnExactSameWon", spec := "fnExactSameWon", recurses := true, apart := false, narrowed := true }
def FnExactSameWonUptoSaid : Prop := fnExactSameWonUptoRow.holds Try.pinned (OpenSpec.upto fnExactSameWonSpec)

/-- 'laws.FnExactDominionIn', WHERE WHAT IT READS IS OF BULK AT MOST 1048576: true; the input reads as it did. -/
def fnExactDominionInUptoRow : OpenClaim := { program := "ythdioaeekhkgcaa", sum := "e8e586658290be7bde7a5d8ddd415d34a6d547c831e9b5213fdde2907a5baaaf", func := "loop.example/g00869/laws.FnExactDominionIn", spec := "fnExactDominionIn", recurses := true, apart := false, narrowed := true }
def FnExactDominionInUptoSaid : Prop := fnExactDominionInUptoRow.holds Try.pinned (OpenSpec.upto fnExactDominionInSpec)

/-- 'laws.FnExactKeepsWon', WHERE WHAT IT READS IS OF BULK AT MOST 1048576: true; the input reads as it did. -/
def fnExactKeepsWonUptoRow : OpenClaim := { program := "ythdioaeekhkgcaa", sum := "e8e586658290be7bde7a5d8ddd415d34a6d547c831e9b5213fdde2907a5baaaf", func := "loop.example/g00869/laws.FnExactKeepsWon", spec := "fnExactKeepsWon", recurses := true, apart := false, narrowed := true }
def FnExactKeepsWonUptoSaid : Prop := fnExactKeepsWonUptoRow.holds Try.pinned (OpenSpec.upto fnExactKeepsWonSpec)

/-- 'laws.FnExactEdgeNeeded', WHERE WHAT IT READS IS OF BULK AT MOST 1048576: true; the input reads as it did. -/
def fnExactEdgeNeededUptoRow : OpenClaim := { program := "ythdioaeekhkgcaa", sum := "e8e586658290be7bde7a5d8ddd415d34a6d547c831e9b5213fdde2907a5baaaf", func := "loop.example/g00869/laws.FnExactEdgeNeeded", spec := "fnExactEdgeNeeded", recurses := true, apart := false, narrowed := true }
def FnExactEdgeNeededUptoSaid : Prop := fnExactEdgeNeededUptoRow.holds Try.pinned (OpenSpec.upto fnExactEdgeNeededSpec)

/-- 'laws.FnExactTrimmed', WHERE WHAT IT READS IS OF BULK AT MOST 1048576: true; the input reads as it did. -/
def fnExactTrimmedUptoRow : OpenClaim := { program := "ythdioaeekhkgcaa", sum := "e8e586658290be7bde7a5d8ddd415d34a6d547c831e9b5213fdde2907a5baaaf", func := "loop.example/g00869/laws.FnExactTrimmed", spec := "fnExactTrimmed", recurses := true, apart := false, narrowed := true }
def FnExactTrimmedUptoSaid : Prop := fnExactTrimmedUptoRow.holds Try.pinned (OpenSpec.upto fnExactTrimmedSpec)

/-- 'laws.FnExactSolved', WHERE WHAT IT READS IS OF BULK AT MOST 1048576: true; the input reads as it did. -/
def fnExactSolvedUptoRow : OpenClaim := { program := "ythdioaeekhkgcaa", sum := "e8e586658290be7bde7a5d8ddd415d34a6d547c831e9b5213fdde2907a5baaaf", func := "loop.example/g00869/laws.FnExactSolved", spec := "fnExactSolved", recurses := true, apart := false, narrowed := true }
def FnExactSolvedUptoSaid : Prop := fnExactSolvedUptoRow.holds Try.pinned (OpenSpec.upto fnExactSolvedSpec)

/-- 'laws.FnExactPlanFrom', WHERE WHAT IT READS IS OF BULK AT MOST 1048576: true; the input reads as it did. -/
def fnExactPlanFromUptoRow : OpenClaim := { program := "ythdioaeekhkgcaa", sum := "e8e586658290be7bde7a5d8ddd415d34a6d547c831e9b5213fdde2907a5baaaf", func := "loop.example/g00869/laws.FnExactPlanFrom", spec := "fnExactPlanFrom", recurses := true, apart := false, narrowed := true }
def FnExactPlanFromUptoSaid : Prop := fnExactPlanFromUptoRow.holds Try.pinned (OpenSpec.upto fnExactPlanFromSpec)

/-- 'laws.FnTop', WHERE WHAT IT READS IS OF BULK AT MOST 1048576: true; the input reads as it did. -/
def fnTopUptoRow : OpenClaim := { program := "ythdioaeekhkgcaa", sum := "e8e586658290be7bde7a5d8ddd415d34a6d547c831e9b5213fdde2907a5baaaf", func := "loop.example/g00869/laws.FnTop", spec := "fnTop", recurses := true, apart := false, narrowed := true }
def FnTopUptoSaid : Prop := fnTopUptoRow.holds Try.pinned (OpenSpec.upto fnTopSpec)

/-- 'laws.FnDominion', WHERE WHAT IT READS IS OF BULK AT MOST 1048576: true; the input reads as it did. -/
def fnDominionUptoRow : OpenClaim := { program := "ythdioaeekhkgcaa", sum := "e8e586658290be7bde7a5d8ddd415d34a6d547c831e9b5213fdde2907a5baaaf", func := "loop.example/g00869/laws.FnDominion", spec := "fnDominion", recurses := true, apart := false, narrowed := true }
def FnDominionUptoSaid : Prop := fnDominionUptoRow.holds Try.pinned (OpenSpec.upto fnDominionSpec)

/-- 'laws.FnTrimmed', WHERE WHAT IT READS IS OF BULK AT MOST 1048576: true; the input reads as it did. -/
def fnTrimmedUptoRow : OpenClaim := { program := "ythdioaeekhkgcaa", sum := "e8e586658290be7bde7a5d8ddd415d34a6d547c831e9b5213fdde2907a5baaaf", func := "loop.example/g00869/laws.FnTrimmed", spec := "fnTrimmed", recurses := true, apart := false, narrowed := true }
def FnTrimmedUptoSaid : Prop := fnTrimmedUptoRow.holds Try.pinned (OpenSpec.upto fnTrimmedSpec)

/-- 'laws.FnRest', WHERE WHAT IT READS IS OF BULK AT MOST 1048576: true; the input reads as it did. -/
def fnRestUptoRow : OpenClaim := { program := "ythdioaeekhkgcaa", sum := "e8e586658290be7bde7a5d8ddd415d34a6d547c831e9b5213fdde2907a5baaaf", func := "loop.example/g00869/laws.FnRest", spec := "fnRest", recurses := true, apart := false, narrowed := true }
def FnRestUptoSaid : Prop := fnRestUptoRow.holds Try.pinned (OpenSpec.upto fnRestSpec)

/-- 'laws.FnAnswers', WHERE WHAT IT READS IS OF BULK AT MOST 1048576: true; the input reads as it did. -/
def fnAnswersUptoRow : OpenClaim := { program := "ythdioaeekhkgcaa", sum := "e8e586658290be7bde7a5d8ddd415d34a6d547c831e9b5213fdde2907a5baaaf", func := "loop.example/g00869/laws.FnAnswers", spec := "fnAnswers", recurses := true, apart := false, narrowed := true }
def FnAnswersUptoSaid : Prop := fnAnswersUptoRow.holds Try.pinned (OpenSpec.upto fnAnswersSpec)

end Rows
end Go.Proofs.Ythdioaeekhkgcaa
