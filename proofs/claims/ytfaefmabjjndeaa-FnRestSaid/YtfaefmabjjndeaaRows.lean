/-
  No cell of these rows narrows 'for every input' (looked for: loops, veiled, ifaces, maps, wideKeys, modest, calm, conditions, laid).
  DERIVED. THE GIVEN ROWS OF THIS SEAT. 12 by the template 'for every input the law returns true; each argument reads behind the call as it read before'; 0 by the template 'total and deterministic' (their statements: YtfaefmabjjndeaaTotals.lean).
  GIVEN WITH THE SEED: the statements are not yours to turn. If you find one false, say at which input.
  Laid BY PROGRAM, IN A SANDBOX (cutbox-rows.mjs): the forced cells as the released guide's own fill.sh prints them over the translation f0ceb76251432e3b… (all of the seat's roots in one cut). By AI agents, Wed Nov 11 2026. No macro, syntax, notation, axiom, sorry.
-/
import Derived.Test.YtfaefmabjjndeaaChecked
import GoSem.Claim
import GoSem.ClaimJoined
import GoSem.ClaimMapViews
import Derived.JoinedTies
import Derived.KernelRfl
namespace Go.Proofs.Ytfaefmabjjndeaa
/- THE CELL 'sum', in the pinned program and in every row, IS THE sha256 OF THE DUMP (.gsa) THAT YtfaefmabjjndeaaProg.lean LOADS. Nothing in Lean hashes anything: it is a label: what it is worth is what the hold of that sum in a sandbox is worth. -/
noncomputable def Try.pinned : Pinned := { name := "ytfaefmabjjndeaa", sum := "f0ceb76251432e3b51793eb9d6911d0bb2553c47f9e37529a9222878547727dd", checked := Try.checked }
namespace Rows
def none {H : Type} : Left H := { results := [], args := [] }

/-- 'laws.FnTop': WHATEVER THE INPUT: true; the input reads as it did. -/
def fnTopSpec : ChangeSpec := { name := "fnTop", fn := fun _ => fun
  | [d] => { results := [.lit (.bool true)], args := [d] }
  | _ => none }
def fnTopRow : OpenClaim := { program := "ytfaefmabjjndeaa", sum := "f0ceb76251432e3b51793eb9d6911d0bb2553c47f9e37529a9222878547727dd", func := "loop.example/g00869/laws.FnTop", spec := "fnTop", recurses := true, apart := false }
def FnTopSaid : Prop := fnTopRow.holds Try.pinned (OpenSpec.ofChange fnTopSpec)

/-- ITS FALSE NEIGHBOUR: 'it returns false'. Refute it at one input. -/
def fnTopWrong : ChangeSpec := { name := "fnTop", fn := fun _ => fun
  | [d] => { results := [.lit (.bool false)], args := [d] }
  | _ => none }
def FnTopWrongFalsely : Prop := fnTopRow.holds Try.pinned (OpenSpec.ofChange fnTopWrong)

/-- 'laws.FnEveryOpponent': WHATEVER THE INPUT: true; the input reads as it did. -/
def fnEveryOpponentSpec : ChangeSpec := { name := "fnEveryOpponent", fn := fun _ => fun
  | [d1, d2, d3, d4] => { results := [.lit (.bool true)], args := [d1, d2, d3, d4] }
  | _ => none }
def fnEveryOpponentRow : OpenClaim := { program := "ytfaefmabjjndeaa", sum := "f0ceb76251432e3b51793eb9d6911d0bb2553c47f9e37529a9222878547727dd", func := "loop.example/g00869/laws.FnEveryOpponent", spec := "fnEveryOpponent", recurses := true, apart := false }
def FnEveryOpponentSaid : Prop := fnEveryOpponentRow.holds Try.pinned (OpenSpec.ofChange fnEveryOpponentSpec)

/-- ITS FALSE NEIGHBOUR: 'it returns false'. Refute it at one input. -/
def fnEveryOpponentWrong : ChangeSpec := { name := "fnEveryOpponent", fn := fun _ => fun
  | [d1, d2, d3, d4] => { results := [.lit (.bool false)], args := [d1, d2, d3, d4] }
  | _ => none }
def FnEveryOpponentWrongFalsely : Prop := fnEveryOpponentRow.holds Try.pinned (OpenSpec.ofChange fnEveryOpponentWrong)

/-- 'laws.FnAnswers': WHATEVER THE INPUT: true; the input reads as it did. -/
def fnAnswersSpec : ChangeSpec := { name := "fnAnswers", fn := fun _ => fun
  | [d] => { results := [.lit (.bool true)], args := [d] }
  | _ => none }
def fnAnswersRow : OpenClaim := { program := "ytfaefmabjjndeaa", sum := "f0ceb76251432e3b51793eb9d6911d0bb2553c47f9e37529a9222878547727dd", func := "loop.example/g00869/laws.FnAnswers", spec := "fnAnswers", recurses := true, apart := false }
def FnAnswersSaid : Prop := fnAnswersRow.holds Try.pinned (OpenSpec.ofChange fnAnswersSpec)

/-- ITS FALSE NEIGHBOUR: 'it returns false'. Refute it at one input. -/
def fnAnswersWrong : ChangeSpec := { name := "fnAnswers", fn := fun _ => fun
  | [d] => { results := [.lit (.bool false)], args := [d] }
  | _ => none }
def FnAnswersWrongFalsely : Prop := fnAnswersRow.holds Try.pinned (OpenSpec.ofChange fnAnswersWrong)

/-- 'laws.FnGiven': WHATEVER THE INPUT: true; the input reads as it did. -/
def fnGivenSpec : ChangeSpec := { name := "fnGiven", fn := fun _ => fun
  | [d] => { results := [.lit (.bool true)], args := [d] }
  | _ => none }
def fnGivenRow : OpenClaim := { program := "ytfaefmabjjndeaa", sum := "f0ceb76251432e3b51793eb9d6911d0bb2553c47f9e37529a9222878547727dd", func := "loop.example/g00869/laws.FnGiven", spec := "fnGiven", recurses := true, apart := false }
def FnGivenSaid : Prop := fnGivenRow.holds Try.pinned (OpenSpec.ofChange fnGivenSpec)

/-- ITS FALSE NEIGHBOUR: 'it returns false'. Refute it at one input. -/
def fnGivenWrong : ChangeSpec := { name := "fnGiven", fn := fun _ => fun
  | [d] => { results := [.lit (.bool false)], args := [d] }
  | _ => none }
def FnGivenWrongFalsely : Prop := fnGivenRow.holds Try.pinned (OpenSpec.ofChange fnGivenWrong)

/-- 'laws.FnMeasured': WHATEVER THE INPUT: true; the input reads as it did. -/
def fnMeasuredSpec : ChangeSpec := { name := "fnMeasured", fn := fun _ => fun
  | [d] => { results := [.lit (.bool true)], args := [d] }
  | _ => none }
def fnMeasuredRow : OpenClaim := { program := "ytfaefmabjjndeaa", sum := "f0ceb76251432e3b51793eb9d6911d0bb2553c47f9e37529a9222878547727dd", func := "loop.example/g00869/laws.FnMeasured", spec := "fnMeasured", unfollowed := true, recurses := true, apart := false }
def FnMeasuredSaid : Prop := fnMeasuredRow.holds Try.pinned (OpenSpec.ofChange fnMeasuredSpec)

/-- ITS FALSE NEIGHBOUR: 'it returns false'. Refute it at one input. -/
def fnMeasuredWrong : ChangeSpec := { name := "fnMeasured", fn := fun _ => fun
  | [d] => { results := [.lit (.bool false)], args := [d] }
  | _ => none }
def FnMeasuredWrongFalsely : Prop := fnMeasuredRow.holds Try.pinned (OpenSpec.ofChange fnMeasuredWrong)

/-- 'laws.FnRest': WHATEVER THE INPUT: true; the input reads as it did. -/
def fnRestSpec : ChangeSpec := { name := "fnRest", fn := fun _ => fun
  | [d] => { results := [.lit (.bool true)], args := [d] }
  | _ => none }
def fnRestRow : OpenClaim := { program := "ytfaefmabjjndeaa", sum := "f0ceb76251432e3b51793eb9d6911d0bb2553c47f9e37529a9222878547727dd", func := "loop.example/g00869/laws.FnRest", spec := "fnRest", recurses := true, apart := false }
def FnRestSaid : Prop := fnRestRow.holds Try.pinned (OpenSpec.ofChange fnRestSpec)

/-- ITS FALSE NEIGHBOUR: 'it returns false'. Refute it at one input. -/
def fnRestWrong : ChangeSpec := { name := "fnRest", fn := fun _ => fun
  | [d] => { results := [.lit (.bool false)], args := [d] }
  | _ => none }
def FnRestWrongFalsely : Prop := fnRestRow.holds Try.pinned (OpenSpec.ofChange fnRestWrong)

/-- 'laws.FnWorths': WHATEVER THE INPUT: true; the input reads as it did. -/
def fnWorthsSpec : ChangeSpec := { name := "fnWorths", fn := fun _ => fun
  | [d] => { results := [.lit (.bool true)], args := [d] }
  | _ => none }
def fnWorthsRow : OpenClaim := { program := "ytfaefmabjjndeaa", sum := "f0ceb76251432e3b51793eb9d6911d0bb2553c47f9e37529a9222878547727dd", func := "loop.example/g00869/laws.FnWorths", spec := "fnWorths", apart := false }
def FnWorthsSaid : Prop := fnWorthsRow.holds Try.pinned (OpenSpec.ofChange fnWorthsSpec)

/-- ITS FALSE NEIGHBOUR: 'it returns false'. Refute it at one input. -/
def fnWorthsWrong : ChangeSpec := { name := "fnWorths", fn := fun _ => fun
  | [d] => { results := [.lit (.bool false)], args := [d] }
  | _ => none }
def FnWorthsWrongFalsely : Prop := fnWorthsRow.holds Try.pinned (OpenSpec.ofChange fnWorthsWrong)

/-- 'laws.FnExactEdgeNeeded': WHATEVER THE INPUT: true; the input reads as it did. -/
def fnExactEdgeNeededSpec : ChangeSpec := { name := "fnExactEdgeNeeded", fn := fun _ => fun
  | [d1, d2, d3] => { results := [.lit (.bool true)], args := [d1, d2, d3] }
  | _ => none }
def fnExactEdgeNeededRow : OpenClaim := { program := "ytfaefmabjjndeaa", sum := "f0ceb76251432e3b51793eb9d6911d0bb2553c47f9e37529a9222878547727dd", func := "loop.example/g00869/laws.FnExactEdgeNeeded", spec := "fnExactEdgeNeeded", recurses := true, apart := false }
def FnExactEdgeNeededSaid : Prop := fnExactEdgeNeededRow.holds Try.pinned (OpenSpec.ofChange fnExactEdgeNeededSpec)

/-- ITS FALSE NEIGHBOUR: 'it returns false'. Refute it at one input. -/
def fnExactEdgeNeededWrong : ChangeSpec := { name := "fnExactEdgeNeeded", fn := fun _ => fun
  | [d1, d2, d3] => { results := [.lit (.bool false)], args := [d1, d2, d3] }
  | _ => none }
def FnExactEdgeNeededWrongFalsely : Prop := fnExactEdgeNeededRow.holds Try.pinned (OpenSpec.ofChange fnExactEdgeNeededWrong)

/-- 'laws.FnFlips': WHATEVER THE INPUT: true; the input reads as it did. -/
def fnFlipsSpec : ChangeSpec := { name := "fnFlips", fn := fun _ => fun
  | [d] => { results := [.lit (.bool true)], args := [d] }
  | _ => none }
def fnFlipsRow : OpenClaim := { program := "ytfaefmabjjndeaa", sum := "f0ceb76251432e3b51793eb9d6911d0bb2553c47f9e37529a9222878547727dd", func := "loop.example/g00869/laws.FnFlips", spec := "fnFlips", unfollowed := true, recurses := true, apart := false }
def FnFlipsSaid : Prop := fnFlipsRow.holds Try.pinned (OpenSpec.ofChange fnFlipsSpec)

/-- ITS FALSE NEIGHBOUR: 'it returns false'. Refute it at one input. -/
def fnFlipsWrong : ChangeSpec := { name := "fnFlips", fn := fun _ => fun
  | [d] => { results := [.lit (.bool false)], args := [d] }
  | _ => none }
def FnFlipsWrongFalsely : Prop := fnFlipsRow.holds Try.pinned (OpenSpec.ofChange fnFlipsWrong)

/-- 'laws.FnExactTrimmed': WHATEVER THE INPUT: true; the input reads as it did. -/
def fnExactTrimmedSpec : ChangeSpec := { name := "fnExactTrimmed", fn := fun _ => fun
  | [d] => { results := [.lit (.bool true)], args := [d] }
  | _ => none }
def fnExactTrimmedRow : OpenClaim := { program := "ytfaefmabjjndeaa", sum := "f0ceb76251432e3b51793eb9d6911d0bb2553c47f9e37529a9222878547727dd", func := "loop.example/g00869/laws.FnExactTrimmed", spec := "fnExactTrimmed", recurses := true, apart := false }
def FnExactTrimmedSaid : Prop := fnExactTrimmedRow.holds Try.pinned (OpenSpec.ofChange fnExactTrimmedSpec)

/-- ITS FALSE NEIGHBOUR: 'it returns false'. Refute it at one input. -/
def fnExactTrimmedWrong : ChangeSpec := { name := "fnExactTrimmed", fn := fun _ => fun
  | [d] => { results := [.lit (.bool false)], args := [d] }
  | _ => none }
def FnExactTrimmedWrongFalsely : Prop := fnExactTrimmedRow.holds Try.pinned (OpenSpec.ofChange fnExactTrimmedWrong)

/-- 'laws.FnTrimmed': WHATEVER THE INPUT: true; the input reads as it did. -/
def fnTrimmedSpec : ChangeSpec := { name := "fnTrimmed", fn := fun _ => fun
  | [d] => { results := [.lit (.bool true)], args := [d] }
  | _ => none }
def fnTrimmedRow : OpenClaim := { program := "ytfaefmabjjndeaa", sum := "f0ceb76251432e3b51793eb9d6911d0bb2553c47f9e37529a9222878547727dd", func := "loop.example/g00869/laws.FnTrimmed", spec := "fnTrimmed", recurses := true, apart := false }
def FnTrimmedSaid : Prop := fnTrimmedRow.holds Try.pinned (OpenSpec.ofChange fnTrimmedSpec)

/-- ITS FALSE NEIGHBOUR: 'it returns false'. Refute it at one input. -/
def fnTrimmedWrong : ChangeSpec := { name := "fnTrimmed", fn := fun _ => fun
  | [d] => { results := [.lit (.bool false)], args := [d] }
  | _ => none }
def FnTrimmedWrongFalsely : Prop := fnTrimmedRow.holds Try.pinned (OpenSpec.ofChange fnTrimmedWrong)

/-- 'laws.FnExactCutEdge': WHATEVER THE INPUT: true; the input reads as it did. -/
def fnExactCutEdgeSpec : ChangeSpec := { name := "fnExactCutEdge", fn := fun _ => fun
  | [d1, d2, d3] => { results := [.lit (.bool true)], args := [d1, d2, d3] }
  | _ => none }
def fnExactCutEdgeRow : OpenClaim := { program := "ytfaefmabjjndeaa", sum := "f0ceb76251432e3b51793eb9d6911d0bb2553c47f9e37529a9222878547727dd", func := "loop.example/g00869/laws.FnExactCutEdge", spec := "fnExactCutEdge", apart := false }
def FnExactCutEdgeSaid : Prop := fnExactCutEdgeRow.holds Try.pinned (OpenSpec.ofChange fnExactCutEdgeSpec)

/-- ITS FALSE NEIGHBOUR: 'it returns false'. Refute it at one input. -/
def fnExactCutEdgeWrong : ChangeSpec := { name := "fnExactCutEdge", fn := fun _ => fun
  | [d1, d2, d3] => { results := [.lit (.bool false)], args := [d1, d2, d3] }
  | _ => none }
def FnExactCutEdgeWrongFalsely : Prop := fnExactCutEdgeRow.holds Try.pinned (OpenSpec.ofChange fnExactCutEdgeWrong)

/- THE SECOND FORM. 'bulk': how many values and letters a reading holds, each counted each time it is reached (what is shared counts as often as it is met; a slice's spare places count too). A statement '..UptoSaid' is the law's where the arguments, and the package variables that the reading takes, are together of bulk at most 1048576: NARROWER than '..Said'. Prove '..Said' where nothing that the law and all that it calls make is longer than what came in: it says more and counts as full. Else prove '..UptoSaid'. A law counts once. -/
mutual
def uptoBulk {H : Type} : DataW H → Nat
  | .lit (.string bytes) => bytes.length + 1
  | .lit _ => 1
  | .nil => 1
  | .ptr d => uptoBulk d + 1
  | .slice elems spare => uptoBulkAll elems + uptoBulkAll spare + 1
  | .agg parts => uptoBulkAll parts + 1
  | .iface _ d => uptoBulk d + 1
  | .map entries => uptoBulkEntries entries + 1
  | .held _ => 1
def uptoBulkAll {H : Type} : List (DataW H) → Nat
  | [] => 0
  | d :: r => uptoBulk d + uptoBulkAll r
def uptoBulkEntries {H : Type} : List (Lit × DataW H) → Nat
  | [] => 0
  | x :: r => uptoBulkEntry x + uptoBulkEntries r
def uptoBulkEntry {H : Type} : Lit × DataW H → Nat
  | (.string bytes, d) => bytes.length + uptoBulk d + 1
  | (_, d) => uptoBulk d + 1
 end
def uptoSmall : (H : Type) → List (DataW H) → Bool := fun _ ds => decide (uptoBulkAll ds ≤ 1048576)
def OpenSpec.upto (s : _root_.Go.ChangeSpec) : _root_.Go.OpenSpec := { _root_.Go.OpenSpec.ofChange s with cond := some uptoSmall }

/-- 'laws.FnTop', WHERE WHAT IT READS IS OF BULK AT MOST 1048576: true; the input reads as it did. -/
def fnTopUptoRow : OpenClaim := { program := "ytfaefmabjjndeaa", sum := "f0ceb76251432e3b51793eb9d6911d0bb2553c47f9e37529a9222878547727dd", func := "loop.example/g00869/laws.FnTop", spec := "fnTop", recurses := true, apart := false, narrowed := true }
def FnTopUptoSaid : Prop := fnTopUptoRow.holds Try.pinned (OpenSpec.upto fnTopSpec)

/-- 'laws.FnEveryOpponent', WHERE WHAT IT READS IS OF BULK AT MOST 1048576: true; the input reads as it did. -/
def fnEveryOpponentUptoRow : OpenClaim := { program := "ytfaefmabjjndeaa", sum := "f0ceb76251432e3b51793eb9d6911d0bb2553c47f9e37529a9222878547727dd", func := "loop.example/g00869/laws.FnEveryOpponent", spec := "fnEveryOpponent", recurses := true, apart := false, narrowed := true }
def FnEveryOpponentUptoSaid : Prop := fnEveryOpponentUptoRow.holds Try.pinned (OpenSpec.upto fnEveryOpponentSpec)

/-- 'laws.FnAnswers', WHERE WHAT IT READS IS OF BULK AT MOST 1048576: true; the input reads as it did. -/
def fnAnswersUptoRow : OpenClaim := { program := "ytfaefmabjjndeaa", sum := "f0ceb76251432e3b51793eb9d6911d0bb2553c47f9e37529a9222878547727dd", func := "loop.example/g00869/laws.FnAnswers", spec := "fnAnswers", recurses := true, apart := false, narrowed := true }
def FnAnswersUptoSaid : Prop := fnAnswersUptoRow.holds Try.pinned (OpenSpec.upto fnAnswersSpec)

/-- 'laws.FnGiven', WHERE WHAT IT READS IS OF BULK AT MOST 1048576: true; the input reads as it did. -/
def fnGivenUptoRow : OpenClaim := { program := "ytfaefmabjjndeaa", sum := "f0ceb76251432e3b51793eb9d6911d0bb2553c47f9e37529a9222878547727dd", func := "loop.example/g00869/laws.FnGiven", spec := "fnGiven", recurses := true, apart := false, narrowed := true }
def FnGivenUptoSaid : Prop := fnGivenUptoRow.holds Try.pinned (OpenSpec.upto fnGivenSpec)

/-- 'laws.FnMeasured', WHERE WHAT IT READS IS OF BULK AT MOST 1048576: true; the input reads as it did. -/
def fnMeasuredUptoRow : OpenClaim := { program := "ytfaefmabjjndeaa", sum := "f0ceb76251432e3b51793eb9d6911d0bb2553c47f9e37529a9222878547727dd", func := "loop.example/g00869/laws.FnMeasured", spec := "fnMeasured", unfollowed := true, recurses := true, apart := false, narrowed := true }
def FnMeasuredUptoSaid : Prop := fnMeasuredUptoRow.holds Try.pinned (OpenSpec.upto fnMeasuredSpec)

/-- 'laws.FnRest', WHERE WHAT IT READS IS OF BULK AT MOST 1048576: true; the input reads as it did. -/
def fnRestUptoRow : OpenClaim := { program := "ytfaefmabjjndeaa", sum := "f0ceb76251432e3b51793eb9d6911d0bb2553c47f9e37529a9222878547727dd", func := "loop.example/g00869/laws.FnRest", spec := "fnRest", recurses := true, apart := false, narrowed := true }
def FnRestUptoSaid : Prop := fnRestUptoRow.holds Try.pinned (OpenSpec.upto fnRestSpec)

/-- 'laws.FnWorths', WHERE WHAT IT READS IS OF BULK AT MOST 1048576: true; the input reads as it did. -/
def fnWorthsUptoRow : OpenClaim := { program := "ytfaefmabjjndeaa", sum := "f0ceb76251432e3b51793eb9d6911d0bb2553c47f9e37529a9222878547727dd", func := "loop.example/g00869/laws.FnWorths", spec := "fnWorths", apart := false, narrowed := true }
def FnWorthsUptoSaid : Prop := fnWorthsUptoRow.holds Try.pinned (OpenSpec.upto fnWorthsSpec)

/-- 'laws.FnExactEdgeNeeded', WHERE WHAT IT READS IS OF BULK AT MOST 1048576: true; the input reads as it did. -/
def fnExactEdgeNeededUptoRow : OpenClaim := { program := "ytfaefmabjjndeaa", sum := "f0ceb76251432e3b51793eb9d6911d0bb2553c47f9e37529a9222878547727dd", func := "loop.example/g00869/laws.FnExactEdgeNeeded", spec := "fnExactEdgeNeeded", recurses := true, apart := false, narrowed := true }
def FnExactEdgeNeededUptoSaid : Prop := fnExactEdgeNeededUptoRow.holds Try.pinned (OpenSpec.upto fnExactEdgeNeededSpec)

/-- 'laws.FnFlips', WHERE WHAT IT READS IS OF BULK AT MOST 1048576: true; the input reads as it did. -/
def fnFlipsUptoRow : OpenClaim := { program := "ytfaefmabjjndeaa", sum := "f0ceb76251432e3b51793eb9d6911d0bb2553c47f9e37529a9222878547727dd", func := "loop.example/g00869/laws.FnFlips", spec := "fnFlips", unfollowed := true, recurses := true, apart := false, narrowed := true }
def FnFlipsUptoSaid : Prop := fnFlipsUptoRow.holds Try.pinned (OpenSpec.upto fnFlipsSpec)

/-- 'laws.FnExactTrimmed', WHERE WHAT IT READS IS OF BULK AT MOST 1048576: true; the input reads as it did. -/
def fnExactTrimmedUptoRow : OpenClaim := { program := "ytfaefmabjjndeaa", sum := "f0ceb76251432e3b51793eb9d6911d0bb2553c47f9e37529a9222878547727dd", func := "loop.example/g00869/laws.FnExactTrimmed", spec := "fnExactTrimmed", recurses := true, apart := false, narrowed := true }
def FnExactTrimmedUptoSaid : Prop := fnExactTrimmedUptoRow.holds Try.pinned (OpenSpec.upto fnExactTrimmedSpec)

/-- 'laws.FnTrimmed', WHERE WHAT IT READS IS OF BULK AT MOST 1048576: true; the input reads as it did. -/
def fnTrimmedUptoRow : OpenClaim := { program := "ytfaefmabjjndeaa", sum := "f0ceb76251432e3b51793eb9d6911d0bb2553c47f9e37529a9222878547727dd", func := "loop.example/g00869/laws.FnTrimmed", spec := "fnTrimmed", recurses := true, apart := false, narrowed := true }
def FnTrimmedUptoSaid : Prop := fnTrimmedUptoRow.holds Try.pinned (OpenSpec.upto fnTrimmedSpec)

/-- 'laws.FnExactCutEdge', WHERE WHAT IT READS IS OF BULK AT MOST 1048576: true; the input reads as it did. -/
def fnExactCutEdgeUptoRow : OpenClaim := { program := "ytfaefmabjjndeaa", sum := "f0ceb76251432e3b51793eb9d6911d0bb2553c47f9e37529a9222878547727dd", func := "loop.example/g00869/laws.FnExactCutEdge", spec := "fnExactCutEdge", apart := false, narrowed := true }
def FnExactCutEdgeUptoSaid : Prop := fnExactCutEdgeUptoRow.holds Try.pinned (OpenSpec.upto fnExactCutEdgeSpec)

end Rows
end Go.Proofs.Ytfaefmabjjndeaa
