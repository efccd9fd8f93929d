/-
  No cell of these rows narrows 'for every input' (looked for: loops, veiled, ifaces, maps, wideKeys, modest, calm, conditions, laid).
  DERIVED. THE GIVEN ROWS OF THIS SEAT. 12 by the template 'for every input the law returns true; each argument reads behind the call as it read before'; 0 by the template 'total and deterministic' (their statements: YtdbojkdfpkgfcaaTotals.lean).
  GIVEN WITH THE SEED: the statements are not yours to turn. If you find one false, say at which input.
  Laid BY PROGRAM, IN A SANDBOX (cutbox-rows.mjs): the forced cells as the released guide's own fill.sh prints them over the translation 5f60e3be5b7108c7… (all of the seat's roots in one cut). By AI agents, Wed Nov 11 2026. No macro, syntax, notation, axiom, sorry.
-/
import Derived.Test.YtdbojkdfpkgfcaaChecked
import GoSem.Claim
import GoSem.ClaimJoined
import GoSem.ClaimMapViews
import Derived.JoinedTies
import Derived.KernelRfl
namespace Go.Proofs.Ytdbojkdfpkgfcaa
/- THE CELL 'sum', in the pinned program and in every row, IS THE sha256 OF THE DUMP (.gsa) THAT YtdbojkdfpkgfcaaProg.lean LOADS. Nothing in Lean hashes anything: it is a label: what it is worth is what the hold of that sum in a sandbox is worth. -/
noncomputable def Try.pinned : Pinned := { name := "ytdbojkdfpkgfcaa", sum := "5f60e3be5b7108c74595b2d296d2398a415b000355f8045e7229e96fdbbec827", checked := Try.checked }
namespace Rows
def none {H : Type} : Left H := { results := [], args := [] }

/-- 'laws.FnExactEdgesIn': WHATEVER THE INPUT: true; the input reads as it did. -/
def fnExactEdgesInSpec : ChangeSpec := { name := "fnExactEdgesIn", fn := fun _ => fun
  | [d] => { results := [.lit (.bool true)], args := [d] }
  | _ => none }
def fnExactEdgesInRow : OpenClaim := { program := "ytdbojkdfpkgfcaa", sum := "5f60e3be5b7108c74595b2d296d2398a415b000355f8045e7229e96fdbbec827", func := "loop.example/g00869/laws.FnExactEdgesIn", spec := "fnExactEdgesIn", apart := false }
def FnExactEdgesInSaid : Prop := fnExactEdgesInRow.holds Try.pinned (OpenSpec.ofChange fnExactEdgesInSpec)

/-- ITS FALSE NEIGHBOUR: 'it returns false'. Refute it at one input. -/
def fnExactEdgesInWrong : ChangeSpec := { name := "fnExactEdgesIn", fn := fun _ => fun
  | [d] => { results := [.lit (.bool false)], args := [d] }
  | _ => none }
def FnExactEdgesInWrongFalsely : Prop := fnExactEdgesInRow.holds Try.pinned (OpenSpec.ofChange fnExactEdgesInWrong)

/-- 'laws.FnExactHeavierIn': WHATEVER THE INPUT: true; the input reads as it did. -/
def fnExactHeavierInSpec : ChangeSpec := { name := "fnExactHeavierIn", fn := fun _ => fun
  | [d1, d2, d3] => { results := [.lit (.bool true)], args := [d1, d2, d3] }
  | _ => none }
def fnExactHeavierInRow : OpenClaim := { program := "ytdbojkdfpkgfcaa", sum := "5f60e3be5b7108c74595b2d296d2398a415b000355f8045e7229e96fdbbec827", func := "loop.example/g00869/laws.FnExactHeavierIn", spec := "fnExactHeavierIn", apart := false }
def FnExactHeavierInSaid : Prop := fnExactHeavierInRow.holds Try.pinned (OpenSpec.ofChange fnExactHeavierInSpec)

/-- ITS FALSE NEIGHBOUR: 'it returns false'. Refute it at one input. -/
def fnExactHeavierInWrong : ChangeSpec := { name := "fnExactHeavierIn", fn := fun _ => fun
  | [d1, d2, d3] => { results := [.lit (.bool false)], args := [d1, d2, d3] }
  | _ => none }
def FnExactHeavierInWrongFalsely : Prop := fnExactHeavierInRow.holds Try.pinned (OpenSpec.ofChange fnExactHeavierInWrong)

/-- 'laws.FnExactRepliesIn': WHATEVER THE INPUT: true; the input reads as it did. -/
def fnExactRepliesInSpec : ChangeSpec := { name := "fnExactRepliesIn", fn := fun _ => fun
  | [d] => { results := [.lit (.bool true)], args := [d] }
  | _ => none }
def fnExactRepliesInRow : OpenClaim := { program := "ytdbojkdfpkgfcaa", sum := "5f60e3be5b7108c74595b2d296d2398a415b000355f8045e7229e96fdbbec827", func := "loop.example/g00869/laws.FnExactRepliesIn", spec := "fnExactRepliesIn", apart := false }
def FnExactRepliesInSaid : Prop := fnExactRepliesInRow.holds Try.pinned (OpenSpec.ofChange fnExactRepliesInSpec)

/-- ITS FALSE NEIGHBOUR: 'it returns false'. Refute it at one input. -/
def fnExactRepliesInWrong : ChangeSpec := { name := "fnExactRepliesIn", fn := fun _ => fun
  | [d] => { results := [.lit (.bool false)], args := [d] }
  | _ => none }
def FnExactRepliesInWrongFalsely : Prop := fnExactRepliesInRow.holds Try.pinned (OpenSpec.ofChange fnExactRepliesInWrong)

/-- 'laws.FnExactWorthOk': WHATEVER THE INPUT: true; the input reads as it did. -/
def fnExactWorthOkSpec : ChangeSpec := { name := "fnExactWorthOk", fn := fun _ => fun
  | [d1, d2] => { results := [.lit (.bool true)], args := [d1, d2] }
  | _ => none }
def fnExactWorthOkRow : OpenClaim := { program := "ytdbojkdfpkgfcaa", sum := "5f60e3be5b7108c74595b2d296d2398a415b000355f8045e7229e96fdbbec827", func := "loop.example/g00869/laws.FnExactWorthOk", spec := "fnExactWorthOk", apart := false }
def FnExactWorthOkSaid : Prop := fnExactWorthOkRow.holds Try.pinned (OpenSpec.ofChange fnExactWorthOkSpec)

/-- ITS FALSE NEIGHBOUR: 'it returns false'. Refute it at one input. -/
def fnExactWorthOkWrong : ChangeSpec := { name := "fnExactWorthOk", fn := fun _ => fun
  | [d1, d2] => { results := [.lit (.bool false)], args := [d1, d2] }
  | _ => none }
def FnExactWorthOkWrongFalsely : Prop := fnExactWorthOkRow.holds Try.pinned (OpenSpec.ofChange fnExactWorthOkWrong)

/-- 'laws.FnExactAskOk': WHATEVER THE INPUT: true; the input reads as it did. -/
def fnExactAskOkSpec : ChangeSpec := { name := "fnExactAskOk", fn := fun _ => fun
  | [d1, d2, d3, d4, d5, d6] => { results := [.lit (.bool true)], args := [d1, d2, d3, d4, d5, d6] }
  | _ => none }
def fnExactAskOkRow : OpenClaim := { program := "ytdbojkdfpkgfcaa", sum := "5f60e3be5b7108c74595b2d296d2398a415b000355f8045e7229e96fdbbec827", func := "loop.example/g00869/laws.FnExactAskOk", spec := "fnExactAskOk", unfollowed := true, recurses := true, apart := false }
def FnExactAskOkSaid : Prop := fnExactAskOkRow.holds Try.pinned (OpenSpec.ofChange fnExactAskOkSpec)

/-- ITS FALSE NEIGHBOUR: 'it returns false'. Refute it at one input. -/
def fnExactAskOkWrong : ChangeSpec := { name := "fnExactAskOk", fn := fun _ => fun
  | [d1, d2, d3, d4, d5, d6] => { results := [.lit (.bool false)], args := [d1, d2, d3, d4, d5, d6] }
  | _ => none }
def FnExactAskOkWrongFalsely : Prop := fnExactAskOkRow.holds Try.pinned (OpenSpec.ofChange fnExactAskOkWrong)

/-- 'laws.FnExactLoopWon': WHATEVER THE INPUT: true; the input reads as it did. -/
def fnExactLoopWonSpec : ChangeSpec := { name := "fnExactLoopWon", fn := fun _ => fun
  | [d] => { results := [.lit (.bool true)], args := [d] }
  | _ => none }
def fnExactLoopWonRow : OpenClaim := { program := "ytdbojkdfpkgfcaa", sum := "5f60e3be5b7108c74595b2d296d2398a415b000355f8045e7229e96fdbbec827", func := "loop.example/g00869/laws.FnExactLoopWon", spec := "fnExactLoopWon", apart := false }
def FnExactLoopWonSaid : Prop := fnExactLoopWonRow.holds Try.pinned (OpenSpec.ofChange fnExactLoopWonSpec)

/-- ITS FALSE NEIGHBOUR: 'it returns false'. Refute it at one input. -/
def fnExactLoopWonWrong : ChangeSpec := { name := "fnExactLoopWon", fn := fun _ => fun
  | [d] => { results := [.lit (.bool false)], args := [d] }
  | _ => none }
def FnExactLoopWonWrongFalsely : Prop := fnExactLoopWonRow.holds Try.pinned (OpenSpec.ofChange fnExactLoopWonWrong)

/-- 'laws.FnExactFirstStage': WHATEVER THE INPUT: true; the input reads as it did. -/
def fnExactFirstStageSpec : ChangeSpec := { name := "fnExactFirstStage", fn := fun _ => fun
  | [d] => { results := [.lit (.bool true)], args := [d] }
  | _ => none }
def fnExactFirstStageRow : OpenClaim := { program := "ytdbojkdfpkgfcaa", sum := "5f60e3be5b7108c74595b2d296d2398a415b000355f8045e7229e96fdbbec827", func := "loop.example/g00869/laws.FnExactFirstStage", spec := "fnExactFirstStage", apart := false }
def FnExactFirstStageSaid : Prop := fnExactFirstStageRow.holds Try.pinned (OpenSpec.ofChange fnExactFirstStageSpec)

/-- ITS FALSE NEIGHBOUR: 'it returns false'. Refute it at one input. -/
def fnExactFirstStageWrong : ChangeSpec := { name := "fnExactFirstStage", fn := fun _ => fun
  | [d] => { results := [.lit (.bool false)], args := [d] }
  | _ => none }
def FnExactFirstStageWrongFalsely : Prop := fnExactFirstStageRow.holds Try.pinned (OpenSpec.ofChange fnExactFirstStageWrong)

/-- 'laws.FnExactBetterIn': WHATEVER THE INPUT: true; the input reads as it did. -/
def fnExactBetterInSpec : ChangeSpec := { name := "fnExactBetterIn", fn := fun _ => fun
  | [d1, d2, d3] => { results := [.lit (.bool true)], args := [d1, d2, d3] }
  | _ => none }
def fnExactBetterInRow : OpenClaim := { program := "ytdbojkdfpkgfcaa", sum := "5f60e3be5b7108c74595b2d296d2398a415b000355f8045e7229e96fdbbec827", func := "loop.example/g00869/laws.FnExactBetterIn", spec := "fnExactBetterIn", apart := false }
def FnExactBetterInSaid : Prop := fnExactBetterInRow.holds Try.pinned (OpenSpec.ofChange fnExactBetterInSpec)

/-- ITS FALSE NEIGHBOUR: 'it returns false'. Refute it at one input. -/
def fnExactBetterInWrong : ChangeSpec := { name := "fnExactBetterIn", fn := fun _ => fun
  | [d1, d2, d3] => { results := [.lit (.bool false)], args := [d1, d2, d3] }
  | _ => none }
def FnExactBetterInWrongFalsely : Prop := fnExactBetterInRow.holds Try.pinned (OpenSpec.ofChange fnExactBetterInWrong)

/-- 'laws.FnExactCutEdge': WHATEVER THE INPUT: true; the input reads as it did. -/
def fnExactCutEdgeSpec : ChangeSpec := { name := "fnExactCutEdge", fn := fun _ => fun
  | [d1, d2, d3] => { results := [.lit (.bool true)], args := [d1, d2, d3] }
  | _ => none }
def fnExactCutEdgeRow : OpenClaim := { program := "ytdbojkdfpkgfcaa", sum := "5f60e3be5b7108c74595b2d296d2398a415b000355f8045e7229e96fdbbec827", func := "loop.example/g00869/laws.FnExactCutEdge", spec := "fnExactCutEdge", apart := false }
def FnExactCutEdgeSaid : Prop := fnExactCutEdgeRow.holds Try.pinned (OpenSpec.ofChange fnExactCutEdgeSpec)

/-- ITS FALSE NEIGHBOUR: 'it returns false'. Refute it at one input. -/
def fnExactCutEdgeWrong : ChangeSpec := { name := "fnExactCutEdge", fn := fun _ => fun
  | [d1, d2, d3] => { results := [.lit (.bool false)], args := [d1, d2, d3] }
  | _ => none }
def FnExactCutEdgeWrongFalsely : Prop := fnExactCutEdgeRow.holds Try.pinned (OpenSpec.ofChange fnExactCutEdgeWrong)

/-- 'laws.FnWorths': WHATEVER THE INPUT: true; the input reads as it did. -/
def fnWorthsSpec : ChangeSpec := { name := "fnWorths", fn := fun _ => fun
  | [d] => { results := [.lit (.bool true)], args := [d] }
  | _ => none }
def fnWorthsRow : OpenClaim := { program := "ytdbojkdfpkgfcaa", sum := "5f60e3be5b7108c74595b2d296d2398a415b000355f8045e7229e96fdbbec827", func := "loop.example/g00869/laws.FnWorths", spec := "fnWorths", apart := false }
def FnWorthsSaid : Prop := fnWorthsRow.holds Try.pinned (OpenSpec.ofChange fnWorthsSpec)

/-- ITS FALSE NEIGHBOUR: 'it returns false'. Refute it at one input. -/
def fnWorthsWrong : ChangeSpec := { name := "fnWorths", fn := fun _ => fun
  | [d] => { results := [.lit (.bool false)], args := [d] }
  | _ => none }
def FnWorthsWrongFalsely : Prop := fnWorthsRow.holds Try.pinned (OpenSpec.ofChange fnWorthsWrong)

/-- 'laws.FnExactOddsOf': WHATEVER THE INPUT: true; the input reads as it did. -/
def fnExactOddsOfSpec : ChangeSpec := { name := "fnExactOddsOf", fn := fun _ => fun
  | [d] => { results := [.lit (.bool true)], args := [d] }
  | _ => none }
def fnExactOddsOfRow : OpenClaim := { program := "ytdbojkdfpkgfcaa", sum := "5f60e3be5b7108c74595b2d296d2398a415b000355f8045e7229e96fdbbec827", func := "loop.example/g00869/laws.FnExactOddsOf", spec := "fnExactOddsOf", recurses := true, apart := false }
def FnExactOddsOfSaid : Prop := fnExactOddsOfRow.holds Try.pinned (OpenSpec.ofChange fnExactOddsOfSpec)

/-- ITS FALSE NEIGHBOUR: 'it returns false'. Refute it at one input. -/
def fnExactOddsOfWrong : ChangeSpec := { name := "fnExactOddsOf", fn := fun _ => fun
  | [d] => { results := [.lit (.bool false)], args := [d] }
  | _ => none }
def FnExactOddsOfWrongFalsely : Prop := fnExactOddsOfRow.holds Try.pinned (OpenSpec.ofChange fnExactOddsOfWrong)

/-- 'laws.FnExactMeasureOk': WHATEVER THE INPUT: true; the input reads as it did. -/
def fnExactMeasureOkSpec : ChangeSpec := { name := "fnExactMeasureOk", fn := fun _ => fun
  | [d1, d2] => { results := [.lit (.bool true)], args := [d1, d2] }
  | _ => none }
def fnExactMeasureOkRow : OpenClaim := { program := "ytdbojkdfpkgfcaa", sum := "5f60e3be5b7108c74595b2d296d2398a415b000355f8045e7229e96fdbbec827", func := "loop.example/g00869/laws.FnExactMeasureOk", spec := "fnExactMeasureOk", recurses := true, apart := false }
def FnExactMeasureOkSaid : Prop := fnExactMeasureOkRow.holds Try.pinned (OpenSpec.ofChange fnExactMeasureOkSpec)

/-- ITS FALSE NEIGHBOUR: 'it returns false'. Refute it at one input. -/
def fnExactMeasureOkWrong : ChangeSpec := { name := "fnExactMeasureOk", fn := fun _ => fun
  | [d1, d2] => { results := [.lit (.bool false)], args := [d1, d2] }
  | _ => none }
def FnExactMeasureOkWrongFalsely : Prop := fnExactMeasureOkRow.holds Try.pinned (OpenSpec.ofChange fnExactMeasureOkWrong)

/- THE SECOND FORM. 'bulk': how many values and letters a reading holds, each counted each time it is reached (what is shared counts as often as it is met; a slice's spare places count too). A statement '..UptoSaid' is the law's where the arguments, and the package variables that the reading takes, are together of bulk at most 1048576: NARROWER than '..Said'. Prove '..Said' where nothing that the law and all that it calls make is longer than what came in: it says more and counts as full. Else prove '..UptoSaid'. A law counts once. -/
mutual
def uptoBulk {H : Type} : DataW H → Nat
  | .lit (.string bytes) => bytes.length + 1
  | .lit _ => 1
  | .nil => 1
  | .ptr d => uptoBulk d + 1
  | .slice elems spare => uptoBulkAll elems + uptoBulkAll spare + 1
  | .agg parts => uptoBulkAll parts + 1
  | .iface _ d => uptoBulk d + 1
  | .map entries => uptoBulkEntries entries + 1
  | .held _ => 1
def uptoBulkAll {H : Type} : List (DataW H) → Nat
  | [] => 0
  | d :: r => uptoBulk d + uptoBulkAll r
def uptoBulkEntries {H : Type} : List (Lit × DataW H) → Nat
  | [] => 0
  | x :: r => uptoBulkEntry x + uptoBulkEntries r
def uptoBulkEntry {H : Type} : Lit × DataW H → Nat
  | (.string bytes, d) => bytes.length + uptoBulk d + 1
  | (_, d) => uptoBulk d + 1
 end
def uptoSmall : (H : Type) → List (DataW H) → Bool := fun _ ds => decide (uptoBulkAll ds ≤ 1048576)
def OpenSpec.upto (s : _root_.Go.ChangeSpec) : _root_.Go.OpenSpec := { _root_.Go.OpenSpec.ofChange s with cond := some uptoSmall }

/-- 'laws.FnExactEdgesIn', WHERE WHAT IT READS IS OF BULK AT MOST 1048576: true; the input reads as it did. -/
def fnExactEdgesInUptoRow : OpenClaim := { program := "ytdbojkdfpkgfcaa", sum := "5f60e3be5b7108c74595b2d296d2398a415b000355f8045e7229e96fdbbec827", func := "loop.example/g00869/laws.FnExactEdgesIn", spec := "fnExactEdgesIn", apart := false, narrowed := true }
def FnExactEdgesInUptoSaid : Prop := fnExactEdgesInUptoRow.holds Try.pinned (OpenSpec.upto fnExactEdgesInSpec)

/-- 'laws.FnExactHeavierIn', WHERE WHAT IT READS IS OF BULK AT MOST 1048576: true; the input reads as it did. -/
def fnExactHeavierInUptoRow : OpenClaim := { program := "ytdbojkdfpkgfcaa", sum := "5f60e3be5b7108c74595b2d296d2398a415b000355f8045e7229e96fdbbec827", func := "loop.example/g00869/laws.FnExactHeavierIn", spec := "fnExactHeavierIn", apart := false, narrowed := true }
def FnExactHeavierInUptoSaid : Prop := fnExactHeavierInUptoRow.holds Try.pinned (OpenSpec.upto fnExactHeavierInSpec)

/-- 'laws.FnExactRepliesIn', WHERE WHAT IT READS IS OF BULK AT MOST 1048576: true; the input reads as it did. -/
def fnExactRepliesInUptoRow : OpenClaim := { program := "ytdbojkdfpkgfcaa", sum := "5f60e3be5b7108c74595b2d296d2398a415b000355f8045e7229e96fdbbec827", func := "loop.example/g00869/laws.FnExactRepliesIn", spec := "fnExactRepliesIn", apart := false, narrowed := true }
def FnExactRepliesInUptoSaid : Prop := fnExactRepliesInUptoRow.holds Try.pinned (OpenSpec.upto fnExactRepliesInSpec)

/-- 'laws.FnExactWorthOk', WHERE WHAT IT READS IS OF BULK AT MOST 1048576: true; the input reads as it did. -/
def fnExactWorthOkUptoRow : OpenClaim := { program := "ytdbojkdfpkgfcaa", sum := "5f60e3be5b7108c74595b2d296d2398a415b000355f8045e7229e96fdbbec827", func := "loop.example/g00869/laws.FnExactWorthOk", spec := "fnExactWorthOk", apart := false, narrowed := true }
def FnExactWorthOkUptoSaid : Prop := fnExactWorthOkUptoRow.holds Try.pinned (OpenSpec.upto fnExactWorthOkSpec)

/-- 'laws.FnExactAskOk', WHERE WHAT IT READS IS OF BULK AT MOST 1048576: true; the input reads as it did. -/
def fnExactAskOkUptoRow : OpenClaim := { program := "ytdbojkdfpkgfcaa", sum := "5f60e3be5b7108c74595b2d296d2398a415b000355f8045e7229e96fdbbec827", func := "loop.example/g00869/laws.FnExactAskOk", spec := "fnExactAskOk", unfollowed := true, recurses := true, apart := false, narrowed := true }
def FnExactAskOkUptoSaid : Prop := fnExactAskOkUptoRow.holds Try.pinned (OpenSpec.upto fnExactAskOkSpec)

/-- 'laws.FnExactLoopWon', WHERE WHAT IT READS IS OF BULK AT MOST 1048576: true; the input reads as it did. -/
def fnExactLoopWonUptoRow : OpenClaim := { program := "ytdbojkdfpkgfcaa", sum := "5f60e3be5b7108c74595b2d296d2398a415b000355f8045e7229e96fdbbec827", func := "loop.example/g00869/laws.FnExactLoopWon", spec := "fnExactLoopWon", apart := false, narrowed := true }
def FnExactLoopWonUptoSaid : Prop := fnExactLoopWonUptoRow.holds Try.pinned (OpenSpec.upto fnExactLoopWonSpec)

/-- 'laws.FnExactFirstStage', WHERE WHAT IT READS IS OF BULK AT MOST 1048576: true; the input reads as it did. -/
def fnExactFirstStageUptoRow : OpenClaim := { program := "ytdbojkdfpkgfcaa", sum := "5f60e3be5b7108c74595b2d296d2398a415b000355f8045e7229e96fdbbec827", func := "loop.example/g00869/laws.FnExactFirstStage", spec := "fnExactFirstStage", apart := false, narrowed := true }
def FnExactFirstStageUptoSaid : Prop := fnExactFirstStageUptoRow.holds Try.pinned (OpenSpec.upto fnExactFirstStageSpec)

/-- 'laws.FnExactBetterIn', WHERE WHAT IT READS IS OF BULK AT MOST 1048576: true; the input reads as it did. -/
def fnExactBetterInUptoRow : OpenClaim := { program := "ytdbojkdfpkgfcaa", sum := "5f60e3be5b7108c74595b2d296d2398a415b000355f8045e7229e96fdbbec827", func := "loop.example/g00869/laws.FnExactBetterIn", spec := "fnExactBetterIn", apart := false, narrowed := true }
def FnExactBetterInUptoSaid : Prop := fnExactBetterInUptoRow.holds Try.pinned (OpenSpec.upto fnExactBetterInSpec)

/-- 'laws.FnExactCutEdge', WHERE WHAT IT READS IS OF BULK AT MOST 1048576: true; the input reads as it did. -/
def fnExactCutEdgeUptoRow : OpenClaim := { program := "ytdbojkdfpkgfcaa", sum := "5f60e3be5b7108c74595b2d296d2398a415b000355f8045e7229e96fdbbec827", func := "loop.example/g00869/laws.FnExactCutEdge", spec := "fnExactCutEdge", apart := false, narrowed := true }
def FnExactCutEdgeUptoSaid : Prop := fnExactCutEdgeUptoRow.holds Try.pinned (OpenSpec.upto fnExactCutEdgeSpec)

/-- 'laws.FnWorths', WHERE WHAT IT READS IS OF BULK AT MOST 1048576: true; the input reads as it did. -/
def fnWorthsUptoRow : OpenClaim := { program := "ytdbojkdfpkgfcaa", sum := "5f60e3be5b7108c74595b2d296d2398a415b000355f8045e7229e96fdbbec827", func := "loop.example/g00869/laws.FnWorths", spec := "fnWorths", apart := false, narrowed := true }
def FnWorthsUptoSaid : Prop := fnWorthsUptoRow.holds Try.pinned (OpenSpec.upto fnWorthsSpec)

/-- 'laws.FnExactOddsOf', WHERE WHAT IT READS IS OF BULK AT MOST 1048576: true; the input reads as it did. -/
def fnExactOddsOfUptoRow : OpenClaim := { program := "ytdbojkdfpkgfcaa", sum := "5f60e3be5b7108c74595b2d296d2398a415b000355f8045e7229e96fdbbec827", func := "loop.example/g00869/laws.FnExactOddsOf", spec := "fnExactOddsOf", recurses := true, apart := false, narrowed := true }
def FnExactOddsOfUptoSaid : Prop := fnExactOddsOfUptoRow.holds Try.pinned (OpenSpec.upto fnExactOddsOfSpec)

/-- 'laws.FnExactMeasureOk', WHERE WHAT IT READS IS OF BULK AT MOST 1048576: true; the input reads as it did. -/
def fnExactMeasureOkUptoRow : OpenClaim := { program := "ytdbojkdfpkgfcaa", sum := "5f60e3be5b7108c74595b2d296d2398a415b000355f8045e7229e96fdbbec827", func := "loop.example/g00869/laws.FnExactMeasureOk", spec := "fnExactMeasureOk", recurses := true, apart := false, narrowed := true }
def FnExactMeasureOkUptoSaid : Prop := fnExactMeasureOkUptoRow.holds Try.pinned (OpenSpec.upto fnExactMeasureOkSpec)

end Rows
end Go.Proofs.Ytdbojkdfpkgfcaa
