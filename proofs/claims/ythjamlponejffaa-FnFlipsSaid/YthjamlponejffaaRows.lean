/-
  No cell of these rows narrows 'for every input' (looked for: loops, veiled, ifaces, maps, wideKeys, modest, calm, conditions, laid).
  DERIVED. THE GIVEN ROWS OF THIS SEAT. 5 by the template 'for every input the law returns true; each argument reads behind the call as it read before'; 0 by the template 'total and deterministic' (their statements: YthjamlponejffaaTotals.lean).
  GIVEN WITH THE SEED: the statements are not yours to turn. If you find one false, say at which input.
  Laid BY PROGRAM, IN A SANDBOX (cutbox-rows.mjs): the forced cells as the released guide's own fill.sh prints them over the translation 71e547413318d013… (all of the seat's roots in one cut). By AI agents, Wed Nov 11 2026. No macro, syntax, notation, axiom, sorry.
-/
import Derived.Test.YthjamlponejffaaChecked
import GoSem.Claim
import GoSem.ClaimJoined
import GoSem.ClaimMapViews
import Derived.JoinedTies
import Derived.KernelRfl
namespace Go.Proofs.Ythjamlponejffaa
/- THE CELL 'sum', in the pinned program and in every row, IS THE sha256 OF THE DUMP (.gsa) THAT YthjamlponejffaaProg.lean LOADS. Nothing in Lean hashes anything: it is a label: what it is worth is what the hold of that sum in a sandbox is worth. -/
noncomputable def Try.pinned : Pinned := { name := "ythjamlponejffaa", sum := "71e547413318d01318fec5e437b9c84db6ddce3658c3c9a01bb4e1cd2439e504", checked := Try.checked }
namespace Rows
def none {H : Type} : Left H := { results := [], args := [] }

/-- 'laws.FnExactAnsweredTo': WHATEVER THE INPUT: true; the input reads as it did. -/
def fnExactAnsweredToSpec : ChangeSpec := { name := "fnExactAnsweredTo", fn := fun _ => fun
  | [d1, d2, d3, d4, d5, d6] => { results := [.lit (.bool true)], args := [d1, d2, d3, d4, d5, d6] }
  | _ => none }
def fnExactAnsweredToRow : OpenClaim := { program := "ythjamlponejffaa", sum := "71e547413318d01318fec5e437b9c84db6ddce3658c3c9a01bb4e1cd2439e504", func := "loop.example/g00869/laws.FnExactAnsweredTo", spec := "fnExactAnsweredTo", unfollowed := true, recurses := true, plainKeys := false, apart := false }
def FnExactAnsweredToSaid : Prop := fnExactAnsweredToRow.holds Try.pinned (OpenSpec.ofChange fnExactAnsweredToSpec)

/-- ITS FALSE NEIGHBOUR: 'it returns false'. Refute it at one input. -/
def fnExactAnsweredToWrong : ChangeSpec := { name := "fnExactAnsweredTo", fn := fun _ => fun
  | [d1, d2, d3, d4, d5, d6] => { results := [.lit (.bool false)], args := [d1, d2, d3, d4, d5, d6] }
  | _ => none }
def FnExactAnsweredToWrongFalsely : Prop := fnExactAnsweredToRow.holds Try.pinned (OpenSpec.ofChange fnExactAnsweredToWrong)

/-- 'laws.FnExactRoundOf': WHATEVER THE INPUT: true; the input reads as it did. -/
def fnExactRoundOfSpec : ChangeSpec := { name := "fnExactRoundOf", fn := fun _ => fun
  | [d1, d2, d3, d4, d5, d6] => { results := [.lit (.bool true)], args := [d1, d2, d3, d4, d5, d6] }
  | _ => none }
def fnExactRoundOfRow : OpenClaim := { program := "ythjamlponejffaa", sum := "71e547413318d01318fec5e437b9c84db6ddce3658c3c9a01bb4e1cd2439e504", func := "loop.example/g00869/laws.FnExactRoundOf", spec := "fnExactRoundOf", unfollowed := true, recurses := true, plainKeys := false, apart := false }
def FnExactRoundOfSaid : Prop := fnExactRoundOfRow.holds Try.pinned (OpenSpec.ofChange fnExactRoundOfSpec)

/-- ITS FALSE NEIGHBOUR: 'it returns false'. Refute it at one input. -/
def fnExactRoundOfWrong : ChangeSpec := { name := "fnExactRoundOf", fn := fun _ => fun
  | [d1, d2, d3, d4, d5, d6] => { results := [.lit (.bool false)], args := [d1, d2, d3, d4, d5, d6] }
  | _ => none }
def FnExactRoundOfWrongFalsely : Prop := fnExactRoundOfRow.holds Try.pinned (OpenSpec.ofChange fnExactRoundOfWrong)

/-- 'laws.FnExactQuasiWon': WHATEVER THE INPUT: true; the input reads as it did. -/
def fnExactQuasiWonSpec : ChangeSpec := { name := "fnExactQuasiWon", fn := fun _ => fun
  | [d] => { results := [.lit (.bool true)], args := [d] }
  | _ => none }
def fnExactQuasiWonRow : OpenClaim := { program := "ythjamlponejffaa", sum := "71e547413318d01318fec5e437b9c84db6ddce3658c3c9a01bb4e1cd2439e504", func := "loop.example/g00869/laws.FnExactQuasiWon", spec := "fnExactQuasiWon", recurses := true, plainKeys := false, apart := false }
def FnExactQuasiWonSaid : Prop := fnExactQuasiWonRow.holds Try.pinned (OpenSpec.ofChange fnExactQuasiWonSpec)

/-- ITS FALSE NEIGHBOUR: 'it returns false'. Refute it at one input. -/
def fnExactQuasiWonWrong : ChangeSpec := { name := "fnExactQuasiWon", fn := fun _ => fun
  | [d] => { results := [.lit (.bool false)], args := [d] }
  | _ => none }
def FnExactQuasiWonWrongFalsely : Prop := fnExactQuasiWonRow.holds Try.pinned (OpenSpec.ofChange fnExactQuasiWonWrong)

/-- 'laws.FnHalves': WHATEVER THE INPUT: true; the input reads as it did. -/
def fnHalvesSpec : ChangeSpec := { name := "fnHalves", fn := fun _ => fun
  | [d] => { results := [.lit (.bool true)], args := [d] }
  | _ => none }
def fnHalvesRow : OpenClaim := { program := "ythjamlponejffaa", sum := "71e547413318d01318fec5e437b9c84db6ddce3658c3c9a01bb4e1cd2439e504", func := "loop.example/g00869/laws.FnHalves", spec := "fnHalves", unfollowed := true, recurses := true, plainKeys := false, apart := false }
def FnHalvesSaid : Prop := fnHalvesRow.holds Try.pinned (OpenSpec.ofChange fnHalvesSpec)

/-- ITS FALSE NEIGHBOUR: 'it returns false'. Refute it at one input. -/
def fnHalvesWrong : ChangeSpec := { name := "fnHalves", fn := fun _ => fun
  | [d] => { results := [.lit (.bool false)], args := [d] }
  | _ => none }
def FnHalvesWrongFalsely : Prop := fnHalvesRow.holds Try.pinned (OpenSpec.ofChange fnHalvesWrong)

/-- 'laws.FnFlips': WHATEVER THE INPUT: true; the input reads as it did. -/
def fnFlipsSpec : ChangeSpec := { name := "fnFlips", fn := fun _ => fun
  | [d] => { results := [.lit (.bool true)], args := [d] }
  | _ => none }
def fnFlipsRow : OpenClaim := { program := "ythjamlponejffaa", sum := "71e547413318d01318fec5e437b9c84db6ddce3658c3c9a01bb4e1cd2439e504", func := "loop.example/g00869/laws.FnFlips", spec := "fnFlips", unfollowed := true, recurses := true, plainKeys := false, apart := false }
def FnFlipsSaid : Prop := fnFlipsRow.holds Try.pinned (OpenSpec.ofChange fnFlipsSpec)

/-- ITS FALSE NEIGHBOUR: 'it returns false'. Refute it at one input. -/
def fnFlipsWrong : ChangeSpec := { name := "fnFlips", fn := fun _ => fun
  | [d] => { results := [.lit (.bool false)], args := [d] }
  | _ => none }
def FnFlipsWrongFalsely : Prop := fnFlipsRow.holds Try.pinned (OpenSpec.ofChange fnFlipsWrong)

/- THE SECOND FORM. 'bulk': how many values and letters a reading holds, each counted each time it is reached (what is shared counts as often as it is met; a slice's spare places count too). A statement '..UptoSaid' is the law's where the arguments, and the package variables that the reading takes, are together of bulk at most 1048576: NARROWER than '..Said'. Prove '..Said' where nothing that the law and all that it calls make is longer than what came in: it says more and counts as full. Else prove '..UptoSaid'. A law counts once. -/
mutual
def uptoBulk {H : Type} : DataW H → Nat
  | .lit (.string bytes) => bytes.length + 1
  | .lit _ => 1
  | .nil => 1
  | .ptr d => uptoBulk d + 1
  | .slice elems spare => uptoBulkAll elems + uptoBulkAll spare + 1
  | .agg parts => uptoBulkAll parts + 1
  | .iface _ d => uptoBulk d + 1
  | .map entries => uptoBulkEntries entries + 1
  | .held _ => 1
def uptoBulkAll {H : Type} : List (DataW H) → Nat
  | [] => 0
  | d :: r => uptoBulk d + uptoBulkAll r
def uptoBulkEntries {H : Type} : List (Lit × DataW H) → Nat
  | [] => 0
  | x :: r => uptoBulkEntry x + uptoBulkEntries r
def uptoBulkEntry {H : Type} : Lit × DataW H → Nat
  | (.string bytes, d) => bytes.length + uptoBulk d + 1
  | (_, d) => uptoBulk d + 1
 end
def uptoSmall : (H : Type) → List (DataW H) → Bool := fun _ ds => decide (uptoBulkAll ds ≤ 1048576)
def OpenSpec.upto (s : _root_.Go.ChangeSpec) : _root_.Go.OpenSpec := { _root_.Go.OpenSpec.ofChange s with cond := some uptoSmall }

/-- 'laws.FnExactAnsweredTo', WHERE WHAT IT READS IS OF BULK AT MOST 1048576: true; the input reads as it did. -/
def fnExactAnsweredToUptoRow : OpenClaim := { program := "ythjamlponejffaa", sum := "71e547413318d01318fec5e437b9c84db6ddce3658c3c9a01bb4e1cd2439e504", func := "loop.example/g00869/laws.FnExactAnsweredTo", spec := "fnExactAnsweredTo", unfollowed := true, recurses := true, plainKeys := false, apart := false, narrowed := true }
def FnExactAnsweredToUptoSaid : Prop := fnExactAnsweredToUptoRow.holds Try.pinned (OpenSpec.upto fnExactAnsweredToSpec)

/-- 'laws.FnExactRoundOf', WHERE WHAT IT READS IS OF BULK AT MOST 1048576: true; the input reads as it did. -/
def fnExactRoundOfUptoRow : OpenClaim := { program := "ythjamlponejffaa", sum := "71e547413318d01318fec5e437b9c84db6ddce3658c3c9a01bb4e1cd2439e504", func := "loop.example/g00869/laws.FnExactRoundOf", spec := "fnExactRoundOf", unfollowed := true, recurses := true, plainKeys := false, apart := false, narrowed := true }
def FnExactRoundOfUptoSaid : Prop := fnExactRoundOfUptoRow.holds Try.pinned (OpenSpec.upto fnExactRoundOfSpec)

/-- 'laws.FnExactQuasiWon', WHERE WHAT IT READS IS OF BULK AT MOST 1048576: true; the input reads as it did. -/
def fnExactQuasiWonUptoRow : OpenClaim := { program := "ythjamlponejffaa", sum := "71e547413318d01318fec5e437b9c84db6ddce3658c3c9a01bb4e1cd2439e504", func := "loop.example/g00869/laws.FnExactQuasiWon", spec := "fnExactQuasiWon", recurses := true, plainKeys := false, apart := false, narrowed := true }
def FnExactQuasiWonUptoSaid : Prop := fnExactQuasiWonUptoRow.holds Try.pinned (OpenSpec.upto fnExactQuasiWonSpec)

/-- 'laws.FnHalves', WHERE WHAT IT READS IS OF BULK AT MOST 1048576: true; the input reads as it did. -/
def fnHalvesUptoRow : OpenClaim := { program := "ythjamlponejffaa", sum := "71e547413318d01318fec5e437b9c84db6ddce3658c3c9a01bb4e1cd2439e504", func := "loop.example/g00869/laws.FnHalves", spec := "fnHalves", unfollowed := true, recurses := true, plainKeys := false, apart := false, narrowed := true }
def FnHalvesUptoSaid : Prop := fnHalvesUptoRow.holds Try.pinned (OpenSpec.upto fnHalvesSpec)

/-- 'laws.FnFlips', WHERE WHAT IT READS IS OF BULK AT MOST 1048576: true; the input reads as it did. -/
def fnFlipsUptoRow : OpenClaim := { program := "ythjamlponejffaa", sum := "71e547413318d01318fec5e437b9c84db6ddce3658c3c9a01bb4e1cd2439e504", func := "loop.example/g00869/laws.FnFlips", spec := "fnFlips", unfollowed := true, recurses := true, plainKeys := false, apart := false, narrowed := true }
def FnFlipsUptoSaid : Prop := fnFlipsUptoRow.holds Try.pinned (OpenSpec.upto fnFlipsSpec)

end Rows
end Go.Proofs.Ythjamlponejffaa
