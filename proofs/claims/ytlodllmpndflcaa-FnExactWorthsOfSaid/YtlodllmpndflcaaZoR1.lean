/-
  Ways and bad loops: a strategy wins a region exactly if no loop in it is bad; plays of two strategies.
-/
import Derived.Test.YtlodllmpndflcaaZoCp
namespace Go.Proofs.Ytlodllmpndflcaa
set_option linter.unusedVariables false
set_option linter.unusedSimpArgs false
namespace PG
variable {G : Gm}
inductive Way (E : Nat → Nat → Prop) (L : Nat → Prop) (v : Nat) : Nat → Prop where
 | one {u : Nat} (h : E v u) (l : L u) : Way E L v u
 | more {w u : Nat} (t : Way E L v w) (h : E w u) (l : L u) : Way E L v u
theorem Way.end {E : Nat → Nat → Prop} {L : Nat → Prop} {v u : Nat} (h : Way E L v u) : L u:=by
 cases h <;> assumption
theorem Way.mono {E E' : Nat → Nat → Prop} {L L' Q : Nat → Prop} {v u : Nat} (hE : ∀ x y,Q x → E x y → E' x y) (hL : ∀ x,L x → Q x) (hl : ∀ x,L x → L' x) (hv : Q v) (h : Way E L v u) : Way E' L' v u:=by
 induction h with
 | one h l => exact .one (hE _ _ hv h) (hl _ l)
 | more t h l ih => exact .more ih (hE _ _ (hL _ t.end) h) (hl _ l)
end PG
end Go.Proofs.Ytlodllmpndflcaa
