/-
  A contract in the old words whose function hands back a new list, as a contract in the new ones.
-/
import Derived.Test.YtiadchinhofieaaZqCb
import Derived.Test.YtiadchinhofieaaZqFc
namespace Go.Proofs.Ytiadchinhofieaa
set_option linter.unusedVariables false
set_option linter.unusedSimpArgs false
open Go.RowKit
theorem uc {φ : Nat → Loc} {hp : Hp} {w : World} {loc : Loc} {nn : Fl} {xs : List Int} (h : gO φ hp w loc (.arr 2 nn (.I xs))) (hh : nn.hd = true) {lo : Nat} (hlo : ∀ b,loc.blk = some b → lo ≤ b) : cO lo w.heap.size w loc.val xs :=
 qf h hh rfl rfl hlo (by simp) fun i v hi hr=>by
  have hi' : i < xs.length:=hi
  cases hr with
  | sl hv' => simp [C.view] at hv'
  | int => simp [gi, List.getD_eq_getElem?_getD, List.getElem?_eq_getElem hi']
theorem vv {φ : Nat → Loc} {hp : Hp} {w : World} {ν : Nat} {v : Value} {T : TypeId} {nn : Fl} {c : C} (h : AVC φ hp w (.sl ν) v) (he : hp ν = some (.arr T nn c)) : v = (φ ν).val:=by
 cases h with
 | sl h hk => rfl
 | sld h hk v hv => rw [he] at h; injection h with h; subst h; simp [Ent.kind] at hk
theorem rQ (l : Loc) : ∃ s n c,l.val = .slice s n c:=by cases l <;> exact ⟨_,_,_,rfl⟩
end Go.Proofs.Ytiadchinhofieaa
