/-
  A contract in the old words whose function hands back a new list, as a contract in the new ones.
-/
import Derived.Test.YtlodllmpndflcaaZoCb
import Derived.Test.YtlodllmpndflcaaZoFc
namespace Go.Proofs.Ytlodllmpndflcaa
set_option linter.unusedVariables false
set_option linter.unusedSimpArgs false
open Go.RowKit
theorem lO {φ : Nat → Loc} {hp : Hp} {w : World} {loc : Loc} {nn : Fl} {xs : List Int} (h : e9 φ hp w loc (.arr 2 nn (.I xs))) (hh : nn.hd = true) {lo : Nat} (hlo : ∀ b,loc.blk = some b → lo ≤ b) : bj lo w.heap.size w loc.val xs :=
 nu h hh rfl rfl hlo (by simp) fun i v hi hr=>by
  have hi' : i < xs.length:=hi
  cases hr with
  | sl hv' => simp [C.view] at hv'
  | int => simp [gi, List.getD_eq_getElem?_getD, List.getElem?_eq_getElem hi']
theorem kN {φ : Nat → Loc} {hp : Hp} {w : World} {ν : Nat} {v : Value} {T : TypeId} {nn : Fl} {c : C} (h : AVC φ hp w (.sl ν) v) (he : hp ν = some (.arr T nn c)) : v = (φ ν).val:=by
 cases h with
 | sl h hk => rfl
 | sld h hk v hv => rw [he] at h; injection h with h; subst h; simp [Ent.kind] at hk
theorem j4 (l : Loc) : ∃ s n c,l.val = .slice s n c:=by cases l <;> exact ⟨_,_,_,rfl⟩
theorem r7 {P : Program} {f : FuncId} {args : List AV} {xs : List Int} {nn : Fl} {w : World} {vs : List Value} (hF : ba P f args [.arr 2 nn (.I xs)] (fun ns=>.sl (ns.getD 0 0))) (hh : nn.hd = true) (hv : AVs φ00 h00 w args vs) : Calls P f vs.toArray w (ph w xs):=by
 refine (hF.2 φ00 h00 w vs (fun _ _ h=>by cases h) (ox w) hv.at.1 hv.at.2).mono fun e w' ⟨v,he,ho⟩=>?_
 obtain ⟨φ',H,_,ha⟩:=ho [0] rfl (by decide) (fun _ _=>rfl)
 have l0 : bQ (aY h00 []) [0] [Ent.arr 2 nn (.I xs)] 0 = some (.arr 2 nn (.I xs)):=rfl
 have o0:=lO (H.ent 0 _ l0) hh fun b hb=>H.lo 0 b ⟨_,l0,(by show 1 < 2;decide)⟩ hb
 have e1 : v = (φ' 0).val:=kN ha l0
 obtain ⟨s0,n0,c0,q0⟩:=j4 (φ' 0)
 rw [q0] at o0 e1
 subst e1
 exact ⟨s0,n0,c0,he,o0,H.fr⟩
end Go.Proofs.Ytlodllmpndflcaa
