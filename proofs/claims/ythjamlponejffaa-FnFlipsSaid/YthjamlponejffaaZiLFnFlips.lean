/-
  For every input the law FnFlips returns true and leaves its argument as it was. No condition.
-/
import Derived.Test.YthjamlponejffaaZiLaw
import Derived.Test.YthjamlponejffaaZiLawY
import Derived.Test.YthjamlponejffaaZiK6
namespace Go.Proofs.Ythjamlponejffaa.fnFlips
set_option linter.unusedVariables false
set_option linter.unusedSimpArgs false
open Go.RowKit
theorem walk (u0 : Value) (bs : List Int) (w : World) (h0 : AVC φ00 h00 w (.c (.Y bs)) u0) (hb : ∀ j,j < bs.length → 0 ≤ gi bs j ∧ gi bs j ≤ 255) (hl : bs.length ≤ 9223372036854775807) : Calls Try.prog 7 #[u0] w (Bb w true) :=
 qL (vs:=[u0]) (oi bs hb hl) (.cons h0 .nil)
open Go.ChangeShapes Go.WideShapes Go.ChangeAt
theorem rec : ∀ t ∈ Try.f7.params.toList,Try.prog.readableRec t = true ∧ t < Try.prog.types.size:=by
 rw [Try.params7]
 intro t ht
 simp only [List.mem_cons,List.not_mem_nil,or_false] at ht
 rcases ht with rfl
 all_goals exact ⟨by kernel_rfl,of_decide_eq_true (by kernel_rfl)⟩
set_option maxRecDepth 100000 in
theorem lifted (os : Os) (started : os.Started) (H : Type) (enc : TypeId × Value → H) :
  ReturnsInHanded {} Try.checked os 7 .any (Rows.fnFlipsSpec.pre6 enc Try.prog Try.f7 Rows.fnFlipsRow.domain false) (Rows.fnFlipsSpec.post enc Try.prog Try.f7 false true false false):=by
 refine returnsInHanded_of_change (C:=Try.checked) own started (by kernel_rfl) Try.func7
  (ChangeSpec.witness6 (enc:=enc) (C:=Try.checked) false ⟨#[],#[.slice none 0 0],[]⟩ 8 (by kernel_rfl) (by kernel_rfl) (by kernel_rfl) (by kernel_rfl)) ?_
 intro W base args ds gs before hval0 hW hcnd _
 have hval : ∀ (j : Nat) t v,Try.f7.params[j]? = some t → args[j]? = some v → Value.okWide Try.prog W .any base t v:=hval0
 have hW':=hW
 obtain ⟨p,q,hA0,hV,rfl,hfz,hnd⟩:=hW
 have hA : DataW.TrodAll enc Try.prog W 0 (fun _=>true) true Try.f7.params.toList args.toList ds p:=hA0
 rw [Try.params7] at hA hval
 obtain ⟨v0,vs0,d0,ds0,p0,q0,hargs,rfl,rfl,t0,r0⟩:=trodAll_cons hA
 obtain ⟨rfl,rfl,rfl⟩:=trodAll_nil r0
 obtain rfl : args = #[v0]:=by cases args;simp_all
 obtain ⟨rfl,rfl⟩:=trodVars_none hV
 obtain ⟨bs,h0,hb0,hl0⟩:=rY (hval 0 _ v0 rfl rfl) t0
 clear hA0 hval0
 refine (walk v0 bs W h0 hb0 hl0).mono fun e W' ⟨he,hb⟩=>?_
 subst he
 exact ⟨_,rfl,oF tT rec (by kernel_rfl) rfl rfl hW' hb⟩
theorem over : Rows.fnFlipsRow.holds Try.pinned (OpenSpec.ofChange Rows.fnFlipsSpec) :=
 OpenClaim.holds_of_wide 7 Try.f7 rfl rfl rfl rfl rfl rfl rfl ⟨rfl,rfl,rfl,rfl,rfl⟩ rfl rfl rfl rfl rfl (by kernel_rfl) Try.func7 (by kernel_rfl)
  (of_decide_eq_true (by kernel_rfl)) (by unfold Func.isWrapper;first|(rw [if_pos (by decide +kernel)];kernel_rfl)|(rw [if_neg (by decide +kernel)];exact ⟨rfl,rfl⟩))
  (fun os started H enc _=>lifted os started H enc)
theorem proved : Rows.FnFlipsSaid:=over
#print axioms proved
end Go.Proofs.Ythjamlponejffaa.fnFlips
