/-
  For every input the law FnEveryOpponent returns true and leaves its arguments as they were. No condition.
-/
import Derived.Test.YtfaefmabjjndeaaZeLaw
import Derived.Test.YtfaefmabjjndeaaZeRE
namespace Go.Proofs.Ytfaefmabjjndeaa.fnEveryOpponent
set_option linter.unusedVariables false
set_option linter.unusedSimpArgs false
open Go.RowKit
theorem walk (u0 : Value) (g0 : Pa) (u1 : Value) (g1 : List Int) (u2 : Value) (g2 : List Int) (g3 : Int) (w : World) (h0 : IsP w u0 g0) (h1 : IsI w u1 g1) (h2 : IsI w u2 g2) : Calls Try.prog 4 #[u0,u1,u2,.int .i64 g3] w (Bb w true) :=
 uw (vs:=[u0,u1,u2,.int .i64 g3]) (rL g0 g1 g2 g3) (.cons (yd h0) (.cons (uu h1) (.cons (uu h2) (.cons (yc _ _) .nil))))
open Go.ChangeShapes Go.WideShapes Go.ChangeAt Go.Deep Go.Joins
section
variable {H : Type} {enc : TypeId × Value → H} {W : World} {base : Nat}
set_option maxRecDepth 100000 in
theorem we {r : _} {b0 : Nat} {v : Value} {d : DataW H} {p : List MemPlace} (hv : Value.okWide Try.prog W r b0 32 v) (h : DataW.Trod enc Try.prog W base (fun _=>true) true 32 v d p) : ∃ g,IsP W v g ∧ WfP g:=by
 obtain ⟨cs,rfl,hsz⟩:=okWide_struct Try.underlying32 hv
 obtain ⟨c0,c1,c2,rfl⟩:=array3 (hsz.trans (by kernel_rfl))
 obtain ⟨fuel,hf⟩:=h
 obtain ⟨y0,y1,n,_,_,h0,h1⟩:=trod_struct2 Try.underlying32 hf
 have e2 : Try.prog.cellsOf 27 = 1:=by kernel_rfl
 have e3 : Try.prog.cellsOf 28 = 1:=by kernel_rfl
 have e4 : Try.prog.cellsOf 30 = 2:=by kernel_rfl
 simp [Value.cells,e2,e3,e4] at h0 h1
 obtain ⟨z0,z1,m,_,_,g0,g1⟩:=trod_struct2 Try.underlying30 h0
 simp [e2,e3] at g0 g1
 obtain ⟨xs,hx,wx⟩:=rY g0
 obtain ⟨xss,hxx,wxx⟩:=u7 g1
 obtain ⟨ys,hy,wy⟩:=rY h1
 exact ⟨⟨⟨xs,xss⟩,ys⟩,⟨_,_,_,rfl,hx,hxx,hy⟩,⟨⟨wx,wxx⟩,wy⟩⟩
end
theorem rec : ∀ t ∈ Try.f4.params.toList,Try.prog.readableRec t = true ∧ t < Try.prog.types.size:=by
 rw [Try.params4]
 intro t ht
 simp only [List.mem_cons,List.not_mem_nil,or_false] at ht
 rcases ht with rfl|rfl|rfl|rfl
 all_goals exact ⟨by kernel_rfl,of_decide_eq_true (by kernel_rfl)⟩
set_option maxRecDepth 100000 in
theorem lifted (os : Os) (started : os.Started) (H : Type) (enc : TypeId × Value → H) :
  ReturnsInHanded {} Try.checked os 4 .any (Rows.fnEveryOpponentSpec.pre6 enc Try.prog Try.f4 Rows.fnEveryOpponentRow.domain false) (Rows.fnEveryOpponentSpec.post enc Try.prog Try.f4 false true false false):=by
 refine returnsInHanded_of_change (C:=Try.checked) own started (by kernel_rfl) Try.func4
  (ChangeSpec.witness6 (enc:=enc) (C:=Try.checked) false ⟨#[],#[.agg #[.slice none 0 0,.slice none 0 0,.slice none 0 0],.slice none 0 0,.slice none 0 0,.int .i64 0],[]⟩ 8 (by kernel_rfl) (by kernel_rfl) (by kernel_rfl) (by kernel_rfl)) ?_
 intro W base args ds gs before hval0 hW hcnd _
 have hval : ∀ (j : Nat) t v,Try.f4.params[j]? = some t → args[j]? = some v → Value.okWide Try.prog W .any base t v:=hval0
 have hW':=hW
 obtain ⟨p,q,hA0,hV,rfl,hfz,hnd⟩:=hW
 have hA : DataW.TrodAll enc Try.prog W 0 (fun _=>true) true Try.f4.params.toList args.toList ds p:=hA0
 rw [Try.params4] at hA hval
 obtain ⟨v0,vs0,d0,ds0,p0,q0,hargs,rfl,rfl,t0,r0⟩:=trodAll_cons hA
 obtain ⟨v1,vs1,d1,ds1,p1,q1,rfl,rfl,rfl,t1,r1⟩:=trodAll_cons r0
 obtain ⟨v2,vs2,d2,ds2,p2,q2,rfl,rfl,rfl,t2,r2⟩:=trodAll_cons r1
 obtain ⟨v3,vs3,d3,ds3,p3,q3,rfl,rfl,rfl,t3,r3⟩:=trodAll_cons r2
 obtain ⟨rfl,rfl,rfl⟩:=trodAll_nil r3
 obtain rfl : args = #[v0,v1,v2,v3]:=by cases args;simp_all
 obtain ⟨rfl,rfl⟩:=trodVars_none hV
 obtain ⟨g0,h0,wf0⟩:=we (hval 0 _ v0 rfl rfl) t0
 obtain ⟨g1,h1,wf1⟩:=r7 (hval 1 _ v1 rfl rfl) t1
 obtain ⟨g2,h2,wf2⟩:=r7 (hval 2 _ v2 rfl rfl) t2
 obtain ⟨g3,rfl,-,-,wf3⟩:=open_int Try.underlying2 (hval 3 _ v3 rfl rfl) t3
 clear hA0 hval0
 refine (walk v0 g0 v1 g1 v2 g2 g3 W h0 h1 h2).mono fun e W' ⟨he,hb⟩=>?_
 subst he
 exact ⟨_,rfl,rZ xq rec (by kernel_rfl) rfl rfl hW' hb⟩
theorem over : Rows.fnEveryOpponentRow.holds Try.pinned (OpenSpec.ofChange Rows.fnEveryOpponentSpec) :=
 OpenClaim.holds_of_wide 4 Try.f4 rfl rfl rfl rfl rfl rfl rfl ⟨rfl,rfl,rfl,rfl,rfl⟩ rfl rfl rfl rfl rfl (by kernel_rfl) Try.func4 (by kernel_rfl)
  (of_decide_eq_true (by kernel_rfl)) (by unfold Func.isWrapper;first|(rw [if_pos (by decide +kernel)];kernel_rfl)|(rw [if_neg (by decide +kernel)];exact ⟨rfl,rfl⟩))
  (fun os started H enc _=>lifted os started H enc)
theorem proved : Rows.FnEveryOpponentSaid:=over
#print axioms proved
end Go.Proofs.Ytfaefmabjjndeaa.fnEveryOpponent
