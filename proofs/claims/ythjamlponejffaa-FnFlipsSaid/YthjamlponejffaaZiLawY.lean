/-
  A slice of bytes that came in as an argument of a law.
-/
import Derived.Test.YthjamlponejffaaZiLaw
import Derived.Test.YthjamlponejffaaZiFc
namespace Go.Proofs.Ythjamlponejffaa
set_option linter.unusedVariables false
set_option linter.unusedSimpArgs false
open Go.RowKit Go.ChangeShapes Go.WideShapes Go.ChangeAt Go.Deep Go.Joins
section
variable {H : Type} {enc : TypeId × Value → H} {W : World} {base : Nat}
set_option maxRecDepth 100000 in
theorem rY {r : Go.Reach} {b0 : Nat} {v : Value} {d : DataW H} {p : List MemPlace} (hv : Value.okWide Try.prog W r b0 42 v) (h : DataW.Trod enc Try.prog W base (fun _=>true) true 42 v d p) : ∃ bs : List Int,AVC φ00 h00 W (.c (.Y bs)) v ∧ (∀ j,j < bs.length → 0 ≤ gi bs j ∧ gi bs j ≤ 255) ∧ bs.length ≤ 9223372036854775807:=by
 obtain ⟨a,n,c,rfl⟩:=okWide_slice Try.underlying42 hv
 obtain ⟨fuel,hf⟩:=h
 simp [Value.cells] at hf
 rcases open_ints Try.underlying42 Try.underlying5 (by kernel_rfl) hf with ⟨hcs,_⟩|⟨a',len,cap,zs,hcs,hb,hl,hm,hz,hx,hc,hw⟩
 · simp only [List.cons.injEq,and_true] at hcs
   rw [hcs]
   refine ⟨[],.c (.sl (c:=.Y []) (V:=⟨0,1,fun i _=>.int .u8 (gi [] i)⟩) (vs:=fun _ _=>undef) rfl (fun e=>by cases e) (by simp) (by omega) (fun _=>⟨rfl,rfl⟩) (fun ad e=>by cases e) (fun ad e=>by cases e) (fun i hi=>absurd hi (Nat.not_lt_zero _))),fun j hj=>absurd hj (Nat.not_lt_zero _),by simp⟩
 · simp only [List.cons.injEq,and_true] at hcs
   rw [hcs]
   simp only [if_true] at hz
   unfold maxLen at hm
   obtain ⟨h1,h2⟩:=nl (w:=W) (a:=a') (n:=len) (f:=fun i=>.int .u8 (zs.getD i 0)) (fun i hi=>hc i (by omega))
   have hlen : (zs.take len).length = len:=by simp;omega
   have hgi : ∀ i,i < len → gi (zs.take len) i = zs.getD i 0:=fun i hi=>by simp [gi,List.getD_eq_getElem?_getD,List.getElem?_take,hi]
   refine ⟨zs.take len,.c ?_,fun j hj=>?_,by omega⟩
   · have:=Rd.sl (O:=Own φ00 h00) (w:=W) (c:=.Y (zs.take len)) (V:=⟨(zs.take len).length,1,fun i _=>.int .u8 (gi (zs.take len) i)⟩) (sa:=some a') (cp:=cap) (vs:=fun i _=>.int .u8 (zs.getD i 0)) rfl (fun e=>by cases e) (by simp only;omega) (by omega) (fun e=>by cases e)
      (fun ad e hn=>?_) (fun ad e i hi j hj=>?_) (fun i hi j hj=>?_)
     · rw [hlen] at this;exact this
     · cases e
       simp only at hn
       have h3:=h1 (by omega)
       refine ⟨h3,fun ho=>tO _ ho,?_⟩
       have h4:=h2 0 (by omega)
       exact World.block_lt_of_cell? W ⟨a'.block,a'.off + 0,none⟩ h4
     · cases e
       have hj0 : j = 0:=by simp only at hj;omega
       subst hj0
       simp only [Nat.mul_one,Nat.add_zero]
       simp only at hi
       exact h2 i (by omega)
     · simp only at hi
       rw [show zs.getD i 0 = gi (zs.take len) i from (hgi i (by omega)).symm]
       exact .int _ _
   · rw [hlen] at hj
     rw [hgi j hj]
     have hm' : zs.getD j 0 ∈ zs:=by rw [aX (by omega)];exact List.getElem_mem (by omega)
     have:=hw _ hm'
     simp [Lit.wf,IntKind.min,IntKind.max,IntKind.signed,IntKind.bits] at this ⊢
     omega
end
end Go.Proofs.Ythjamlponejffaa
