/-
  For every input the law FnExactEdgeNeeded returns true and leaves its arguments as they were: the program's EdgeNeeded returns what the reference's returns. No condition.
-/
import Derived.Test.YtiadchinhofieaaZeLaw
import Derived.Test.YtiadchinhofieaaZeXE
import Derived.Test.YtiadchinhofieaaZeCb
namespace Go.Proofs.Ytiadchinhofieaa.fnExactEdgeNeeded
set_option linter.unusedVariables false
set_option linter.unusedSimpArgs false
open Go.RowKit
attribute [local go_sem ↓] Go.wp_at_zero Go.wp_at_succ
set_option maxRecDepth 100000 in
set_option maxHeartbeats 4000000 in
theorem walk (u0 : Value) (g0 : Pa) (g1 : Int) (g2 : Int) (w : World) (h0 : IsP w u0 g0) (wf0 : WfP g0) (wf1 : (Lit.int .i64 g1).wf = true) (wf2 : (Lit.int .i64 g2).wf = true) : Calls Try.prog 3 #[u0,.int .i64 g1,.int .i64 g2] w (Bb w true):=by
 obtain ⟨a0s0,a0n0,a0c0,a0s1,a0n1,a0c1,a0s2,a0n2,a0c2,rfl⟩:=h0.form
 by_cases hn_0 : ((szP g0 : Nat) : Int) ≤ 1048576
 · have hz_0:=eI hn_0
   replace hn_0 : szP g0 ≤ 1048576 - (0):=by omega
   have hp_0 : (0 : Int) ≤ 1048576 - ((szP g0 : Nat) : Int):=by omega
   go_enter Try.func3,Try.ntmps3
   have hbw : Below w.heap.size w w:=Below.refl _ _
   go_wp2_with fail
   generalize hqwm2 : w.alloc (.cells #[.slice a0s0 a0n0 a0c0,.slice a0s1 a0n1 a0c1,.slice a0s2 a0n2 a0c2] 27) = wm2
   have hywm2 : wm2.heap.size = w.heap.size + 1:=by rw [← hqwm2];simp
   have hbwm2 : Below w.heap.size w wm2:=by rw [← hqwm2];exact (by repeat' (first|(with_reducible exact Below.refl _ _)|(with_reducible apply Below.alloc)|(with_reducible apply Below.drew)|(with_reducible apply aj)|omega|(simp only [World.size_alloc,World.size_setCell,World.size_drew];omega)))
   have HQwm2_0 : Blk wm2 (w.heap.size) [.slice a0s0 a0n0 a0c0,.slice a0s1 a0n1 a0c1,.slice a0s2 a0n2 a0c2] 27:=by rw [← hqwm2];have hnew:=cR w [.slice a0s0 a0n0 a0c0,.slice a0s1 a0n1 a0c1,.slice a0s2 a0n2 a0c2] 27;(try simp only [World.size_alloc] at hnew);exact hnew
   have cf3 : wm2.cell? ⟨w.heap.size,0,none⟩ = some (.slice a0s0 a0n0 a0c0):=HQwm2_0.cell 0 rfl
   have cf4 : wm2.cell? ⟨w.heap.size,1,none⟩ = some (.slice a0s1 a0n1 a0c1):=HQwm2_0.cell 1 rfl
   have cf5 : wm2.cell? ⟨w.heap.size,2,none⟩ = some (.slice a0s2 a0n2 a0c2):=HQwm2_0.cell 2 rfl
   clear HQwm2_0
   clear hqwm2
   replace hbw : Below w.heap.size w wm2:=hbw.trans (hbwm2.mono hbw.size)
   have hzwm2 : w.heap.size ≤ wm2.heap.size:=hbwm2.size
   refine (mg _ _ _ _ (h0.below hbw) (by omega) (by omega)).mono ?_
   rw [hz_0]
   rintro e wc6 ⟨rfl,hbwc6⟩
   replace cf3:=aL cf3 hbwc6
   replace cf4:=aL cf4 hbwc6
   replace cf5:=aL cf5 hbwc6
   replace hbw : Below w.heap.size w wc6:=hbw.trans (hbwc6.mono hbw.size)
   have hzwc6 : wm2.heap.size ≤ wc6.heap.size:=hbwc6.size
   go_wp2_with fail
   refine (jO _ _ _ (h0.below hbw) (by omega)).mono ?_
   rintro e wc7 ⟨x8s0,x8n0,x8c0,x8s1,x8n1,x8c1,x8s2,x8n2,x8c2,rfl,howc7,hbwc7⟩
   replace howc7 : dl wc6.heap.size wc7.heap.size wc7 (.agg #[.slice x8s0 x8n0 x8c0,.slice x8s1 x8n1 x8c1,.slice x8s2 x8n2 x8c2]) g0:=howc7
   replace cf3:=aL cf3 hbwc7
   replace cf4:=aL cf4 hbwc7
   replace cf5:=aL cf5 hbwc7
   replace hbw : Below w.heap.size w wc7:=hbw.trans (hbwc7.mono hbw.size)
   have hzwc7 : wc6.heap.size ≤ wc7.heap.size:=hbwc7.size
   go_wp2_with fail
   refine (kt _ _ _ _ _ howc7.is).mono ?_
   rintro e wc9 ⟨rfl,hbwc9⟩
   replace cf3:=aL cf3 hbwc9
   replace cf4:=aL cf4 hbwc9
   replace cf5:=aL cf5 hbwc9
   replace howc7:=howc7.below hbwc9
   replace hbw : Below w.heap.size w wc9:=hbw.trans (hbwc9.mono hbw.size)
   have hzwc9 : wc7.heap.size ≤ wc9.heap.size:=hbwc9.size
   go_wp2_with fail
   refine (jO _ _ _ (h0.below hbw) (by omega)).mono ?_
   rintro e wc10 ⟨x11s0,x11n0,x11c0,x11s1,x11n1,x11c1,x11s2,x11n2,x11c2,rfl,howc10,hbwc10⟩
   replace howc10 : dl wc9.heap.size wc10.heap.size wc10 (.agg #[.slice x11s0 x11n0 x11c0,.slice x11s1 x11n1 x11c1,.slice x11s2 x11n2 x11c2]) g0:=howc10
   replace cf3:=aL cf3 hbwc10
   replace cf4:=aL cf4 hbwc10
   replace cf5:=aL cf5 hbwc10
   replace howc7:=howc7.below hbwc10
   replace hbw : Below w.heap.size w wc10:=hbw.trans (hbwc10.mono hbw.size)
   have hzwc10 : wc9.heap.size ≤ wc10.heap.size:=hbwc10.size
   have hl13 : w.heap.size < wc10.heap.size:=by omega
   go_wp2_with fail
   generalize hqwm14 : wc10.alloc (.cells #[.slice x11s0 x11n0 x11c0,.slice x11s1 x11n1 x11c1,.slice x11s2 x11n2 x11c2] 32) = wm14
   have hywm14 : wm14.heap.size = wc10.heap.size + 1:=by rw [← hqwm14];simp
   have hbwm14 : Below wc10.heap.size wc10 wm14:=by rw [← hqwm14];exact (by repeat' (first|(with_reducible exact Below.refl _ _)|(with_reducible apply Below.alloc)|(with_reducible apply Below.drew)|(with_reducible apply aj)|omega|(simp only [World.size_alloc,World.size_setCell,World.size_drew];omega)))
   have HQwm14_0 : Blk wm14 (wc10.heap.size) [.slice x11s0 x11n0 x11c0,.slice x11s1 x11n1 x11c1,.slice x11s2 x11n2 x11c2] 32:=by rw [← hqwm14];have hnew:=cR wc10 [.slice x11s0 x11n0 x11c0,.slice x11s1 x11n1 x11c1,.slice x11s2 x11n2 x11c2] 32;(try simp only [World.size_alloc] at hnew);exact hnew
   have cf15 : wm14.cell? ⟨wc10.heap.size,0,none⟩ = some (.slice x11s0 x11n0 x11c0):=HQwm14_0.cell 0 rfl
   have cf16 : wm14.cell? ⟨wc10.heap.size,1,none⟩ = some (.slice x11s1 x11n1 x11c1):=HQwm14_0.cell 1 rfl
   have cf17 : wm14.cell? ⟨wc10.heap.size,2,none⟩ = some (.slice x11s2 x11n2 x11c2):=HQwm14_0.cell 2 rfl
   clear HQwm14_0
   clear hqwm14
   replace cf3:=aL cf3 hbwm14
   replace cf4:=aL cf4 hbwm14
   replace cf5:=aL cf5 hbwm14
   replace howc7:=howc7.below hbwm14
   replace howc10:=howc10.below hbwm14
   replace hbw : Below w.heap.size w wm14:=hbw.trans (hbwm14.mono hbw.size)
   have hzwm14 : wc10.heap.size ≤ wm14.heap.size:=hbwm14.size
   refine (ks _ _ _ _ _ howc10.is).mono ?_
   rintro e wc18 ⟨rfl,hbwc18⟩
   replace cf3:=aL cf3 hbwc18
   replace cf4:=aL cf4 hbwc18
   replace cf5:=aL cf5 hbwc18
   replace cf15:=aL cf15 hbwc18
   replace cf16:=aL cf16 hbwc18
   replace cf17:=aL cf17 hbwc18
   replace howc7:=howc7.below hbwc18
   replace howc10:=howc10.below hbwc18
   replace hbw : Below w.heap.size w wc18:=hbw.trans (hbwc18.mono hbw.size)
   have hzwc18 : wm14.heap.size ≤ wc18.heap.size:=hbwc18.size
   go_wp2_with fail
   go_region_held3 (fun w'=>w'.cell? ⟨wc10.heap.size,0,none⟩ = some (.slice x11s0 x11n0 x11c0) ∧ w'.cell? ⟨wc10.heap.size,1,none⟩ = some (.slice x11s1 x11n1 x11c1) ∧ w'.cell? ⟨wc10.heap.size,2,none⟩ = some (.slice x11s2 x11n2 x11c2) ∧ w'.cell? ⟨w.heap.size,0,none⟩ = some (.slice a0s0 a0n0 a0c0) ∧ w'.cell? ⟨w.heap.size,1,none⟩ = some (.slice a0s1 a0n1 a0c1) ∧ w'.cell? ⟨w.heap.size,2,none⟩ = some (.slice a0s2 a0n2 a0c2)) (first|exact ⟨cf15,cf16,cf17,cf3,cf4,cf5⟩|go_keep)
    (first
     | (go_at_call 16; (with_reducible refine (jO _ _ _ ((h0.below hbw)).drew (by omega)).mono ?_); rintro e wc19 ⟨x20s0, x20n0, x20c0, x20s1, x20n1, x20c1, x20s2, x20n2, x20c2, rfl, howc19, hbwc19⟩; replace howc19 : dl wc18.heap.size wc19.heap.size wc19 (.agg #[.slice x20s0 x20n0 x20c0, .slice x20s1 x20n1 x20c1, .slice x20s2 x20n2 x20c2]) g0 := howc19; replace hbwc19 : Below wc18.heap.size wc18 wc19 := (bj _).trans hbwc19; replace cf3 := aL cf3 hbwc19; replace cf4 := aL cf4 hbwc19; replace cf5 := aL cf5 hbwc19; replace cf15 := aL cf15 hbwc19; replace cf16 := aL cf16 hbwc19; replace cf17 := aL cf17 hbwc19; replace howc7 := howc7.below hbwc19; replace howc10 := howc10.below hbwc19; replace hbw : Below w.heap.size w wc19 := hbw.trans (hbwc19.mono hbw.size); have hzwc19 : wc18.heap.size ≤ wc19.heap.size := hbwc19.size)
     | (go_at_call 18; (with_reducible refine (pF _ _ _ _ _ howc10.is howc19.is).mono ?_); rw [aH rfl]; rintro e wc21 ⟨rfl, hbwc21⟩; replace cf3 := aL cf3 hbwc21; replace cf4 := aL cf4 hbwc21; replace cf5 := aL cf5 hbwc21; replace cf15 := aL cf15 hbwc21; replace cf16 := aL cf16 hbwc21; replace cf17 := aL cf17 hbwc21; replace howc7 := howc7.below hbwc21; replace howc10 := howc10.below hbwc21; replace howc19 := howc19.below hbwc21; replace hbw : Below w.heap.size w wc21 := hbw.trans (hbwc21.mono hbw.size); have hzwc21 : wc19.heap.size ≤ wc21.heap.size := hbwc21.size))
   go_wp2_with fail
   go_ret
   exact ⟨rfl,hbw⟩
 · have hz_0:=dF (l:=1048576) (n:=szP g0) (by omega)
   go_enter Try.func3,Try.ntmps3
   have hbw : Below w.heap.size w w:=Below.refl _ _
   go_wp2_with fail
   generalize hqwm2 : w.alloc (.cells #[.slice a0s0 a0n0 a0c0,.slice a0s1 a0n1 a0c1,.slice a0s2 a0n2 a0c2] 27) = wm2
   have hywm2 : wm2.heap.size = w.heap.size + 1:=by rw [← hqwm2];simp
   have hbwm2 : Below w.heap.size w wm2:=by rw [← hqwm2];exact (by repeat' (first|(with_reducible exact Below.refl _ _)|(with_reducible apply Below.alloc)|(with_reducible apply Below.drew)|(with_reducible apply aj)|omega|(simp only [World.size_alloc,World.size_setCell,World.size_drew];omega)))
   have HQwm2_0 : Blk wm2 (w.heap.size) [.slice a0s0 a0n0 a0c0,.slice a0s1 a0n1 a0c1,.slice a0s2 a0n2 a0c2] 27:=by rw [← hqwm2];have hnew:=cR w [.slice a0s0 a0n0 a0c0,.slice a0s1 a0n1 a0c1,.slice a0s2 a0n2 a0c2] 27;(try simp only [World.size_alloc] at hnew);exact hnew
   have cf3 : wm2.cell? ⟨w.heap.size,0,none⟩ = some (.slice a0s0 a0n0 a0c0):=HQwm2_0.cell 0 rfl
   have cf4 : wm2.cell? ⟨w.heap.size,1,none⟩ = some (.slice a0s1 a0n1 a0c1):=HQwm2_0.cell 1 rfl
   have cf5 : wm2.cell? ⟨w.heap.size,2,none⟩ = some (.slice a0s2 a0n2 a0c2):=HQwm2_0.cell 2 rfl
   clear HQwm2_0
   clear hqwm2
   replace hbw : Below w.heap.size w wm2:=hbw.trans (hbwm2.mono hbw.size)
   have hzwm2 : w.heap.size ≤ wm2.heap.size:=hbwm2.size
   refine (mg _ _ _ _ (h0.below hbw) (by omega) (by omega)).mono ?_
   rw [hz_0]
   rintro e wc6 ⟨rfl,hbwc6⟩
   replace cf3:=aL cf3 hbwc6
   replace cf4:=aL cf4 hbwc6
   replace cf5:=aL cf5 hbwc6
   replace hbw : Below w.heap.size w wc6:=hbw.trans (hbwc6.mono hbw.size)
   have hzwc6 : wm2.heap.size ≤ wc6.heap.size:=hbwc6.size
   go_wp2_with fail
   go_ret
   exact ⟨rfl,hbw⟩
open Go.ChangeShapes Go.WideShapes Go.ChangeAt
theorem rec : ∀ t ∈ Try.f3.params.toList,Try.prog.readableRec t = true ∧ t < Try.prog.types.size:=by
 rw [Try.params3]
 intro t ht
 simp only [List.mem_cons,List.not_mem_nil,or_false] at ht
 rcases ht with rfl|rfl|rfl
 all_goals exact ⟨by kernel_rfl,of_decide_eq_true (by kernel_rfl)⟩
set_option maxRecDepth 100000 in
theorem lifted (os : Os) (started : os.Started) (H : Type) (enc : TypeId × Value → H) :
  ReturnsInHanded {} Try.checked os 3 .any (Rows.fnExactEdgeNeededSpec.pre6 enc Try.prog Try.f3 Rows.fnExactEdgeNeededRow.domain false) (Rows.fnExactEdgeNeededSpec.post enc Try.prog Try.f3 false true false false):=by
 refine returnsInHanded_of_change (C:=Try.checked) own started (by kernel_rfl) Try.func3
  (ChangeSpec.witness6 (enc:=enc) (C:=Try.checked) false ⟨#[],#[.agg #[.slice none 0 0,.slice none 0 0,.slice none 0 0],.int .i64 0,.int .i64 0],[]⟩ 8 (by kernel_rfl) (by kernel_rfl) (by kernel_rfl) (by kernel_rfl)) ?_
 intro W base args ds gs before hval0 hW hcnd _
 have hval : ∀ (j : Nat) t v,Try.f3.params[j]? = some t → args[j]? = some v → Value.okWide Try.prog W .any base t v:=hval0
 have hW':=hW
 obtain ⟨p,q,hA0,hV,rfl,hfz,hnd⟩:=hW
 have hA : DataW.TrodAll enc Try.prog W 0 (fun _=>true) true Try.f3.params.toList args.toList ds p:=hA0
 rw [Try.params3] at hA hval
 obtain ⟨v0,vs0,d0,ds0,p0,q0,hargs,rfl,rfl,t0,r0⟩:=trodAll_cons hA
 obtain ⟨v1,vs1,d1,ds1,p1,q1,rfl,rfl,rfl,t1,r1⟩:=trodAll_cons r0
 obtain ⟨v2,vs2,d2,ds2,p2,q2,rfl,rfl,rfl,t2,r2⟩:=trodAll_cons r1
 obtain ⟨rfl,rfl,rfl⟩:=trodAll_nil r2
 obtain rfl : args = #[v0,v1,v2]:=by cases args;simp_all
 obtain ⟨rfl,rfl⟩:=trodVars_none hV
 obtain ⟨g0,h0,wf0⟩:=sK (hval 0 _ v0 rfl rfl) t0
 obtain ⟨g1,rfl,-,-,wf1⟩:=open_int Try.underlying2 (hval 1 _ v1 rfl rfl) t1
 obtain ⟨g2,rfl,-,-,wf2⟩:=open_int Try.underlying2 (hval 2 _ v2 rfl rfl) t2
 clear hA0 hval0
 refine (walk v0 g0 g1 g2 W h0 wf0 wf1 wf2).mono fun e W' ⟨he,hb⟩=>?_
 subst he
 exact ⟨_,rfl,nW ut rec (by kernel_rfl) rfl rfl hW' hb⟩
theorem over : Rows.fnExactEdgeNeededRow.holds Try.pinned (OpenSpec.ofChange Rows.fnExactEdgeNeededSpec) :=
 OpenClaim.holds_of_wide 3 Try.f3 rfl rfl rfl rfl rfl rfl rfl ⟨rfl,rfl,rfl,rfl,rfl⟩ rfl rfl rfl rfl rfl (by kernel_rfl) Try.func3 (by kernel_rfl)
  (of_decide_eq_true (by kernel_rfl)) (by unfold Func.isWrapper;first|(rw [if_pos (by decide +kernel)];kernel_rfl)|(rw [if_neg (by decide +kernel)];exact ⟨rfl,rfl⟩))
  (fun os started H enc _=>lifted os started H enc)
theorem proved : Rows.FnExactEdgeNeededSaid:=over
#print axioms proved
end Go.Proofs.Ytiadchinhofieaa.fnExactEdgeNeeded
