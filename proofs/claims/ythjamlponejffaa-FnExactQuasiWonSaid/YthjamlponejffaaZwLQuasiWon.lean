/-
  For every input the law FnExactQuasiWon returns true and leaves its arguments as they were: the program's QuasiWon returns what the reference's returns. No condition.
-/
import Derived.Test.YthjamlponejffaaZwLaw
import Derived.Test.YthjamlponejffaaZwNK
import Derived.Test.YthjamlponejffaaZwCb
namespace Go.Proofs.Ythjamlponejffaa.fnExactQuasiWon
set_option linter.unusedVariables false
set_option linter.unusedSimpArgs false
open Go.RowKit
attribute [local go_sem ↓] Go.wp_at_zero Go.wp_at_succ
set_option maxRecDepth 100000 in
set_option maxHeartbeats 4000000 in
theorem walk (u0 : Value) (g0 : Pa) (w : World) (h0 : IsP w u0 g0) (wf0 : WfP g0) : Calls Try.prog 5 #[u0] w (Bb w true):=by
 obtain ⟨a0s0,a0n0,a0c0,a0s1,a0n1,a0c1,a0s2,a0n2,a0c2,rfl⟩:=h0.form
 by_cases hn_0 : ((szP g0 : Nat) : Int) ≤ 1048576
 · have hz_0:=dV hn_0
   replace hn_0 : szP g0 ≤ 1048576 - (0):=by omega
   have hp_0 : (0 : Int) ≤ 1048576 - ((szP g0 : Nat) : Int):=by omega
   go_enter Try.func5,Try.ntmps5
   have hbw : Below w.heap.size w w:=Below.refl _ _
   go_wp2_with fail
   generalize hqwm2 : w.alloc (.cells #[.slice a0s0 a0n0 a0c0,.slice a0s1 a0n1 a0c1,.slice a0s2 a0n2 a0c2] 27) = wm2
   have hywm2 : wm2.heap.size = w.heap.size + 1:=by rw [← hqwm2];simp
   have hbwm2 : Below w.heap.size w wm2:=by rw [← hqwm2];exact (by repeat' (first|(with_reducible exact Below.refl _ _)|(with_reducible apply Below.alloc)|(with_reducible apply Below.drew)|(with_reducible apply ah)|omega|(simp only [World.size_alloc,World.size_setCell,World.size_drew];omega)))
   have HQwm2_0 : Blk wm2 (w.heap.size) [.slice a0s0 a0n0 a0c0,.slice a0s1 a0n1 a0c1,.slice a0s2 a0n2 a0c2] 27:=by rw [← hqwm2];have hnew:=cL w [.slice a0s0 a0n0 a0c0,.slice a0s1 a0n1 a0c1,.slice a0s2 a0n2 a0c2] 27;(try simp only [World.size_alloc] at hnew);exact hnew
   have cf3 : wm2.cell? ⟨w.heap.size,0,none⟩ = some (.slice a0s0 a0n0 a0c0):=HQwm2_0.cell 0 rfl
   have cf4 : wm2.cell? ⟨w.heap.size,1,none⟩ = some (.slice a0s1 a0n1 a0c1):=HQwm2_0.cell 1 rfl
   have cf5 : wm2.cell? ⟨w.heap.size,2,none⟩ = some (.slice a0s2 a0n2 a0c2):=HQwm2_0.cell 2 rfl
   clear HQwm2_0
   clear hqwm2
   replace hbw : Below w.heap.size w wm2:=hbw.trans (hbwm2.mono hbw.size)
   have hzwm2 : w.heap.size ≤ wm2.heap.size:=hbwm2.size
   refine (lO _ _ _ _ (h0.below hbw) (by omega) (by omega)).mono ?_
   rw [hz_0]
   rintro e wc6 ⟨rfl,hbwc6⟩
   replace cf3:=an cf3 hbwc6
   replace cf4:=an cf4 hbwc6
   replace cf5:=an cf5 hbwc6
   replace hbw : Below w.heap.size w wc6:=hbw.trans (hbwc6.mono hbw.size)
   have hzwc6 : wm2.heap.size ≤ wc6.heap.size:=hbwc6.size
   go_wp2_with fail
   refine (gB _ _ _ (h0.below hbw) (by omega)).mono ?_
   rintro e wc7 ⟨x8s0,x8n0,x8c0,x8s1,x8n1,x8c1,x8s2,x8n2,x8c2,rfl,howc7,hbwc7⟩
   replace howc7 : cK wc6.heap.size wc7.heap.size wc7 (.agg #[.slice x8s0 x8n0 x8c0,.slice x8s1 x8n1 x8c1,.slice x8s2 x8n2 x8c2]) g0:=howc7
   replace cf3:=an cf3 hbwc7
   replace cf4:=an cf4 hbwc7
   replace cf5:=an cf5 hbwc7
   replace hbw : Below w.heap.size w wc7:=hbw.trans (hbwc7.mono hbw.size)
   have hzwc7 : wc6.heap.size ≤ wc7.heap.size:=hbwc7.size
   go_wp2_with fail
   refine (lJ _ _ _ howc7.is).mono ?_
   rintro e wc9 ⟨y10s0,y10n0,y10c0,rfl,howc9,hbwc9⟩
   replace howc9 : ax wc7.heap.size wc9.heap.size wc9 (.slice y10s0 y10n0 y10c0) (qwN g0):=howc9
   replace cf3:=an cf3 hbwc9
   replace cf4:=an cf4 hbwc9
   replace cf5:=an cf5 hbwc9
   replace howc7:=howc7.below hbwc9
   replace hbw : Below w.heap.size w wc9:=hbw.trans (hbwc9.mono hbw.size)
   have hzwc9 : wc7.heap.size ≤ wc9.heap.size:=hbwc9.size
   go_wp2_with fail
   refine (gB _ _ _ (h0.below hbw) (by omega)).mono ?_
   rintro e wc11 ⟨x12s0,x12n0,x12c0,x12s1,x12n1,x12c1,x12s2,x12n2,x12c2,rfl,howc11,hbwc11⟩
   replace howc11 : cK wc9.heap.size wc11.heap.size wc11 (.agg #[.slice x12s0 x12n0 x12c0,.slice x12s1 x12n1 x12c1,.slice x12s2 x12n2 x12c2]) g0:=howc11
   replace cf3:=an cf3 hbwc11
   replace cf4:=an cf4 hbwc11
   replace cf5:=an cf5 hbwc11
   replace howc7:=howc7.below hbwc11
   replace howc9:=howc9.below hbwc11
   replace hbw : Below w.heap.size w wc11:=hbw.trans (hbwc11.mono hbw.size)
   have hzwc11 : wc9.heap.size ≤ wc11.heap.size:=hbwc11.size
   have hl14 : w.heap.size < wc11.heap.size:=by omega
   go_wp2_with fail
   generalize hqwm15 : wc11.alloc (.cells #[.slice x12s0 x12n0 x12c0,.slice x12s1 x12n1 x12c1,.slice x12s2 x12n2 x12c2] 32) = wm15
   have hywm15 : wm15.heap.size = wc11.heap.size + 1:=by rw [← hqwm15];simp
   have hbwm15 : Below wc11.heap.size wc11 wm15:=by rw [← hqwm15];exact (by repeat' (first|(with_reducible exact Below.refl _ _)|(with_reducible apply Below.alloc)|(with_reducible apply Below.drew)|(with_reducible apply ah)|omega|(simp only [World.size_alloc,World.size_setCell,World.size_drew];omega)))
   have HQwm15_0 : Blk wm15 (wc11.heap.size) [.slice x12s0 x12n0 x12c0,.slice x12s1 x12n1 x12c1,.slice x12s2 x12n2 x12c2] 32:=by rw [← hqwm15];have hnew:=cL wc11 [.slice x12s0 x12n0 x12c0,.slice x12s1 x12n1 x12c1,.slice x12s2 x12n2 x12c2] 32;(try simp only [World.size_alloc] at hnew);exact hnew
   have cf16 : wm15.cell? ⟨wc11.heap.size,0,none⟩ = some (.slice x12s0 x12n0 x12c0):=HQwm15_0.cell 0 rfl
   have cf17 : wm15.cell? ⟨wc11.heap.size,1,none⟩ = some (.slice x12s1 x12n1 x12c1):=HQwm15_0.cell 1 rfl
   have cf18 : wm15.cell? ⟨wc11.heap.size,2,none⟩ = some (.slice x12s2 x12n2 x12c2):=HQwm15_0.cell 2 rfl
   clear HQwm15_0
   clear hqwm15
   replace cf3:=an cf3 hbwm15
   replace cf4:=an cf4 hbwm15
   replace cf5:=an cf5 hbwm15
   replace howc7:=howc7.below hbwm15
   replace howc9:=howc9.below hbwm15
   replace howc11:=howc11.below hbwm15
   replace hbw : Below w.heap.size w wm15:=hbw.trans (hbwm15.mono hbw.size)
   have hzwm15 : wc11.heap.size ≤ wm15.heap.size:=hbwm15.size
   refine (iq _ _ _ howc11.is).mono ?_
   rintro e wc19 ⟨y20s0,y20n0,y20c0,rfl,howc19,hbwc19⟩
   replace howc19 : ax wm15.heap.size wc19.heap.size wc19 (.slice y20s0 y20n0 y20c0) (qwN g0):=howc19
   replace cf3:=an cf3 hbwc19
   replace cf4:=an cf4 hbwc19
   replace cf5:=an cf5 hbwc19
   replace cf16:=an cf16 hbwc19
   replace cf17:=an cf17 hbwc19
   replace cf18:=an cf18 hbwc19
   replace howc7:=howc7.below hbwc19
   replace howc9:=howc9.below hbwc19
   replace howc11:=howc11.below hbwc19
   replace hbw : Below w.heap.size w wc19:=hbw.trans (hbwc19.mono hbw.size)
   have hzwc19 : wm15.heap.size ≤ wc19.heap.size:=hbwc19.size
   have hlimwc19 : y20n0 ≤ 1048576:=by have h1:=howc19.len;have h2:=mw g0;omega
   go_wp2_with fail
   refine (gU howc19.is howc9.is).mono ?_
   rw [aH rfl]
   rintro e wc21 ⟨rfl,hbwc21⟩
   replace cf3:=an cf3 hbwc21
   replace cf4:=an cf4 hbwc21
   replace cf5:=an cf5 hbwc21
   replace cf16:=an cf16 hbwc21
   replace cf17:=an cf17 hbwc21
   replace cf18:=an cf18 hbwc21
   replace howc7:=howc7.below hbwc21
   replace howc9:=howc9.below hbwc21
   replace howc11:=howc11.below hbwc21
   replace howc19:=howc19.below hbwc21
   replace hbw : Below w.heap.size w wc21:=hbw.trans (hbwc21.mono hbw.size)
   have hzwc21 : wc19.heap.size ≤ wc21.heap.size:=hbwc21.size
   go_wp2_with fail
   go_region_held3 (fun w'=>w'.cell? ⟨wc11.heap.size,0,none⟩ = some (.slice x12s0 x12n0 x12c0) ∧ w'.cell? ⟨wc11.heap.size,1,none⟩ = some (.slice x12s1 x12n1 x12c1) ∧ w'.cell? ⟨wc11.heap.size,2,none⟩ = some (.slice x12s2 x12n2 x12c2) ∧ w'.cell? ⟨w.heap.size,0,none⟩ = some (.slice a0s0 a0n0 a0c0) ∧ w'.cell? ⟨w.heap.size,1,none⟩ = some (.slice a0s1 a0n1 a0c1) ∧ w'.cell? ⟨w.heap.size,2,none⟩ = some (.slice a0s2 a0n2 a0c2)) (first|exact ⟨cf16,cf17,cf18,cf3,cf4,cf5⟩|go_keep)
    (first
     | (go_at_call 10; (with_reducible refine (gB _ _ _ ((h0.below hbw)).drew (by omega)).mono ?_); rintro e wc22 ⟨x23s0, x23n0, x23c0, x23s1, x23n1, x23c1, x23s2, x23n2, x23c2, rfl, howc22, hbwc22⟩; replace howc22 : cK wc21.heap.size wc22.heap.size wc22 (.agg #[.slice x23s0 x23n0 x23c0, .slice x23s1 x23n1 x23c1, .slice x23s2 x23n2 x23c2]) g0 := howc22; replace hbwc22 : Below wc21.heap.size wc21 wc22 := (aL _).trans hbwc22; replace cf3 := an cf3 hbwc22; replace cf4 := an cf4 hbwc22; replace cf5 := an cf5 hbwc22; replace cf16 := an cf16 hbwc22; replace cf17 := an cf17 hbwc22; replace cf18 := an cf18 hbwc22; replace howc7 := howc7.below hbwc22; replace howc9 := howc9.below hbwc22; replace howc11 := howc11.below hbwc22; replace howc19 := howc19.below hbwc22; replace hbw : Below w.heap.size w wc22 := hbw.trans (hbwc22.mono hbw.size); have hzwc22 : wc21.heap.size ≤ wc22.heap.size := hbwc22.size)
     | (go_at_call 14; (with_reducible refine (pb _ _ _ _ _ howc11.is howc22.is).mono ?_); rw [aH rfl]; rintro e wc24 ⟨rfl, hbwc24⟩; replace cf3 := an cf3 hbwc24; replace cf4 := an cf4 hbwc24; replace cf5 := an cf5 hbwc24; replace cf16 := an cf16 hbwc24; replace cf17 := an cf17 hbwc24; replace cf18 := an cf18 hbwc24; replace howc7 := howc7.below hbwc24; replace howc9 := howc9.below hbwc24; replace howc11 := howc11.below hbwc24; replace howc19 := howc19.below hbwc24; replace howc22 := howc22.below hbwc24; replace hbw : Below w.heap.size w wc24 := hbw.trans (hbwc24.mono hbw.size); have hzwc24 : wc22.heap.size ≤ wc24.heap.size := hbwc24.size))
   go_wp2_with fail
   refine (mG howc11 _ (by omega) (by omega) (by omega) (by omega)).mono ?_
   rintro e wc25 ⟨rfl,hmwc25,hOwc25⟩
   replace cf3:=da cf3 hOwc25 (by omega)
   replace cf4:=da cf4 hOwc25 (by omega)
   replace cf5:=da cf5 hOwc25 (by omega)
   replace cf16:=da cf16 hOwc25 (by omega)
   replace cf17:=da cf17 hOwc25 (by omega)
   replace cf18:=da cf18 hOwc25 (by omega)
   replace howc7:=howc7.out hOwc25 (by omega)
   replace howc9:=howc9.out hOwc25 (by omega)
   replace howc19:=howc19.out hOwc25 (by omega)
   replace howc22:=howc22.out hOwc25 (by omega)
   replace hbw : Below w.heap.size w wc25:=hbw.trans (hOwc25.below (by omega))
   have hzwc25 : wc24.heap.size ≤ wc25.heap.size:=hOwc25.size
   have hlfwc25 : lN g0 ≤ szP g0:=by unfold lN fD dt szP szA fZ;omega
   go_wp2_with fail
   refine (gU howc19.is howc9.is).mono ?_
   rw [aH rfl]
   rintro e wc26 ⟨rfl,hbwc26⟩
   replace cf3:=an cf3 hbwc26
   replace cf4:=an cf4 hbwc26
   replace cf5:=an cf5 hbwc26
   replace cf16:=an cf16 hbwc26
   replace cf17:=an cf17 hbwc26
   replace cf18:=an cf18 hbwc26
   replace howc7:=howc7.below hbwc26
   replace howc9:=howc9.below hbwc26
   replace howc19:=howc19.below hbwc26
   replace howc22:=howc22.below hbwc26
   replace hmwc25:=hmwc25.below hbwc26
   replace hbw : Below w.heap.size w wc26:=hbw.trans (hbwc26.mono hbw.size)
   have hzwc26 : wc25.heap.size ≤ wc26.heap.size:=hbwc26.size
   go_wp2_with fail
   refine (mD howc19 _ (by omega) (by omega) (by omega)).mono ?_
   rintro e wc27 ⟨rfl,hmwc27,hOwc27⟩
   replace cf3:=da cf3 hOwc27 (by omega)
   replace cf4:=da cf4 hOwc27 (by omega)
   replace cf5:=da cf5 hOwc27 (by omega)
   replace cf16:=da cf16 hOwc27 (by omega)
   replace cf17:=da cf17 hOwc27 (by omega)
   replace cf18:=da cf18 hOwc27 (by omega)
   replace howc7:=howc7.out hOwc27 (by omega)
   replace howc9:=howc9.out hOwc27 (by omega)
   replace howc22:=howc22.out hOwc27 (by omega)
   replace hmwc25:=hmwc25.out hOwc27 (by omega)
   replace hbw : Below w.heap.size w wc27:=hbw.trans (hOwc27.below (by omega))
   have hzwc27 : wc26.heap.size ≤ wc27.heap.size:=hOwc27.size
   go_wp2_with fail
   refine (iD _ hmwc27.is (by omega) (by omega) (by omega)).mono ?_
   rintro e wc28 ⟨rfl,hbwc28⟩
   replace cf3:=an cf3 hbwc28
   replace cf4:=an cf4 hbwc28
   replace cf5:=an cf5 hbwc28
   replace cf16:=an cf16 hbwc28
   replace cf17:=an cf17 hbwc28
   replace cf18:=an cf18 hbwc28
   replace howc7:=howc7.below hbwc28
   replace howc9:=howc9.below hbwc28
   replace howc22:=howc22.below hbwc28
   replace hmwc25:=hmwc25.below hbwc28
   replace hmwc27:=hmwc27.below hbwc28
   replace hbw : Below w.heap.size w wc28:=hbw.trans (hbwc28.mono hbw.size)
   have hzwc28 : wc27.heap.size ≤ wc28.heap.size:=hbwc28.size
   go_wp2_with fail
   refine (gB _ _ _ (h0.below hbw) (by omega)).mono ?_
   rintro e wc29 ⟨x30s0,x30n0,x30c0,x30s1,x30n1,x30c1,x30s2,x30n2,x30c2,rfl,howc29,hbwc29⟩
   replace howc29 : cK wc28.heap.size wc29.heap.size wc29 (.agg #[.slice x30s0 x30n0 x30c0,.slice x30s1 x30n1 x30c1,.slice x30s2 x30n2 x30c2]) g0:=howc29
   replace cf3:=an cf3 hbwc29
   replace cf4:=an cf4 hbwc29
   replace cf5:=an cf5 hbwc29
   replace cf16:=an cf16 hbwc29
   replace cf17:=an cf17 hbwc29
   replace cf18:=an cf18 hbwc29
   replace howc7:=howc7.below hbwc29
   replace howc9:=howc9.below hbwc29
   replace howc22:=howc22.below hbwc29
   replace hmwc25:=hmwc25.below hbwc29
   replace hmwc27:=hmwc27.below hbwc29
   replace hbw : Below w.heap.size w wc29:=hbw.trans (hbwc29.mono hbw.size)
   have hzwc29 : wc28.heap.size ≤ wc29.heap.size:=hbwc29.size
   go_wp2_with fail
   refine (iq _ _ _ howc29.is).mono ?_
   rintro e wc31 ⟨y32s0,y32n0,y32c0,rfl,howc31,hbwc31⟩
   replace howc31 : ax wc29.heap.size wc31.heap.size wc31 (.slice y32s0 y32n0 y32c0) (qwN g0):=howc31
   replace cf3:=an cf3 hbwc31
   replace cf4:=an cf4 hbwc31
   replace cf5:=an cf5 hbwc31
   replace cf16:=an cf16 hbwc31
   replace cf17:=an cf17 hbwc31
   replace cf18:=an cf18 hbwc31
   replace howc7:=howc7.below hbwc31
   replace howc9:=howc9.below hbwc31
   replace howc22:=howc22.below hbwc31
   replace hmwc25:=hmwc25.below hbwc31
   replace hmwc27:=hmwc27.below hbwc31
   replace howc29:=howc29.below hbwc31
   replace hbw : Below w.heap.size w wc31:=hbw.trans (hbwc31.mono hbw.size)
   have hzwc31 : wc29.heap.size ≤ wc31.heap.size:=hbwc31.size
   have hlimwc31 : y32n0 ≤ 1048576:=by have h1:=howc31.len;have h2:=mw g0;omega
   go_wp2_with fail
   refine (gU howc31.is howc9.is).mono ?_
   rw [aH rfl]
   rintro e wc33 ⟨rfl,hbwc33⟩
   replace cf3:=an cf3 hbwc33
   replace cf4:=an cf4 hbwc33
   replace cf5:=an cf5 hbwc33
   replace cf16:=an cf16 hbwc33
   replace cf17:=an cf17 hbwc33
   replace cf18:=an cf18 hbwc33
   replace howc7:=howc7.below hbwc33
   replace howc9:=howc9.below hbwc33
   replace howc22:=howc22.below hbwc33
   replace hmwc25:=hmwc25.below hbwc33
   replace hmwc27:=hmwc27.below hbwc33
   replace howc29:=howc29.below hbwc33
   replace howc31:=howc31.below hbwc33
   replace hbw : Below w.heap.size w wc33:=hbw.trans (hbwc33.mono hbw.size)
   have hzwc33 : wc31.heap.size ≤ wc33.heap.size:=hbwc33.size
   go_wp2_with fail
   refine (iD _ hmwc27.is (by omega) (by omega) (by omega)).mono ?_
   rintro e wc34 ⟨rfl,hbwc34⟩
   replace cf3:=an cf3 hbwc34
   replace cf4:=an cf4 hbwc34
   replace cf5:=an cf5 hbwc34
   replace cf16:=an cf16 hbwc34
   replace cf17:=an cf17 hbwc34
   replace cf18:=an cf18 hbwc34
   replace howc7:=howc7.below hbwc34
   replace howc9:=howc9.below hbwc34
   replace howc22:=howc22.below hbwc34
   replace hmwc25:=hmwc25.below hbwc34
   replace hmwc27:=hmwc27.below hbwc34
   replace howc29:=howc29.below hbwc34
   replace howc31:=howc31.below hbwc34
   replace hbw : Below w.heap.size w wc34:=hbw.trans (hbwc34.mono hbw.size)
   have hzwc34 : wc33.heap.size ≤ wc34.heap.size:=hbwc34.size
   go_wp2_with fail
   go_ret
   exact ⟨rfl,hbw⟩
 · have hz_0:=c9 (l:=1048576) (n:=szP g0) (by omega)
   go_enter Try.func5,Try.ntmps5
   have hbw : Below w.heap.size w w:=Below.refl _ _
   go_wp2_with fail
   generalize hqwm2 : w.alloc (.cells #[.slice a0s0 a0n0 a0c0,.slice a0s1 a0n1 a0c1,.slice a0s2 a0n2 a0c2] 27) = wm2
   have hywm2 : wm2.heap.size = w.heap.size + 1:=by rw [← hqwm2];simp
   have hbwm2 : Below w.heap.size w wm2:=by rw [← hqwm2];exact (by repeat' (first|(with_reducible exact Below.refl _ _)|(with_reducible apply Below.alloc)|(with_reducible apply Below.drew)|(with_reducible apply ah)|omega|(simp only [World.size_alloc,World.size_setCell,World.size_drew];omega)))
   have HQwm2_0 : Blk wm2 (w.heap.size) [.slice a0s0 a0n0 a0c0,.slice a0s1 a0n1 a0c1,.slice a0s2 a0n2 a0c2] 27:=by rw [← hqwm2];have hnew:=cL w [.slice a0s0 a0n0 a0c0,.slice a0s1 a0n1 a0c1,.slice a0s2 a0n2 a0c2] 27;(try simp only [World.size_alloc] at hnew);exact hnew
   have cf3 : wm2.cell? ⟨w.heap.size,0,none⟩ = some (.slice a0s0 a0n0 a0c0):=HQwm2_0.cell 0 rfl
   have cf4 : wm2.cell? ⟨w.heap.size,1,none⟩ = some (.slice a0s1 a0n1 a0c1):=HQwm2_0.cell 1 rfl
   have cf5 : wm2.cell? ⟨w.heap.size,2,none⟩ = some (.slice a0s2 a0n2 a0c2):=HQwm2_0.cell 2 rfl
   clear HQwm2_0
   clear hqwm2
   replace hbw : Below w.heap.size w wm2:=hbw.trans (hbwm2.mono hbw.size)
   have hzwm2 : w.heap.size ≤ wm2.heap.size:=hbwm2.size
   refine (lO _ _ _ _ (h0.below hbw) (by omega) (by omega)).mono ?_
   rw [hz_0]
   rintro e wc6 ⟨rfl,hbwc6⟩
   replace cf3:=an cf3 hbwc6
   replace cf4:=an cf4 hbwc6
   replace cf5:=an cf5 hbwc6
   replace hbw : Below w.heap.size w wc6:=hbw.trans (hbwc6.mono hbw.size)
   have hzwc6 : wm2.heap.size ≤ wc6.heap.size:=hbwc6.size
   go_wp2_with fail
   go_ret
   exact ⟨rfl,hbw⟩
open Go.ChangeShapes Go.WideShapes Go.ChangeAt
theorem rec : ∀ t ∈ Try.f5.params.toList,Try.prog.readableRec t = true ∧ t < Try.prog.types.size:=by
 rw [Try.params5]
 intro t ht
 simp only [List.mem_cons,List.not_mem_nil,or_false] at ht
 rcases ht with rfl
 all_goals exact ⟨by kernel_rfl,of_decide_eq_true (by kernel_rfl)⟩
set_option maxRecDepth 100000 in
theorem lifted (os : Os) (started : os.Started) (H : Type) (enc : TypeId × Value → H) :
  ReturnsInHanded {} Try.checked os 5 .any (Rows.fnExactQuasiWonSpec.pre6 enc Try.prog Try.f5 Rows.fnExactQuasiWonRow.domain false) (Rows.fnExactQuasiWonSpec.post enc Try.prog Try.f5 false true false false):=by
 refine returnsInHanded_of_change (C:=Try.checked) own started (by kernel_rfl) Try.func5
  (ChangeSpec.witness6 (enc:=enc) (C:=Try.checked) false ⟨#[],#[.agg #[.slice none 0 0,.slice none 0 0,.slice none 0 0]],[]⟩ 8 (by kernel_rfl) (by kernel_rfl) (by kernel_rfl) (by kernel_rfl)) ?_
 intro W base args ds gs before hval0 hW hcnd _
 have hval : ∀ (j : Nat) t v,Try.f5.params[j]? = some t → args[j]? = some v → Value.okWide Try.prog W .any base t v:=hval0
 have hW':=hW
 obtain ⟨p,q,hA0,hV,rfl,hfz,hnd⟩:=hW
 have hA : DataW.TrodAll enc Try.prog W 0 (fun _=>true) true Try.f5.params.toList args.toList ds p:=hA0
 rw [Try.params5] at hA hval
 obtain ⟨v0,vs0,d0,ds0,p0,q0,hargs,rfl,rfl,t0,r0⟩:=trodAll_cons hA
 obtain ⟨rfl,rfl,rfl⟩:=trodAll_nil r0
 obtain rfl : args = #[v0]:=by cases args;simp_all
 obtain ⟨rfl,rfl⟩:=trodVars_none hV
 obtain ⟨g0,h0,wf0⟩:=sE (hval 0 _ v0 rfl rfl) t0
 clear hA0 hval0
 refine (walk v0 g0 W h0 wf0).mono fun e W' ⟨he,hb⟩=>?_
 subst he
 exact ⟨_,rfl,nI ur rec (by kernel_rfl) rfl rfl hW' hb⟩
theorem over : Rows.fnExactQuasiWonRow.holds Try.pinned (OpenSpec.ofChange Rows.fnExactQuasiWonSpec) :=
 OpenClaim.holds_of_wide 5 Try.f5 rfl rfl rfl rfl rfl rfl rfl ⟨rfl,rfl,rfl,rfl,rfl⟩ rfl rfl rfl rfl rfl (by kernel_rfl) Try.func5 (by kernel_rfl)
  (of_decide_eq_true (by kernel_rfl)) (by unfold Func.isWrapper;first|(rw [if_pos (by decide +kernel)];kernel_rfl)|(rw [if_neg (by decide +kernel)];exact ⟨rfl,rfl⟩))
  (fun os started H enc _=>lifted os started H enc)
theorem proved : Rows.FnExactQuasiWonSaid:=over
#print axioms proved
end Go.Proofs.Ythjamlponejffaa.fnExactQuasiWon
