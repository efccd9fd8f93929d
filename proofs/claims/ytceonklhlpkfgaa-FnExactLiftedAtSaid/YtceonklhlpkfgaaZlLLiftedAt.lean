/-
  For every input the law FnExactLiftedAt returns true and leaves its arguments as they were: the program's LiftedAt returns what the reference's returns. No condition.
-/
import Derived.Test.YtceonklhlpkfgaaZlLaw
import Derived.Test.YtceonklhlpkfgaaZlLawII
import Derived.Test.YtceonklhlpkfgaaZlYE
import Derived.Test.YtceonklhlpkfgaaZlCb
namespace Go.Proofs.Ytceonklhlpkfgaa.fnExactLiftedAt
set_option linter.unusedVariables false
set_option linter.unusedSimpArgs false
open Go.RowKit
attribute [local go_sem ↓] Go.wp_at_zero Go.wp_at_succ
set_option maxRecDepth 100000 in
set_option maxHeartbeats 4000000 in
theorem walk (u0 : Value) (g0 : Pa) (u1 : Value) (g1 : List (List Int)) (g2 : Int) (w : World) (h0 : IsP w u0 g0) (h1 : cg w u1 g1) (wf0 : WfP g0) (wf1 : sC g1) (wf2 : (Lit.int .i64 g2).wf = true) : Calls Try.prog 3 #[u0,u1,.int .i64 g2] w (Bb w true):=by
 obtain ⟨a0s0,a0n0,a0c0,a0s1,a0n1,a0c1,a0s2,a0n2,a0c2,rfl⟩:=h0.form
 obtain ⟨a1s0,a1n0,a1c0,rfl⟩:=h1.form
 by_cases hn_0 : ((szP g0 : Nat) : Int) ≤ 1048576
 · have hz_0:=dC hn_0
   replace hn_0 : szP g0 ≤ 1048576 - (0):=by omega
   have hp_0 : (0 : Int) ≤ 1048576 - ((szP g0 : Nat) : Int):=by omega
   by_cases hn_1 : ((cm g1 : Nat) : Int) ≤ 1048576 - ((szP g0 : Nat) : Int)
   · have hz_1:=dC hn_1
     replace hn_1 : cm g1 ≤ 1048576 - (0 + szP g0):=by omega
     have hp_1 : (0 : Int) ≤ 1048576 - ((szP g0 : Nat) : Int) - ((cm g1 : Nat) : Int):=by omega
     go_enter Try.func3,Try.ntmps3
     have hbw : Below w.heap.size w w:=Below.refl _ _
     go_wp2_with fail
     generalize hqwm2 : w.alloc (.cells #[.slice a0s0 a0n0 a0c0,.slice a0s1 a0n1 a0c1,.slice a0s2 a0n2 a0c2] 27) = wm2
     have hywm2 : wm2.heap.size = w.heap.size + 1:=by rw [← hqwm2];simp
     have hbwm2 : Below w.heap.size w wm2:=by rw [← hqwm2];exact (by repeat' (first|(with_reducible exact Below.refl _ _)|(with_reducible apply Below.alloc)|(with_reducible apply Below.drew)|(with_reducible apply ah)|omega|(simp only [World.size_alloc,World.size_setCell,World.size_drew];omega)))
     have HQwm2_0 : Blk wm2 (w.heap.size) [.slice a0s0 a0n0 a0c0,.slice a0s1 a0n1 a0c1,.slice a0s2 a0n2 a0c2] 27:=by rw [← hqwm2];have hnew:=bK w [.slice a0s0 a0n0 a0c0,.slice a0s1 a0n1 a0c1,.slice a0s2 a0n2 a0c2] 27;(try simp only [World.size_alloc] at hnew);exact hnew
     have cf3 : wm2.cell? ⟨w.heap.size,0,none⟩ = some (.slice a0s0 a0n0 a0c0):=HQwm2_0.cell 0 rfl
     have cf4 : wm2.cell? ⟨w.heap.size,1,none⟩ = some (.slice a0s1 a0n1 a0c1):=HQwm2_0.cell 1 rfl
     have cf5 : wm2.cell? ⟨w.heap.size,2,none⟩ = some (.slice a0s2 a0n2 a0c2):=HQwm2_0.cell 2 rfl
     clear HQwm2_0
     clear hqwm2
     replace hbw : Below w.heap.size w wm2:=hbw.trans (hbwm2.mono hbw.size)
     have hzwm2 : w.heap.size ≤ wm2.heap.size:=hbwm2.size
     refine (jg _ _ _ _ (h0.below hbw) (by omega) (by omega)).mono ?_
     rw [hz_0]
     rintro e wc6 ⟨rfl,hbwc6⟩
     replace cf3:=aj cf3 hbwc6
     replace cf4:=aj cf4 hbwc6
     replace cf5:=aj cf5 hbwc6
     replace hbw : Below w.heap.size w wc6:=hbw.trans (hbwc6.mono hbw.size)
     have hzwc6 : wm2.heap.size ≤ wc6.heap.size:=hbwc6.size
     go_wp2_with fail
     refine (fl _ _ _ _ _ _ (q9 (h1.below hbw)) (by omega) (by omega)).mono ?_
     rw [hz_1]
     rintro e wc7 ⟨rfl,rfl⟩
     go_wp2_with fail
     refine (gh _ _ _ (h0.below hbw) (by omega)).mono ?_
     rintro e wc8 ⟨x9s0,x9n0,x9c0,x9s1,x9n1,x9c1,x9s2,x9n2,x9c2,rfl,howc8,hbwc8⟩
     replace howc8 : cD wc6.heap.size wc8.heap.size wc8 (.agg #[.slice x9s0 x9n0 x9c0,.slice x9s1 x9n1 x9c1,.slice x9s2 x9n2 x9c2]) g0:=howc8
     replace cf3:=aj cf3 hbwc8
     replace cf4:=aj cf4 hbwc8
     replace cf5:=aj cf5 hbwc8
     replace hbw : Below w.heap.size w wc8:=hbw.trans (hbwc8.mono hbw.size)
     have hzwc8 : wc6.heap.size ≤ wc8.heap.size:=hbwc8.size
     go_wp2_with fail
     refine (eG (h1.below hbw) (by omega)).mono ?_
     rintro e wc10 ⟨x11s0,x11n0,x11c0,rfl,howc10,hbwc10⟩
     replace howc10 : cC wc8.heap.size wc10.heap.size wc10 (.slice x11s0 x11n0 x11c0) g1:=howc10
     replace cf3:=aj cf3 hbwc10
     replace cf4:=aj cf4 hbwc10
     replace cf5:=aj cf5 hbwc10
     replace howc8:=howc8.below hbwc10
     replace hbw : Below w.heap.size w wc10:=hbw.trans (hbwc10.mono hbw.size)
     have hzwc10 : wc8.heap.size ≤ wc10.heap.size:=hbwc10.size
     go_wp2_with fail
     refine (lE _ _ _ _ _ _ howc8.is howc10.is).mono ?_
     rintro e wc12 ⟨y13s0,y13n0,y13c0,rfl,howc12,hbwc12⟩
     replace cf3:=aj cf3 hbwc12
     replace cf4:=aj cf4 hbwc12
     replace cf5:=aj cf5 hbwc12
     replace howc8:=howc8.below hbwc12
     replace howc10:=howc10.below hbwc12
     replace hbw : Below w.heap.size w wc12:=hbw.trans (hbwc12.mono hbw.size)
     have hzwc12 : wc10.heap.size ≤ wc12.heap.size:=hbwc12.size
     have hbSwc12 : Below wc12.heap.size wc12 wc12:=Below.refl _ _
     go_wp2_with fail
     refine (gh _ _ _ (h0.below hbw) (by omega)).mono ?_
     rintro e wc14 ⟨x15s0,x15n0,x15c0,x15s1,x15n1,x15c1,x15s2,x15n2,x15c2,rfl,howc14,hbwc14⟩
     replace howc14 : cD wc12.heap.size wc14.heap.size wc14 (.agg #[.slice x15s0 x15n0 x15c0,.slice x15s1 x15n1 x15c1,.slice x15s2 x15n2 x15c2]) g0:=howc14
     replace hbSwc12 : Below wc12.heap.size wc12 wc14:=hbSwc12.trans (hbwc14.mono hbSwc12.size)
     replace cf3:=aj cf3 hbwc14
     replace cf4:=aj cf4 hbwc14
     replace cf5:=aj cf5 hbwc14
     replace howc8:=howc8.below hbwc14
     replace howc10:=howc10.below hbwc14
     replace hbw : Below w.heap.size w wc14:=hbw.trans (hbwc14.mono hbw.size)
     have hzwc14 : wc12.heap.size ≤ wc14.heap.size:=hbwc14.size
     have hl17 : w.heap.size < wc14.heap.size:=by omega
     go_wp2_with fail
     generalize hqwm18 : wc14.alloc (.cells #[.slice x15s0 x15n0 x15c0,.slice x15s1 x15n1 x15c1,.slice x15s2 x15n2 x15c2] 33) = wm18
     have hywm18 : wm18.heap.size = wc14.heap.size + 1:=by rw [← hqwm18];simp
     have hbwm18 : Below wc14.heap.size wc14 wm18:=by rw [← hqwm18];exact (by repeat' (first|(with_reducible exact Below.refl _ _)|(with_reducible apply Below.alloc)|(with_reducible apply Below.drew)|(with_reducible apply ah)|omega|(simp only [World.size_alloc,World.size_setCell,World.size_drew];omega)))
     have HQwm18_0 : Blk wm18 (wc14.heap.size) [.slice x15s0 x15n0 x15c0,.slice x15s1 x15n1 x15c1,.slice x15s2 x15n2 x15c2] 33:=by rw [← hqwm18];have hnew:=bK wc14 [.slice x15s0 x15n0 x15c0,.slice x15s1 x15n1 x15c1,.slice x15s2 x15n2 x15c2] 33;(try simp only [World.size_alloc] at hnew);exact hnew
     have cf19 : wm18.cell? ⟨wc14.heap.size,0,none⟩ = some (.slice x15s0 x15n0 x15c0):=HQwm18_0.cell 0 rfl
     have cf20 : wm18.cell? ⟨wc14.heap.size,1,none⟩ = some (.slice x15s1 x15n1 x15c1):=HQwm18_0.cell 1 rfl
     have cf21 : wm18.cell? ⟨wc14.heap.size,2,none⟩ = some (.slice x15s2 x15n2 x15c2):=HQwm18_0.cell 2 rfl
     clear HQwm18_0
     clear hqwm18
     replace hbSwc12 : Below wc12.heap.size wc12 wm18:=hbSwc12.trans (hbwm18.mono hbSwc12.size)
     replace cf3:=aj cf3 hbwm18
     replace cf4:=aj cf4 hbwm18
     replace cf5:=aj cf5 hbwm18
     replace howc8:=howc8.below hbwm18
     replace howc10:=howc10.below hbwm18
     replace howc14:=howc14.below hbwm18
     replace hbw : Below w.heap.size w wm18:=hbw.trans (hbwm18.mono hbw.size)
     have hzwm18 : wc14.heap.size ≤ wm18.heap.size:=hbwm18.size
     refine (eG (h1.below hbw) (by omega)).mono ?_
     rintro e wc22 ⟨x23s0,x23n0,x23c0,rfl,howc22,hbwc22⟩
     replace howc22 : cC wm18.heap.size wc22.heap.size wc22 (.slice x23s0 x23n0 x23c0) g1:=howc22
     replace hbSwc12 : Below wc12.heap.size wc12 wc22:=hbSwc12.trans (hbwc22.mono hbSwc12.size)
     replace cf3:=aj cf3 hbwc22
     replace cf4:=aj cf4 hbwc22
     replace cf5:=aj cf5 hbwc22
     replace cf19:=aj cf19 hbwc22
     replace cf20:=aj cf20 hbwc22
     replace cf21:=aj cf21 hbwc22
     replace howc8:=howc8.below hbwc22
     replace howc10:=howc10.below hbwc22
     replace howc14:=howc14.below hbwc22
     replace hbw : Below w.heap.size w wc22:=hbw.trans (hbwc22.mono hbw.size)
     have hzwc22 : wm18.heap.size ≤ wc22.heap.size:=hbwc22.size
     go_wp2_with fail
     refine (ic _ _ _ _ _ _ howc14.is howc22.is).mono ?_
     rintro e wc24 ⟨y25s0,y25n0,y25c0,rfl,howc24,hbwc24⟩
     replace howc24 : cC wc22.heap.size wc24.heap.size wc24 (.slice y25s0 y25n0 y25c0) (liN g0 g1 g2):=howc24
     replace hbSwc12 : Below wc12.heap.size wc12 wc24:=hbSwc12.trans (hbwc24.mono hbSwc12.size)
     replace cf3:=aj cf3 hbwc24
     replace cf4:=aj cf4 hbwc24
     replace cf5:=aj cf5 hbwc24
     replace cf19:=aj cf19 hbwc24
     replace cf20:=aj cf20 hbwc24
     replace cf21:=aj cf21 hbwc24
     replace howc8:=howc8.below hbwc24
     replace howc10:=howc10.below hbwc24
     replace howc14:=howc14.below hbwc24
     replace howc22:=howc22.below hbwc24
     replace hbw : Below w.heap.size w wc24:=hbw.trans (hbwc24.mono hbw.size)
     have hzwc24 : wc22.heap.size ≤ wc24.heap.size:=hbwc24.size
     have hlimwc24 : cm (liN g0 g1 g2) ≤ 1048576:=oM g0 g1 g2
     go_wp2_with fail
     refine (eH howc24.is (howc12.below hbSwc12)).mono ?_
     rw [aA rfl]
     rintro e wc26 ⟨rfl,hbwc26⟩
     replace hbSwc12 : Below wc12.heap.size wc12 wc26:=hbSwc12.trans (hbwc26.mono hbSwc12.size)
     replace cf3:=aj cf3 hbwc26
     replace cf4:=aj cf4 hbwc26
     replace cf5:=aj cf5 hbwc26
     replace cf19:=aj cf19 hbwc26
     replace cf20:=aj cf20 hbwc26
     replace cf21:=aj cf21 hbwc26
     replace howc8:=howc8.below hbwc26
     replace howc10:=howc10.below hbwc26
     replace howc14:=howc14.below hbwc26
     replace howc22:=howc22.below hbwc26
     replace howc24:=howc24.below hbwc26
     replace hbw : Below w.heap.size w wc26:=hbw.trans (hbwc26.mono hbw.size)
     have hzwc26 : wc24.heap.size ≤ wc26.heap.size:=hbwc26.size
     go_wp2_with fail
     go_region_held3 (fun w'=>w'.cell? ⟨wc14.heap.size,0,none⟩ = some (.slice x15s0 x15n0 x15c0) ∧ w'.cell? ⟨wc14.heap.size,1,none⟩ = some (.slice x15s1 x15n1 x15c1) ∧ w'.cell? ⟨wc14.heap.size,2,none⟩ = some (.slice x15s2 x15n2 x15c2) ∧ w'.cell? ⟨w.heap.size,0,none⟩ = some (.slice a0s0 a0n0 a0c0) ∧ w'.cell? ⟨w.heap.size,1,none⟩ = some (.slice a0s1 a0n1 a0c1) ∧ w'.cell? ⟨w.heap.size,2,none⟩ = some (.slice a0s2 a0n2 a0c2)) (first|exact ⟨cf19,cf20,cf21,cf3,cf4,cf5⟩|go_keep)
      (first
       | (go_at_call 8; (with_reducible refine (gh _ _ _ ((h0.below hbw)).drew (by omega)).mono ?_); rintro e wc27 ⟨x28s0, x28n0, x28c0, x28s1, x28n1, x28c1, x28s2, x28n2, x28c2, rfl, howc27, hbwc27⟩; replace howc27 : cD wc26.heap.size wc27.heap.size wc27 (.agg #[.slice x28s0 x28n0 x28c0, .slice x28s1 x28n1 x28c1, .slice x28s2 x28n2 x28c2]) g0 := howc27; replace hbwc27 : Below wc26.heap.size wc26 wc27 := (bg _).trans hbwc27; replace hbSwc12 : Below wc12.heap.size wc12 wc27 := hbSwc12.trans (hbwc27.mono hbSwc12.size); replace cf3 := aj cf3 hbwc27; replace cf4 := aj cf4 hbwc27; replace cf5 := aj cf5 hbwc27; replace cf19 := aj cf19 hbwc27; replace cf20 := aj cf20 hbwc27; replace cf21 := aj cf21 hbwc27; replace howc8 := howc8.below hbwc27; replace howc10 := howc10.below hbwc27; replace howc14 := howc14.below hbwc27; replace howc22 := howc22.below hbwc27; replace howc24 := howc24.below hbwc27; replace hbw : Below w.heap.size w wc27 := hbw.trans (hbwc27.mono hbw.size); have hzwc27 : wc26.heap.size ≤ wc27.heap.size := hbwc27.size)
       | (go_at_call 12; (with_reducible refine (oQ _ _ _ _ _ howc14.is howc27.is).mono ?_); rw [aA rfl]; rintro e wc29 ⟨rfl, hbwc29⟩; replace hbSwc12 : Below wc12.heap.size wc12 wc29 := hbSwc12.trans (hbwc29.mono hbSwc12.size); replace cf3 := aj cf3 hbwc29; replace cf4 := aj cf4 hbwc29; replace cf5 := aj cf5 hbwc29; replace cf19 := aj cf19 hbwc29; replace cf20 := aj cf20 hbwc29; replace cf21 := aj cf21 hbwc29; replace howc8 := howc8.below hbwc29; replace howc10 := howc10.below hbwc29; replace howc14 := howc14.below hbwc29; replace howc22 := howc22.below hbwc29; replace howc24 := howc24.below hbwc29; replace howc27 := howc27.below hbwc29; replace hbw : Below w.heap.size w wc29 := hbw.trans (hbwc29.mono hbw.size); have hzwc29 : wc27.heap.size ≤ wc29.heap.size := hbwc29.size))
     go_wp2_with fail
     refine (eG (h1.below hbw) (by omega)).mono ?_
     rintro e wc30 ⟨x31s0,x31n0,x31c0,rfl,howc30,hbwc30⟩
     replace howc30 : cC wc29.heap.size wc30.heap.size wc30 (.slice x31s0 x31n0 x31c0) g1:=howc30
     replace hbSwc12 : Below wc12.heap.size wc12 wc30:=hbSwc12.trans (hbwc30.mono hbSwc12.size)
     replace cf3:=aj cf3 hbwc30
     replace cf4:=aj cf4 hbwc30
     replace cf5:=aj cf5 hbwc30
     replace cf19:=aj cf19 hbwc30
     replace cf20:=aj cf20 hbwc30
     replace cf21:=aj cf21 hbwc30
     replace howc8:=howc8.below hbwc30
     replace howc10:=howc10.below hbwc30
     replace howc14:=howc14.below hbwc30
     replace howc22:=howc22.below hbwc30
     replace howc24:=howc24.below hbwc30
     replace howc27:=howc27.below hbwc30
     replace hbw : Below w.heap.size w wc30:=hbw.trans (hbwc30.mono hbw.size)
     have hzwc30 : wc29.heap.size ≤ wc30.heap.size:=hbwc30.size
     go_wp2_with fail
     refine (eH howc22.is howc30.is).mono ?_
     rw [aA rfl]
     rintro e wc32 ⟨rfl,hbwc32⟩
     replace hbSwc12 : Below wc12.heap.size wc12 wc32:=hbSwc12.trans (hbwc32.mono hbSwc12.size)
     replace cf3:=aj cf3 hbwc32
     replace cf4:=aj cf4 hbwc32
     replace cf5:=aj cf5 hbwc32
     replace cf19:=aj cf19 hbwc32
     replace cf20:=aj cf20 hbwc32
     replace cf21:=aj cf21 hbwc32
     replace howc8:=howc8.below hbwc32
     replace howc10:=howc10.below hbwc32
     replace howc14:=howc14.below hbwc32
     replace howc22:=howc22.below hbwc32
     replace howc24:=howc24.below hbwc32
     replace howc27:=howc27.below hbwc32
     replace howc30:=howc30.below hbwc32
     replace hbw : Below w.heap.size w wc32:=hbw.trans (hbwc32.mono hbw.size)
     have hzwc32 : wc30.heap.size ≤ wc32.heap.size:=hbwc32.size
     go_wp2_with fail
     refine (mm howc14 _ (by omega) (by omega) (by omega) (by omega)).mono ?_
     rintro e wc33 ⟨rfl,hmwc33,hOwc33⟩
     replace hbSwc12 : Below wc12.heap.size wc12 wc33:=hbSwc12.trans (hOwc33.below (by omega))
     replace cf3:=bQ cf3 hOwc33 (by omega)
     replace cf4:=bQ cf4 hOwc33 (by omega)
     replace cf5:=bQ cf5 hOwc33 (by omega)
     replace cf19:=bQ cf19 hOwc33 (by omega)
     replace cf20:=bQ cf20 hOwc33 (by omega)
     replace cf21:=bQ cf21 hOwc33 (by omega)
     replace howc8:=howc8.out hOwc33 (by omega)
     replace howc10:=howc10.out hOwc33 (by omega)
     replace howc22:=howc22.out hOwc33 (by omega)
     replace howc24:=howc24.out hOwc33 (by omega)
     replace howc27:=howc27.out hOwc33 (by omega)
     replace howc30:=howc30.out hOwc33 (by omega)
     replace hbw : Below w.heap.size w wc33:=hbw.trans (hOwc33.below (by omega))
     have hzwc33 : wc32.heap.size ≤ wc33.heap.size:=hOwc33.size
     have hlfwc33 : lG g0 ≤ szP g0:=by unfold lG fp bL szP szA cm;omega
     go_wp2_with fail
     refine (gI howc22 _ (by omega) (by omega) (by omega) (by omega)).mono ?_
     rintro e wc34 ⟨rfl,hmwc34,hOwc34⟩
     replace hbSwc12 : Below wc12.heap.size wc12 wc34:=hbSwc12.trans (hOwc34.below (by omega))
     replace cf3:=bQ cf3 hOwc34 (by omega)
     replace cf4:=bQ cf4 hOwc34 (by omega)
     replace cf5:=bQ cf5 hOwc34 (by omega)
     replace cf19:=bQ cf19 hOwc34 (by omega)
     replace cf20:=bQ cf20 hOwc34 (by omega)
     replace cf21:=bQ cf21 hOwc34 (by omega)
     replace howc8:=howc8.out hOwc34 (by omega)
     replace howc10:=howc10.out hOwc34 (by omega)
     replace howc24:=howc24.out hOwc34 (by omega)
     replace howc27:=howc27.out hOwc34 (by omega)
     replace howc30:=howc30.out hOwc34 (by omega)
     replace hmwc33:=hmwc33.out hOwc34 (by omega)
     replace hbw : Below w.heap.size w wc34:=hbw.trans (hOwc34.below (by omega))
     have hzwc34 : wc33.heap.size ≤ wc34.heap.size:=hOwc34.size
     have hlfwc34 : bL g1 ≤ cm g1:=by unfold bL cm;omega
     go_wp2_with fail
     refine (eH howc24.is (howc12.below hbSwc12)).mono ?_
     rw [aA rfl]
     rintro e wc35 ⟨rfl,hbwc35⟩
     replace hbSwc12 : Below wc12.heap.size wc12 wc35:=hbSwc12.trans (hbwc35.mono hbSwc12.size)
     replace cf3:=aj cf3 hbwc35
     replace cf4:=aj cf4 hbwc35
     replace cf5:=aj cf5 hbwc35
     replace cf19:=aj cf19 hbwc35
     replace cf20:=aj cf20 hbwc35
     replace cf21:=aj cf21 hbwc35
     replace howc8:=howc8.below hbwc35
     replace howc10:=howc10.below hbwc35
     replace howc24:=howc24.below hbwc35
     replace howc27:=howc27.below hbwc35
     replace howc30:=howc30.below hbwc35
     replace hmwc33:=hmwc33.below hbwc35
     replace hmwc34:=hmwc34.below hbwc35
     replace hbw : Below w.heap.size w wc35:=hbw.trans (hbwc35.mono hbw.size)
     have hzwc35 : wc34.heap.size ≤ wc35.heap.size:=hbwc35.size
     go_wp2_with fail
     refine (gI howc24 _ (by omega) (by omega) (by omega) (by omega)).mono ?_
     rintro e wc36 ⟨rfl,hmwc36,hOwc36⟩
     replace hbSwc12 : Below wc12.heap.size wc12 wc36:=hbSwc12.trans (hOwc36.below (by omega))
     replace cf3:=bQ cf3 hOwc36 (by omega)
     replace cf4:=bQ cf4 hOwc36 (by omega)
     replace cf5:=bQ cf5 hOwc36 (by omega)
     replace cf19:=bQ cf19 hOwc36 (by omega)
     replace cf20:=bQ cf20 hOwc36 (by omega)
     replace cf21:=bQ cf21 hOwc36 (by omega)
     replace howc8:=howc8.out hOwc36 (by omega)
     replace howc10:=howc10.out hOwc36 (by omega)
     replace howc27:=howc27.out hOwc36 (by omega)
     replace howc30:=howc30.out hOwc36 (by omega)
     replace hmwc33:=hmwc33.out hOwc36 (by omega)
     replace hmwc34:=hmwc34.out hOwc36 (by omega)
     replace hbw : Below w.heap.size w wc36:=hbw.trans (hOwc36.below (by omega))
     have hzwc36 : wc35.heap.size ≤ wc36.heap.size:=hOwc36.size
     go_wp2_with fail
     refine (gJ _ _ hmwc36.is (by omega) (by omega) (by omega)).mono ?_
     rintro e wc37 ⟨rfl,hbwc37⟩
     replace hbSwc12 : Below wc12.heap.size wc12 wc37:=hbSwc12.trans (hbwc37.mono hbSwc12.size)
     replace cf3:=aj cf3 hbwc37
     replace cf4:=aj cf4 hbwc37
     replace cf5:=aj cf5 hbwc37
     replace cf19:=aj cf19 hbwc37
     replace cf20:=aj cf20 hbwc37
     replace cf21:=aj cf21 hbwc37
     replace howc8:=howc8.below hbwc37
     replace howc10:=howc10.below hbwc37
     replace howc27:=howc27.below hbwc37
     replace howc30:=howc30.below hbwc37
     replace hmwc33:=hmwc33.below hbwc37
     replace hmwc34:=hmwc34.below hbwc37
     replace hmwc36:=hmwc36.below hbwc37
     replace hbw : Below w.heap.size w wc37:=hbw.trans (hbwc37.mono hbw.size)
     have hzwc37 : wc36.heap.size ≤ wc37.heap.size:=hbwc37.size
     go_wp2_with fail
     refine (gh _ _ _ (h0.below hbw) (by omega)).mono ?_
     rintro e wc38 ⟨x39s0,x39n0,x39c0,x39s1,x39n1,x39c1,x39s2,x39n2,x39c2,rfl,howc38,hbwc38⟩
     replace howc38 : cD wc37.heap.size wc38.heap.size wc38 (.agg #[.slice x39s0 x39n0 x39c0,.slice x39s1 x39n1 x39c1,.slice x39s2 x39n2 x39c2]) g0:=howc38
     replace hbSwc12 : Below wc12.heap.size wc12 wc38:=hbSwc12.trans (hbwc38.mono hbSwc12.size)
     replace cf3:=aj cf3 hbwc38
     replace cf4:=aj cf4 hbwc38
     replace cf5:=aj cf5 hbwc38
     replace cf19:=aj cf19 hbwc38
     replace cf20:=aj cf20 hbwc38
     replace cf21:=aj cf21 hbwc38
     replace howc8:=howc8.below hbwc38
     replace howc10:=howc10.below hbwc38
     replace howc27:=howc27.below hbwc38
     replace howc30:=howc30.below hbwc38
     replace hmwc33:=hmwc33.below hbwc38
     replace hmwc34:=hmwc34.below hbwc38
     replace hmwc36:=hmwc36.below hbwc38
     replace hbw : Below w.heap.size w wc38:=hbw.trans (hbwc38.mono hbw.size)
     have hzwc38 : wc37.heap.size ≤ wc38.heap.size:=hbwc38.size
     go_wp2_with fail
     refine (eG (h1.below hbw) (by omega)).mono ?_
     rintro e wc40 ⟨x41s0,x41n0,x41c0,rfl,howc40,hbwc40⟩
     replace howc40 : cC wc38.heap.size wc40.heap.size wc40 (.slice x41s0 x41n0 x41c0) g1:=howc40
     replace hbSwc12 : Below wc12.heap.size wc12 wc40:=hbSwc12.trans (hbwc40.mono hbSwc12.size)
     replace cf3:=aj cf3 hbwc40
     replace cf4:=aj cf4 hbwc40
     replace cf5:=aj cf5 hbwc40
     replace cf19:=aj cf19 hbwc40
     replace cf20:=aj cf20 hbwc40
     replace cf21:=aj cf21 hbwc40
     replace howc8:=howc8.below hbwc40
     replace howc10:=howc10.below hbwc40
     replace howc27:=howc27.below hbwc40
     replace howc30:=howc30.below hbwc40
     replace hmwc33:=hmwc33.below hbwc40
     replace hmwc34:=hmwc34.below hbwc40
     replace hmwc36:=hmwc36.below hbwc40
     replace howc38:=howc38.below hbwc40
     replace hbw : Below w.heap.size w wc40:=hbw.trans (hbwc40.mono hbw.size)
     have hzwc40 : wc38.heap.size ≤ wc40.heap.size:=hbwc40.size
     go_wp2_with fail
     refine (ic _ _ _ _ _ _ howc38.is howc40.is).mono ?_
     rintro e wc42 ⟨y43s0,y43n0,y43c0,rfl,howc42,hbwc42⟩
     replace howc42 : cC wc40.heap.size wc42.heap.size wc42 (.slice y43s0 y43n0 y43c0) (liN g0 g1 g2):=howc42
     replace hbSwc12 : Below wc12.heap.size wc12 wc42:=hbSwc12.trans (hbwc42.mono hbSwc12.size)
     replace cf3:=aj cf3 hbwc42
     replace cf4:=aj cf4 hbwc42
     replace cf5:=aj cf5 hbwc42
     replace cf19:=aj cf19 hbwc42
     replace cf20:=aj cf20 hbwc42
     replace cf21:=aj cf21 hbwc42
     replace howc8:=howc8.below hbwc42
     replace howc10:=howc10.below hbwc42
     replace howc27:=howc27.below hbwc42
     replace howc30:=howc30.below hbwc42
     replace hmwc33:=hmwc33.below hbwc42
     replace hmwc34:=hmwc34.below hbwc42
     replace hmwc36:=hmwc36.below hbwc42
     replace howc38:=howc38.below hbwc42
     replace howc40:=howc40.below hbwc42
     replace hbw : Below w.heap.size w wc42:=hbw.trans (hbwc42.mono hbw.size)
     have hzwc42 : wc40.heap.size ≤ wc42.heap.size:=hbwc42.size
     have hlimwc42 : cm (liN g0 g1 g2) ≤ 1048576:=oM g0 g1 g2
     go_wp2_with fail
     refine (eH howc42.is (howc12.below hbSwc12)).mono ?_
     rw [aA rfl]
     rintro e wc44 ⟨rfl,hbwc44⟩
     replace hbSwc12 : Below wc12.heap.size wc12 wc44:=hbSwc12.trans (hbwc44.mono hbSwc12.size)
     replace cf3:=aj cf3 hbwc44
     replace cf4:=aj cf4 hbwc44
     replace cf5:=aj cf5 hbwc44
     replace cf19:=aj cf19 hbwc44
     replace cf20:=aj cf20 hbwc44
     replace cf21:=aj cf21 hbwc44
     replace howc8:=howc8.below hbwc44
     replace howc10:=howc10.below hbwc44
     replace howc27:=howc27.below hbwc44
     replace howc30:=howc30.below hbwc44
     replace hmwc33:=hmwc33.below hbwc44
     replace hmwc34:=hmwc34.below hbwc44
     replace hmwc36:=hmwc36.below hbwc44
     replace howc38:=howc38.below hbwc44
     replace howc40:=howc40.below hbwc44
     replace howc42:=howc42.below hbwc44
     replace hbw : Below w.heap.size w wc44:=hbw.trans (hbwc44.mono hbw.size)
     have hzwc44 : wc42.heap.size ≤ wc44.heap.size:=hbwc44.size
     go_wp2_with fail
     refine (gJ _ _ hmwc36.is (by omega) (by omega) (by omega)).mono ?_
     rintro e wc45 ⟨rfl,hbwc45⟩
     replace hbSwc12 : Below wc12.heap.size wc12 wc45:=hbSwc12.trans (hbwc45.mono hbSwc12.size)
     replace cf3:=aj cf3 hbwc45
     replace cf4:=aj cf4 hbwc45
     replace cf5:=aj cf5 hbwc45
     replace cf19:=aj cf19 hbwc45
     replace cf20:=aj cf20 hbwc45
     replace cf21:=aj cf21 hbwc45
     replace howc8:=howc8.below hbwc45
     replace howc10:=howc10.below hbwc45
     replace howc27:=howc27.below hbwc45
     replace howc30:=howc30.below hbwc45
     replace hmwc33:=hmwc33.below hbwc45
     replace hmwc34:=hmwc34.below hbwc45
     replace hmwc36:=hmwc36.below hbwc45
     replace howc38:=howc38.below hbwc45
     replace howc40:=howc40.below hbwc45
     replace howc42:=howc42.below hbwc45
     replace hbw : Below w.heap.size w wc45:=hbw.trans (hbwc45.mono hbw.size)
     have hzwc45 : wc44.heap.size ≤ wc45.heap.size:=hbwc45.size
     go_wp2_with fail
     go_ret
     exact ⟨rfl,hbw⟩
   · have hz_1:=cN (l:=1048576 - ((szP g0 : Nat) : Int)) (n:=cm g1) (by omega)
     go_enter Try.func3,Try.ntmps3
     have hbw : Below w.heap.size w w:=Below.refl _ _
     go_wp2_with fail
     generalize hqwm2 : w.alloc (.cells #[.slice a0s0 a0n0 a0c0,.slice a0s1 a0n1 a0c1,.slice a0s2 a0n2 a0c2] 27) = wm2
     have hywm2 : wm2.heap.size = w.heap.size + 1:=by rw [← hqwm2];simp
     have hbwm2 : Below w.heap.size w wm2:=by rw [← hqwm2];exact (by repeat' (first|(with_reducible exact Below.refl _ _)|(with_reducible apply Below.alloc)|(with_reducible apply Below.drew)|(with_reducible apply ah)|omega|(simp only [World.size_alloc,World.size_setCell,World.size_drew];omega)))
     have HQwm2_0 : Blk wm2 (w.heap.size) [.slice a0s0 a0n0 a0c0,.slice a0s1 a0n1 a0c1,.slice a0s2 a0n2 a0c2] 27:=by rw [← hqwm2];have hnew:=bK w [.slice a0s0 a0n0 a0c0,.slice a0s1 a0n1 a0c1,.slice a0s2 a0n2 a0c2] 27;(try simp only [World.size_alloc] at hnew);exact hnew
     have cf3 : wm2.cell? ⟨w.heap.size,0,none⟩ = some (.slice a0s0 a0n0 a0c0):=HQwm2_0.cell 0 rfl
     have cf4 : wm2.cell? ⟨w.heap.size,1,none⟩ = some (.slice a0s1 a0n1 a0c1):=HQwm2_0.cell 1 rfl
     have cf5 : wm2.cell? ⟨w.heap.size,2,none⟩ = some (.slice a0s2 a0n2 a0c2):=HQwm2_0.cell 2 rfl
     clear HQwm2_0
     clear hqwm2
     replace hbw : Below w.heap.size w wm2:=hbw.trans (hbwm2.mono hbw.size)
     have hzwm2 : w.heap.size ≤ wm2.heap.size:=hbwm2.size
     refine (jg _ _ _ _ (h0.below hbw) (by omega) (by omega)).mono ?_
     rw [hz_0]
     rintro e wc6 ⟨rfl,hbwc6⟩
     replace cf3:=aj cf3 hbwc6
     replace cf4:=aj cf4 hbwc6
     replace cf5:=aj cf5 hbwc6
     replace hbw : Below w.heap.size w wc6:=hbw.trans (hbwc6.mono hbw.size)
     have hzwc6 : wm2.heap.size ≤ wc6.heap.size:=hbwc6.size
     go_wp2_with fail
     refine (fl _ _ _ _ _ _ (q9 (h1.below hbw)) (by omega) (by omega)).mono ?_
     rw [hz_1]
     rintro e wc7 ⟨rfl,rfl⟩
     go_wp2_with fail
     go_ret
     exact ⟨rfl,hbw⟩
 · have hz_0:=cN (l:=1048576) (n:=szP g0) (by omega)
   go_enter Try.func3,Try.ntmps3
   have hbw : Below w.heap.size w w:=Below.refl _ _
   go_wp2_with fail
   generalize hqwm2 : w.alloc (.cells #[.slice a0s0 a0n0 a0c0,.slice a0s1 a0n1 a0c1,.slice a0s2 a0n2 a0c2] 27) = wm2
   have hywm2 : wm2.heap.size = w.heap.size + 1:=by rw [← hqwm2];simp
   have hbwm2 : Below w.heap.size w wm2:=by rw [← hqwm2];exact (by repeat' (first|(with_reducible exact Below.refl _ _)|(with_reducible apply Below.alloc)|(with_reducible apply Below.drew)|(with_reducible apply ah)|omega|(simp only [World.size_alloc,World.size_setCell,World.size_drew];omega)))
   have HQwm2_0 : Blk wm2 (w.heap.size) [.slice a0s0 a0n0 a0c0,.slice a0s1 a0n1 a0c1,.slice a0s2 a0n2 a0c2] 27:=by rw [← hqwm2];have hnew:=bK w [.slice a0s0 a0n0 a0c0,.slice a0s1 a0n1 a0c1,.slice a0s2 a0n2 a0c2] 27;(try simp only [World.size_alloc] at hnew);exact hnew
   have cf3 : wm2.cell? ⟨w.heap.size,0,none⟩ = some (.slice a0s0 a0n0 a0c0):=HQwm2_0.cell 0 rfl
   have cf4 : wm2.cell? ⟨w.heap.size,1,none⟩ = some (.slice a0s1 a0n1 a0c1):=HQwm2_0.cell 1 rfl
   have cf5 : wm2.cell? ⟨w.heap.size,2,none⟩ = some (.slice a0s2 a0n2 a0c2):=HQwm2_0.cell 2 rfl
   clear HQwm2_0
   clear hqwm2
   replace hbw : Below w.heap.size w wm2:=hbw.trans (hbwm2.mono hbw.size)
   have hzwm2 : w.heap.size ≤ wm2.heap.size:=hbwm2.size
   refine (jg _ _ _ _ (h0.below hbw) (by omega) (by omega)).mono ?_
   rw [hz_0]
   rintro e wc6 ⟨rfl,hbwc6⟩
   replace cf3:=aj cf3 hbwc6
   replace cf4:=aj cf4 hbwc6
   replace cf5:=aj cf5 hbwc6
   replace hbw : Below w.heap.size w wc6:=hbw.trans (hbwc6.mono hbw.size)
   have hzwc6 : wm2.heap.size ≤ wc6.heap.size:=hbwc6.size
   go_wp2_with fail
   go_ret
   exact ⟨rfl,hbw⟩
open Go.ChangeShapes Go.WideShapes Go.ChangeAt
theorem rec : ∀ t ∈ Try.f3.params.toList,Try.prog.readableRec t = true ∧ t < Try.prog.types.size:=by
 rw [Try.params3]
 intro t ht
 simp only [List.mem_cons,List.not_mem_nil,or_false] at ht
 rcases ht with rfl|rfl|rfl
 all_goals exact ⟨by kernel_rfl,of_decide_eq_true (by kernel_rfl)⟩
set_option maxRecDepth 100000 in
theorem lifted (os : Os) (started : os.Started) (H : Type) (enc : TypeId × Value → H) :
  ReturnsInHanded {} Try.checked os 3 .any (Rows.fnExactLiftedAtSpec.pre6 enc Try.prog Try.f3 Rows.fnExactLiftedAtRow.domain false) (Rows.fnExactLiftedAtSpec.post enc Try.prog Try.f3 false true false false):=by
 refine returnsInHanded_of_change (C:=Try.checked) own started (by kernel_rfl) Try.func3
  (ChangeSpec.witness6 (enc:=enc) (C:=Try.checked) false ⟨#[],#[.agg #[.slice none 0 0,.slice none 0 0,.slice none 0 0],.slice none 0 0,.int .i64 0],[]⟩ 8 (by kernel_rfl) (by kernel_rfl) (by kernel_rfl) (by kernel_rfl)) ?_
 intro W base args ds gs before hval0 hW hcnd _
 have hval : ∀ (j : Nat) t v,Try.f3.params[j]? = some t → args[j]? = some v → Value.okWide Try.prog W .any base t v:=hval0
 have hW':=hW
 obtain ⟨p,q,hA0,hV,rfl,hfz,hnd⟩:=hW
 have hA : DataW.TrodAll enc Try.prog W 0 (fun _=>true) true Try.f3.params.toList args.toList ds p:=hA0
 rw [Try.params3] at hA hval
 obtain ⟨v0,vs0,d0,ds0,p0,q0,hargs,rfl,rfl,t0,r0⟩:=trodAll_cons hA
 obtain ⟨v1,vs1,d1,ds1,p1,q1,rfl,rfl,rfl,t1,r1⟩:=trodAll_cons r0
 obtain ⟨v2,vs2,d2,ds2,p2,q2,rfl,rfl,rfl,t2,r2⟩:=trodAll_cons r1
 obtain ⟨rfl,rfl,rfl⟩:=trodAll_nil r2
 obtain rfl : args = #[v0,v1,v2]:=by cases args;simp_all
 obtain ⟨rfl,rfl⟩:=trodVars_none hV
 obtain ⟨g0,h0,wf0⟩:=q8 (hval 0 _ v0 rfl rfl) t0
 obtain ⟨g1,h1,wf1⟩:=oT (hval 1 _ v1 rfl rfl) t1
 obtain ⟨g2,rfl,-,-,wf2⟩:=open_int Try.underlying2 (hval 2 _ v2 rfl rfl) t2
 clear hA0 hval0
 refine (walk v0 g0 v1 g1 g2 W h0 h1 wf0 wf1 wf2).mono fun e W' ⟨he,hb⟩=>?_
 subst he
 exact ⟨_,rfl,nh sB rec (by kernel_rfl) rfl rfl hW' hb⟩
theorem over : Rows.fnExactLiftedAtRow.holds Try.pinned (OpenSpec.ofChange Rows.fnExactLiftedAtSpec) :=
 OpenClaim.holds_of_wide 3 Try.f3 rfl rfl rfl rfl rfl rfl rfl ⟨rfl,rfl,rfl,rfl,rfl⟩ rfl rfl rfl rfl rfl (by kernel_rfl) Try.func3 (by kernel_rfl)
  (of_decide_eq_true (by kernel_rfl)) (by unfold Func.isWrapper;first|(rw [if_pos (by decide +kernel)];kernel_rfl)|(rw [if_neg (by decide +kernel)];exact ⟨rfl,rfl⟩))
  (fun os started H enc _=>lifted os started H enc)
theorem proved : Rows.FnExactLiftedAtSaid:=over
#print axioms proved
end Go.Proofs.Ytceonklhlpkfgaa.fnExactLiftedAt
