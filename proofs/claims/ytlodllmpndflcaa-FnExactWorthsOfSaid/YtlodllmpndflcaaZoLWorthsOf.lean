/-
  For every input the law FnExactWorthsOf returns true and leaves its arguments as they were: the program's WorthsOf returns what the reference's returns. No condition.
-/
import Derived.Test.YtlodllmpndflcaaZoLaw
import Derived.Test.YtlodllmpndflcaaZoZG
import Derived.Test.YtlodllmpndflcaaZoCb
namespace Go.Proofs.Ytlodllmpndflcaa.fnExactWorthsOf
set_option linter.unusedVariables false
set_option linter.unusedSimpArgs false
open Go.RowKit
attribute [local go_sem ↓] Go.wp_at_zero Go.wp_at_succ
set_option maxRecDepth 100000 in
set_option maxHeartbeats 4000000 in
theorem walk (u0 : Value) (g0 : Pa) (u1 : Value) (g1 : List Int) (w : World) (h0 : IsP w u0 g0) (h1 : IsI w u1 g1) (wf0 : WfP g0) (wf1 : Wf g1) : Calls Try.prog 3 #[u0,u1] w (Bb w true):=by
 obtain ⟨a0s0,a0n0,a0c0,a0s1,a0n1,a0c1,a0s2,a0n2,a0c2,rfl⟩:=h0.form
 obtain ⟨a1s0,a1n0,a1c0,rfl⟩:=h1.form
 have hl1 : a1n0 ≤ 9223372036854775807:=h1.len_le
 have he1:=Lib.hid h1.len_eq
 by_cases hn_1 : a1n0 ≤ 1048576
 · by_cases hn_0 : ((szP g0 : Nat) : Int) ≤ 1048576
   · have hz_0:=eK hn_0
     replace hn_0 : szP g0 ≤ 1048576 - (0):=by omega
     have hp_0 : (0 : Int) ≤ 1048576 - ((szP g0 : Nat) : Int):=by omega
     go_enter Try.func3,Try.ntmps3
     have hbw : Below w.heap.size w w:=Below.refl _ _
     go_wp2_with fail
     generalize hqwm2 : w.alloc (.cells #[.slice a0s0 a0n0 a0c0,.slice a0s1 a0n1 a0c1,.slice a0s2 a0n2 a0c2] 27) = wm2
     have hywm2 : wm2.heap.size = w.heap.size + 1:=by rw [← hqwm2];simp
     have hbwm2 : Below w.heap.size w wm2:=by rw [← hqwm2];exact (by repeat' (first|(with_reducible exact Below.refl _ _)|(with_reducible apply Below.alloc)|(with_reducible apply Below.drew)|(with_reducible apply ap)|omega|(simp only [World.size_alloc,World.size_setCell,World.size_drew];omega)))
     have HQwm2_0 : Blk wm2 (w.heap.size) [.slice a0s0 a0n0 a0c0,.slice a0s1 a0n1 a0c1,.slice a0s2 a0n2 a0c2] 27:=by rw [← hqwm2];have hnew:=eM w [.slice a0s0 a0n0 a0c0,.slice a0s1 a0n1 a0c1,.slice a0s2 a0n2 a0c2] 27;(try simp only [World.size_alloc] at hnew);exact hnew
     have cf3 : wm2.cell? ⟨w.heap.size,0,none⟩ = some (.slice a0s0 a0n0 a0c0):=HQwm2_0.cell 0 rfl
     have cf4 : wm2.cell? ⟨w.heap.size,1,none⟩ = some (.slice a0s1 a0n1 a0c1):=HQwm2_0.cell 1 rfl
     have cf5 : wm2.cell? ⟨w.heap.size,2,none⟩ = some (.slice a0s2 a0n2 a0c2):=HQwm2_0.cell 2 rfl
     clear HQwm2_0
     clear hqwm2
     replace hbw : Below w.heap.size w wm2:=hbw.trans (hbwm2.mono hbw.size)
     have hzwm2 : w.heap.size ≤ wm2.heap.size:=hbwm2.size
     refine (na _ _ _ _ (h0.below hbw) (by omega) (by omega)).mono ?_
     rw [hz_0]
     rintro e wc6 ⟨rfl,hbwc6⟩
     replace cf3:=aq cf3 hbwc6
     replace cf4:=aq cf4 hbwc6
     replace cf5:=aq cf5 hbwc6
     replace hbw : Below w.heap.size w wc6:=hbw.trans (hbwc6.mono hbw.size)
     have hzwc6 : wm2.heap.size ≤ wc6.heap.size:=hbwc6.size
     go_wp2_with fail
     refine (iy _ _ _ (h0.below hbw) (by omega)).mono ?_
     rintro e wc7 ⟨x8s0,x8n0,x8c0,x8s1,x8n1,x8c1,x8s2,x8n2,x8c2,rfl,howc7,hbwc7⟩
     replace howc7 : dc wc6.heap.size wc7.heap.size wc7 (.agg #[.slice x8s0 x8n0 x8c0,.slice x8s1 x8n1 x8c1,.slice x8s2 x8n2 x8c2]) g0:=howc7
     replace cf3:=aq cf3 hbwc7
     replace cf4:=aq cf4 hbwc7
     replace cf5:=aq cf5 hbwc7
     replace hbw : Below w.heap.size w wc7:=hbw.trans (hbwc7.mono hbw.size)
     have hzwc7 : wc6.heap.size ≤ wc7.heap.size:=hbwc7.size
     go_wp2_with fail
     refine (gj (h1.below hbw) hn_1).mono ?_
     rintro e wc9 ⟨x10s0,x10n0,x10c0,rfl,howc9,hbwc9⟩
     replace howc9 : bj wc7.heap.size wc9.heap.size wc9 (.slice x10s0 x10n0 x10c0) g1:=howc9
     replace cf3:=aq cf3 hbwc9
     replace cf4:=aq cf4 hbwc9
     replace cf5:=aq cf5 hbwc9
     replace howc7:=howc7.below hbwc9
     replace hbw : Below w.heap.size w wc9:=hbw.trans (hbwc9.mono hbw.size)
     have hzwc9 : wc7.heap.size ≤ wc9.heap.size:=hbwc9.size
     go_wp2_with fail
     refine (mV _ _ _ _ _ howc7.is howc9.is).mono ?_
     rintro e wc11 ⟨y12s0,y12n0,y12c0,rfl,howc11,hbwc11⟩
     replace cf3:=aq cf3 hbwc11
     replace cf4:=aq cf4 hbwc11
     replace cf5:=aq cf5 hbwc11
     replace howc7:=howc7.below hbwc11
     replace howc9:=howc9.below hbwc11
     replace hbw : Below w.heap.size w wc11:=hbw.trans (hbwc11.mono hbw.size)
     have hzwc11 : wc9.heap.size ≤ wc11.heap.size:=hbwc11.size
     have hbSwc11 : Below wc11.heap.size wc11 wc11:=Below.refl _ _
     go_wp2_with fail
     refine (iy _ _ _ (h0.below hbw) (by omega)).mono ?_
     rintro e wc13 ⟨x14s0,x14n0,x14c0,x14s1,x14n1,x14c1,x14s2,x14n2,x14c2,rfl,howc13,hbwc13⟩
     replace howc13 : dc wc11.heap.size wc13.heap.size wc13 (.agg #[.slice x14s0 x14n0 x14c0,.slice x14s1 x14n1 x14c1,.slice x14s2 x14n2 x14c2]) g0:=howc13
     replace hbSwc11 : Below wc11.heap.size wc11 wc13:=hbSwc11.trans (hbwc13.mono hbSwc11.size)
     replace cf3:=aq cf3 hbwc13
     replace cf4:=aq cf4 hbwc13
     replace cf5:=aq cf5 hbwc13
     replace howc7:=howc7.below hbwc13
     replace howc9:=howc9.below hbwc13
     replace hbw : Below w.heap.size w wc13:=hbw.trans (hbwc13.mono hbw.size)
     have hzwc13 : wc11.heap.size ≤ wc13.heap.size:=hbwc13.size
     have hl16 : w.heap.size < wc13.heap.size:=by omega
     go_wp2_with fail
     generalize hqwm17 : wc13.alloc (.cells #[.slice x14s0 x14n0 x14c0,.slice x14s1 x14n1 x14c1,.slice x14s2 x14n2 x14c2] 33) = wm17
     have hywm17 : wm17.heap.size = wc13.heap.size + 1:=by rw [← hqwm17];simp
     have hbwm17 : Below wc13.heap.size wc13 wm17:=by rw [← hqwm17];exact (by repeat' (first|(with_reducible exact Below.refl _ _)|(with_reducible apply Below.alloc)|(with_reducible apply Below.drew)|(with_reducible apply ap)|omega|(simp only [World.size_alloc,World.size_setCell,World.size_drew];omega)))
     have HQwm17_0 : Blk wm17 (wc13.heap.size) [.slice x14s0 x14n0 x14c0,.slice x14s1 x14n1 x14c1,.slice x14s2 x14n2 x14c2] 33:=by rw [← hqwm17];have hnew:=eM wc13 [.slice x14s0 x14n0 x14c0,.slice x14s1 x14n1 x14c1,.slice x14s2 x14n2 x14c2] 33;(try simp only [World.size_alloc] at hnew);exact hnew
     have cf18 : wm17.cell? ⟨wc13.heap.size,0,none⟩ = some (.slice x14s0 x14n0 x14c0):=HQwm17_0.cell 0 rfl
     have cf19 : wm17.cell? ⟨wc13.heap.size,1,none⟩ = some (.slice x14s1 x14n1 x14c1):=HQwm17_0.cell 1 rfl
     have cf20 : wm17.cell? ⟨wc13.heap.size,2,none⟩ = some (.slice x14s2 x14n2 x14c2):=HQwm17_0.cell 2 rfl
     clear HQwm17_0
     clear hqwm17
     replace hbSwc11 : Below wc11.heap.size wc11 wm17:=hbSwc11.trans (hbwm17.mono hbSwc11.size)
     replace cf3:=aq cf3 hbwm17
     replace cf4:=aq cf4 hbwm17
     replace cf5:=aq cf5 hbwm17
     replace howc7:=howc7.below hbwm17
     replace howc9:=howc9.below hbwm17
     replace howc13:=howc13.below hbwm17
     replace hbw : Below w.heap.size w wm17:=hbw.trans (hbwm17.mono hbw.size)
     have hzwm17 : wc13.heap.size ≤ wm17.heap.size:=hbwm17.size
     refine (gj (h1.below hbw) hn_1).mono ?_
     rintro e wc21 ⟨x22s0,x22n0,x22c0,rfl,howc21,hbwc21⟩
     replace howc21 : bj wm17.heap.size wc21.heap.size wc21 (.slice x22s0 x22n0 x22c0) g1:=howc21
     replace hbSwc11 : Below wc11.heap.size wc11 wc21:=hbSwc11.trans (hbwc21.mono hbSwc11.size)
     replace cf3:=aq cf3 hbwc21
     replace cf4:=aq cf4 hbwc21
     replace cf5:=aq cf5 hbwc21
     replace cf18:=aq cf18 hbwc21
     replace cf19:=aq cf19 hbwc21
     replace cf20:=aq cf20 hbwc21
     replace howc7:=howc7.below hbwc21
     replace howc9:=howc9.below hbwc21
     replace howc13:=howc13.below hbwc21
     replace hbw : Below w.heap.size w wc21:=hbw.trans (hbwc21.mono hbw.size)
     have hzwc21 : wm17.heap.size ≤ wc21.heap.size:=hbwc21.size
     go_wp2_with fail
     refine (jl _ _ _ _ _ howc13.is howc21.is).mono ?_
     rintro e wc23 ⟨y24s0,y24n0,y24c0,rfl,howc23,hbwc23⟩
     replace howc23 : dF wc21.heap.size wc23.heap.size wc23 (.slice y24s0 y24n0 y24c0) (wsN g0 g1):=howc23
     replace hbSwc11 : Below wc11.heap.size wc11 wc23:=hbSwc11.trans (hbwc23.mono hbSwc11.size)
     replace cf3:=aq cf3 hbwc23
     replace cf4:=aq cf4 hbwc23
     replace cf5:=aq cf5 hbwc23
     replace cf18:=aq cf18 hbwc23
     replace cf19:=aq cf19 hbwc23
     replace cf20:=aq cf20 hbwc23
     replace howc7:=howc7.below hbwc23
     replace howc9:=howc9.below hbwc23
     replace howc13:=howc13.below hbwc23
     replace howc21:=howc21.below hbwc23
     replace hbw : Below w.heap.size w wc23:=hbw.trans (hbwc23.mono hbw.size)
     have hzwc23 : wc21.heap.size ≤ wc23.heap.size:=hbwc23.size
     go_wp2_with fail
     refine (hU howc23.is (howc11.below hbSwc11)).mono ?_
     rw [aA rfl]
     rintro e wc25 ⟨rfl,hbwc25⟩
     replace hbSwc11 : Below wc11.heap.size wc11 wc25:=hbSwc11.trans (hbwc25.mono hbSwc11.size)
     replace cf3:=aq cf3 hbwc25
     replace cf4:=aq cf4 hbwc25
     replace cf5:=aq cf5 hbwc25
     replace cf18:=aq cf18 hbwc25
     replace cf19:=aq cf19 hbwc25
     replace cf20:=aq cf20 hbwc25
     replace howc7:=howc7.below hbwc25
     replace howc9:=howc9.below hbwc25
     replace howc13:=howc13.below hbwc25
     replace howc21:=howc21.below hbwc25
     replace howc23:=howc23.below hbwc25
     replace hbw : Below w.heap.size w wc25:=hbw.trans (hbwc25.mono hbw.size)
     have hzwc25 : wc23.heap.size ≤ wc25.heap.size:=hbwc25.size
     go_wp2_with fail
     go_region_held3 (fun w'=>w'.cell? ⟨wc13.heap.size,0,none⟩ = some (.slice x14s0 x14n0 x14c0) ∧ w'.cell? ⟨wc13.heap.size,1,none⟩ = some (.slice x14s1 x14n1 x14c1) ∧ w'.cell? ⟨wc13.heap.size,2,none⟩ = some (.slice x14s2 x14n2 x14c2) ∧ w'.cell? ⟨w.heap.size,0,none⟩ = some (.slice a0s0 a0n0 a0c0) ∧ w'.cell? ⟨w.heap.size,1,none⟩ = some (.slice a0s1 a0n1 a0c1) ∧ w'.cell? ⟨w.heap.size,2,none⟩ = some (.slice a0s2 a0n2 a0c2)) (first|exact ⟨cf18,cf19,cf20,cf3,cf4,cf5⟩|go_keep)
      (first
       | (go_at_call 6; (with_reducible refine (iy _ _ _ ((h0.below hbw)).drew (by omega)).mono ?_); rintro e wc26 ⟨x27s0, x27n0, x27c0, x27s1, x27n1, x27c1, x27s2, x27n2, x27c2, rfl, howc26, hbwc26⟩; replace howc26 : dc wc25.heap.size wc26.heap.size wc26 (.agg #[.slice x27s0 x27n0 x27c0, .slice x27s1 x27n1 x27c1, .slice x27s2 x27n2 x27c2]) g0 := howc26; replace hbwc26 : Below wc25.heap.size wc25 wc26 := (bW _).trans hbwc26; replace hbSwc11 : Below wc11.heap.size wc11 wc26 := hbSwc11.trans (hbwc26.mono hbSwc11.size); replace cf3 := aq cf3 hbwc26; replace cf4 := aq cf4 hbwc26; replace cf5 := aq cf5 hbwc26; replace cf18 := aq cf18 hbwc26; replace cf19 := aq cf19 hbwc26; replace cf20 := aq cf20 hbwc26; replace howc7 := howc7.below hbwc26; replace howc9 := howc9.below hbwc26; replace howc13 := howc13.below hbwc26; replace howc21 := howc21.below hbwc26; replace howc23 := howc23.below hbwc26; replace hbw : Below w.heap.size w wc26 := hbw.trans (hbwc26.mono hbw.size); have hzwc26 : wc25.heap.size ≤ wc26.heap.size := hbwc26.size)
       | (go_at_call 10; (with_reducible refine (rg _ _ _ _ _ howc13.is howc26.is).mono ?_); rw [aA rfl]; rintro e wc28 ⟨rfl, hbwc28⟩; replace hbSwc11 : Below wc11.heap.size wc11 wc28 := hbSwc11.trans (hbwc28.mono hbSwc11.size); replace cf3 := aq cf3 hbwc28; replace cf4 := aq cf4 hbwc28; replace cf5 := aq cf5 hbwc28; replace cf18 := aq cf18 hbwc28; replace cf19 := aq cf19 hbwc28; replace cf20 := aq cf20 hbwc28; replace howc7 := howc7.below hbwc28; replace howc9 := howc9.below hbwc28; replace howc13 := howc13.below hbwc28; replace howc21 := howc21.below hbwc28; replace howc23 := howc23.below hbwc28; replace howc26 := howc26.below hbwc28; replace hbw : Below w.heap.size w wc28 := hbw.trans (hbwc28.mono hbw.size); have hzwc28 : wc26.heap.size ≤ wc28.heap.size := hbwc28.size))
     go_wp2_with fail
     refine (gj (h1.below hbw) hn_1).mono ?_
     rintro e wc29 ⟨x30s0,x30n0,x30c0,rfl,howc29,hbwc29⟩
     replace howc29 : bj wc28.heap.size wc29.heap.size wc29 (.slice x30s0 x30n0 x30c0) g1:=howc29
     replace hbSwc11 : Below wc11.heap.size wc11 wc29:=hbSwc11.trans (hbwc29.mono hbSwc11.size)
     replace cf3:=aq cf3 hbwc29
     replace cf4:=aq cf4 hbwc29
     replace cf5:=aq cf5 hbwc29
     replace cf18:=aq cf18 hbwc29
     replace cf19:=aq cf19 hbwc29
     replace cf20:=aq cf20 hbwc29
     replace howc7:=howc7.below hbwc29
     replace howc9:=howc9.below hbwc29
     replace howc13:=howc13.below hbwc29
     replace howc21:=howc21.below hbwc29
     replace howc23:=howc23.below hbwc29
     replace howc26:=howc26.below hbwc29
     replace hbw : Below w.heap.size w wc29:=hbw.trans (hbwc29.mono hbw.size)
     have hzwc29 : wc28.heap.size ≤ wc29.heap.size:=hbwc29.size
     go_wp2_with fail
     refine (pq howc21.is howc29.is).mono ?_
     rw [aA rfl]
     rintro e wc31 ⟨rfl,hbwc31⟩
     replace hbSwc11 : Below wc11.heap.size wc11 wc31:=hbSwc11.trans (hbwc31.mono hbSwc11.size)
     replace cf3:=aq cf3 hbwc31
     replace cf4:=aq cf4 hbwc31
     replace cf5:=aq cf5 hbwc31
     replace cf18:=aq cf18 hbwc31
     replace cf19:=aq cf19 hbwc31
     replace cf20:=aq cf20 hbwc31
     replace howc7:=howc7.below hbwc31
     replace howc9:=howc9.below hbwc31
     replace howc13:=howc13.below hbwc31
     replace howc21:=howc21.below hbwc31
     replace howc23:=howc23.below hbwc31
     replace howc26:=howc26.below hbwc31
     replace howc29:=howc29.below hbwc31
     replace hbw : Below w.heap.size w wc31:=hbw.trans (hbwc31.mono hbw.size)
     have hzwc31 : wc29.heap.size ≤ wc31.heap.size:=hbwc31.size
     go_wp2_with fail
     refine (nT howc13 _ (by omega) (by omega) (by omega) (by omega)).mono ?_
     rintro e wc32 ⟨rfl,hmwc32,hOwc32⟩
     replace hbSwc11 : Below wc11.heap.size wc11 wc32:=hbSwc11.trans (hOwc32.below (by omega))
     replace cf3:=cI cf3 hOwc32 (by omega)
     replace cf4:=cI cf4 hOwc32 (by omega)
     replace cf5:=cI cf5 hOwc32 (by omega)
     replace cf18:=cI cf18 hOwc32 (by omega)
     replace cf19:=cI cf19 hOwc32 (by omega)
     replace cf20:=cI cf20 hOwc32 (by omega)
     replace howc7:=howc7.out hOwc32 (by omega)
     replace howc9:=howc9.out hOwc32 (by omega)
     replace howc21:=howc21.out hOwc32 (by omega)
     replace howc23:=howc23.out hOwc32 (by omega)
     replace howc26:=howc26.out hOwc32 (by omega)
     replace howc29:=howc29.out hOwc32 (by omega)
     replace hbw : Below w.heap.size w wc32:=hbw.trans (hOwc32.below (by omega))
     have hzwc32 : wc31.heap.size ≤ wc32.heap.size:=hOwc32.size
     have hlfwc32 : mZ g0 ≤ szP g0:=by unfold mZ gg dO szP szA gJ;omega
     go_wp2_with fail
     have hkiwc33 : x22n0 ≤ 1048576:=by have h1:=howc21.len;have h2:=he1.out;omega
     refine (nQ howc21 _ (by omega) (by omega) (by omega)).mono ?_
     rintro e wc33 ⟨rfl,hmwc33,hOwc33⟩
     replace hbSwc11 : Below wc11.heap.size wc11 wc33:=hbSwc11.trans (hOwc33.below (by omega))
     replace cf3:=cI cf3 hOwc33 (by omega)
     replace cf4:=cI cf4 hOwc33 (by omega)
     replace cf5:=cI cf5 hOwc33 (by omega)
     replace cf18:=cI cf18 hOwc33 (by omega)
     replace cf19:=cI cf19 hOwc33 (by omega)
     replace cf20:=cI cf20 hOwc33 (by omega)
     replace howc7:=howc7.out hOwc33 (by omega)
     replace howc9:=howc9.out hOwc33 (by omega)
     replace howc23:=howc23.out hOwc33 (by omega)
     replace howc26:=howc26.out hOwc33 (by omega)
     replace howc29:=howc29.out hOwc33 (by omega)
     replace hmwc32:=hmwc32.out hOwc33 (by omega)
     replace hbw : Below w.heap.size w wc33:=hbw.trans (hOwc33.below (by omega))
     have hzwc33 : wc32.heap.size ≤ wc33.heap.size:=hOwc33.size
     go_wp2_with fail
     refine (hU howc23.is (howc11.below hbSwc11)).mono ?_
     rw [aA rfl]
     rintro e wc34 ⟨rfl,hbwc34⟩
     replace hbSwc11 : Below wc11.heap.size wc11 wc34:=hbSwc11.trans (hbwc34.mono hbSwc11.size)
     replace cf3:=aq cf3 hbwc34
     replace cf4:=aq cf4 hbwc34
     replace cf5:=aq cf5 hbwc34
     replace cf18:=aq cf18 hbwc34
     replace cf19:=aq cf19 hbwc34
     replace cf20:=aq cf20 hbwc34
     replace howc7:=howc7.below hbwc34
     replace howc9:=howc9.below hbwc34
     replace howc23:=howc23.below hbwc34
     replace howc26:=howc26.below hbwc34
     replace howc29:=howc29.below hbwc34
     replace hmwc32:=hmwc32.below hbwc34
     replace hmwc33:=hmwc33.below hbwc34
     replace hbw : Below w.heap.size w wc34:=hbw.trans (hbwc34.mono hbw.size)
     have hzwc34 : wc33.heap.size ≤ wc34.heap.size:=hbwc34.size
     go_wp2_with fail
     refine (mR howc23 _ (by omega) (by omega)).mono ?_
     rintro e wc35 ⟨rfl,hmwc35,hOwc35⟩
     replace hbSwc11 : Below wc11.heap.size wc11 wc35:=hbSwc11.trans (hOwc35.below (by omega))
     replace cf3:=cI cf3 hOwc35 (by omega)
     replace cf4:=cI cf4 hOwc35 (by omega)
     replace cf5:=cI cf5 hOwc35 (by omega)
     replace cf18:=cI cf18 hOwc35 (by omega)
     replace cf19:=cI cf19 hOwc35 (by omega)
     replace cf20:=cI cf20 hOwc35 (by omega)
     replace howc7:=howc7.out hOwc35 (by omega)
     replace howc9:=howc9.out hOwc35 (by omega)
     replace howc26:=howc26.out hOwc35 (by omega)
     replace howc29:=howc29.out hOwc35 (by omega)
     replace hmwc32:=hmwc32.out hOwc35 (by omega)
     replace hmwc33:=hmwc33.out hOwc35 (by omega)
     replace hbw : Below w.heap.size w wc35:=hbw.trans (hOwc35.below (by omega))
     have hzwc35 : wc34.heap.size ≤ wc35.heap.size:=hOwc35.size
     go_wp2_with fail
     refine (jk _ _ hmwc35.is (by omega) (by omega)).mono ?_
     rintro e wc36 ⟨rfl,hbwc36⟩
     replace hbSwc11 : Below wc11.heap.size wc11 wc36:=hbSwc11.trans (hbwc36.mono hbSwc11.size)
     replace cf3:=aq cf3 hbwc36
     replace cf4:=aq cf4 hbwc36
     replace cf5:=aq cf5 hbwc36
     replace cf18:=aq cf18 hbwc36
     replace cf19:=aq cf19 hbwc36
     replace cf20:=aq cf20 hbwc36
     replace howc7:=howc7.below hbwc36
     replace howc9:=howc9.below hbwc36
     replace howc26:=howc26.below hbwc36
     replace howc29:=howc29.below hbwc36
     replace hmwc32:=hmwc32.below hbwc36
     replace hmwc33:=hmwc33.below hbwc36
     replace hmwc35:=hmwc35.below hbwc36
     replace hbw : Below w.heap.size w wc36:=hbw.trans (hbwc36.mono hbw.size)
     have hzwc36 : wc35.heap.size ≤ wc36.heap.size:=hbwc36.size
     go_wp2_with fail
     refine (iy _ _ _ (h0.below hbw) (by omega)).mono ?_
     rintro e wc37 ⟨x38s0,x38n0,x38c0,x38s1,x38n1,x38c1,x38s2,x38n2,x38c2,rfl,howc37,hbwc37⟩
     replace howc37 : dc wc36.heap.size wc37.heap.size wc37 (.agg #[.slice x38s0 x38n0 x38c0,.slice x38s1 x38n1 x38c1,.slice x38s2 x38n2 x38c2]) g0:=howc37
     replace hbSwc11 : Below wc11.heap.size wc11 wc37:=hbSwc11.trans (hbwc37.mono hbSwc11.size)
     replace cf3:=aq cf3 hbwc37
     replace cf4:=aq cf4 hbwc37
     replace cf5:=aq cf5 hbwc37
     replace cf18:=aq cf18 hbwc37
     replace cf19:=aq cf19 hbwc37
     replace cf20:=aq cf20 hbwc37
     replace howc7:=howc7.below hbwc37
     replace howc9:=howc9.below hbwc37
     replace howc26:=howc26.below hbwc37
     replace howc29:=howc29.below hbwc37
     replace hmwc32:=hmwc32.below hbwc37
     replace hmwc33:=hmwc33.below hbwc37
     replace hmwc35:=hmwc35.below hbwc37
     replace hbw : Below w.heap.size w wc37:=hbw.trans (hbwc37.mono hbw.size)
     have hzwc37 : wc36.heap.size ≤ wc37.heap.size:=hbwc37.size
     go_wp2_with fail
     refine (gj (h1.below hbw) hn_1).mono ?_
     rintro e wc39 ⟨x40s0,x40n0,x40c0,rfl,howc39,hbwc39⟩
     replace howc39 : bj wc37.heap.size wc39.heap.size wc39 (.slice x40s0 x40n0 x40c0) g1:=howc39
     replace hbSwc11 : Below wc11.heap.size wc11 wc39:=hbSwc11.trans (hbwc39.mono hbSwc11.size)
     replace cf3:=aq cf3 hbwc39
     replace cf4:=aq cf4 hbwc39
     replace cf5:=aq cf5 hbwc39
     replace cf18:=aq cf18 hbwc39
     replace cf19:=aq cf19 hbwc39
     replace cf20:=aq cf20 hbwc39
     replace howc7:=howc7.below hbwc39
     replace howc9:=howc9.below hbwc39
     replace howc26:=howc26.below hbwc39
     replace howc29:=howc29.below hbwc39
     replace hmwc32:=hmwc32.below hbwc39
     replace hmwc33:=hmwc33.below hbwc39
     replace hmwc35:=hmwc35.below hbwc39
     replace howc37:=howc37.below hbwc39
     replace hbw : Below w.heap.size w wc39:=hbw.trans (hbwc39.mono hbw.size)
     have hzwc39 : wc37.heap.size ≤ wc39.heap.size:=hbwc39.size
     go_wp2_with fail
     refine (jl _ _ _ _ _ howc37.is howc39.is).mono ?_
     rintro e wc41 ⟨y42s0,y42n0,y42c0,rfl,howc41,hbwc41⟩
     replace howc41 : dF wc39.heap.size wc41.heap.size wc41 (.slice y42s0 y42n0 y42c0) (wsN g0 g1):=howc41
     replace hbSwc11 : Below wc11.heap.size wc11 wc41:=hbSwc11.trans (hbwc41.mono hbSwc11.size)
     replace cf3:=aq cf3 hbwc41
     replace cf4:=aq cf4 hbwc41
     replace cf5:=aq cf5 hbwc41
     replace cf18:=aq cf18 hbwc41
     replace cf19:=aq cf19 hbwc41
     replace cf20:=aq cf20 hbwc41
     replace howc7:=howc7.below hbwc41
     replace howc9:=howc9.below hbwc41
     replace howc26:=howc26.below hbwc41
     replace howc29:=howc29.below hbwc41
     replace hmwc32:=hmwc32.below hbwc41
     replace hmwc33:=hmwc33.below hbwc41
     replace hmwc35:=hmwc35.below hbwc41
     replace howc37:=howc37.below hbwc41
     replace howc39:=howc39.below hbwc41
     replace hbw : Below w.heap.size w wc41:=hbw.trans (hbwc41.mono hbw.size)
     have hzwc41 : wc39.heap.size ≤ wc41.heap.size:=hbwc41.size
     go_wp2_with fail
     refine (hU howc41.is (howc11.below hbSwc11)).mono ?_
     rw [aA rfl]
     rintro e wc43 ⟨rfl,hbwc43⟩
     replace hbSwc11 : Below wc11.heap.size wc11 wc43:=hbSwc11.trans (hbwc43.mono hbSwc11.size)
     replace cf3:=aq cf3 hbwc43
     replace cf4:=aq cf4 hbwc43
     replace cf5:=aq cf5 hbwc43
     replace cf18:=aq cf18 hbwc43
     replace cf19:=aq cf19 hbwc43
     replace cf20:=aq cf20 hbwc43
     replace howc7:=howc7.below hbwc43
     replace howc9:=howc9.below hbwc43
     replace howc26:=howc26.below hbwc43
     replace howc29:=howc29.below hbwc43
     replace hmwc32:=hmwc32.below hbwc43
     replace hmwc33:=hmwc33.below hbwc43
     replace hmwc35:=hmwc35.below hbwc43
     replace howc37:=howc37.below hbwc43
     replace howc39:=howc39.below hbwc43
     replace howc41:=howc41.below hbwc43
     replace hbw : Below w.heap.size w wc43:=hbw.trans (hbwc43.mono hbw.size)
     have hzwc43 : wc41.heap.size ≤ wc43.heap.size:=hbwc43.size
     go_wp2_with fail
     refine (jk _ _ hmwc35.is (by omega) (by omega)).mono ?_
     rintro e wc44 ⟨rfl,hbwc44⟩
     replace hbSwc11 : Below wc11.heap.size wc11 wc44:=hbSwc11.trans (hbwc44.mono hbSwc11.size)
     replace cf3:=aq cf3 hbwc44
     replace cf4:=aq cf4 hbwc44
     replace cf5:=aq cf5 hbwc44
     replace cf18:=aq cf18 hbwc44
     replace cf19:=aq cf19 hbwc44
     replace cf20:=aq cf20 hbwc44
     replace howc7:=howc7.below hbwc44
     replace howc9:=howc9.below hbwc44
     replace howc26:=howc26.below hbwc44
     replace howc29:=howc29.below hbwc44
     replace hmwc32:=hmwc32.below hbwc44
     replace hmwc33:=hmwc33.below hbwc44
     replace hmwc35:=hmwc35.below hbwc44
     replace howc37:=howc37.below hbwc44
     replace howc39:=howc39.below hbwc44
     replace howc41:=howc41.below hbwc44
     replace hbw : Below w.heap.size w wc44:=hbw.trans (hbwc44.mono hbw.size)
     have hzwc44 : wc43.heap.size ≤ wc44.heap.size:=hbwc44.size
     go_wp2_with fail
     go_ret
     exact ⟨rfl,hbw⟩
   · have hz_0:=dC (l:=1048576) (n:=szP g0) (by omega)
     go_enter Try.func3,Try.ntmps3
     have hbw : Below w.heap.size w w:=Below.refl _ _
     go_wp2_with fail
     generalize hqwm2 : w.alloc (.cells #[.slice a0s0 a0n0 a0c0,.slice a0s1 a0n1 a0c1,.slice a0s2 a0n2 a0c2] 27) = wm2
     have hywm2 : wm2.heap.size = w.heap.size + 1:=by rw [← hqwm2];simp
     have hbwm2 : Below w.heap.size w wm2:=by rw [← hqwm2];exact (by repeat' (first|(with_reducible exact Below.refl _ _)|(with_reducible apply Below.alloc)|(with_reducible apply Below.drew)|(with_reducible apply ap)|omega|(simp only [World.size_alloc,World.size_setCell,World.size_drew];omega)))
     have HQwm2_0 : Blk wm2 (w.heap.size) [.slice a0s0 a0n0 a0c0,.slice a0s1 a0n1 a0c1,.slice a0s2 a0n2 a0c2] 27:=by rw [← hqwm2];have hnew:=eM w [.slice a0s0 a0n0 a0c0,.slice a0s1 a0n1 a0c1,.slice a0s2 a0n2 a0c2] 27;(try simp only [World.size_alloc] at hnew);exact hnew
     have cf3 : wm2.cell? ⟨w.heap.size,0,none⟩ = some (.slice a0s0 a0n0 a0c0):=HQwm2_0.cell 0 rfl
     have cf4 : wm2.cell? ⟨w.heap.size,1,none⟩ = some (.slice a0s1 a0n1 a0c1):=HQwm2_0.cell 1 rfl
     have cf5 : wm2.cell? ⟨w.heap.size,2,none⟩ = some (.slice a0s2 a0n2 a0c2):=HQwm2_0.cell 2 rfl
     clear HQwm2_0
     clear hqwm2
     replace hbw : Below w.heap.size w wm2:=hbw.trans (hbwm2.mono hbw.size)
     have hzwm2 : w.heap.size ≤ wm2.heap.size:=hbwm2.size
     refine (na _ _ _ _ (h0.below hbw) (by omega) (by omega)).mono ?_
     rw [hz_0]
     rintro e wc6 ⟨rfl,hbwc6⟩
     replace cf3:=aq cf3 hbwc6
     replace cf4:=aq cf4 hbwc6
     replace cf5:=aq cf5 hbwc6
     replace hbw : Below w.heap.size w wc6:=hbw.trans (hbwc6.mono hbw.size)
     have hzwc6 : wm2.heap.size ≤ wc6.heap.size:=hbwc6.size
     go_wp2_with fail
     go_ret
     exact ⟨rfl,hbw⟩
 · go_enter Try.func3,Try.ntmps3
   have hbw : Below w.heap.size w w:=Below.refl _ _
   go_wp2_with fail
   go_ret
   exact ⟨rfl,(by repeat' (first|(with_reducible exact Below.refl _ _)|(with_reducible assumption)|(with_reducible apply aB)|(with_reducible apply Below.alloc)|(with_reducible apply Below.drew)|(with_reducible apply ap)|(with_reducible refine Below.trans ?_ (Below.mono (by assumption) ?_))|omega|(simp only [World.size_alloc,World.size_setCell,World.size_drew];omega)))⟩
open Go.ChangeShapes Go.WideShapes Go.ChangeAt
theorem rec : ∀ t ∈ Try.f3.params.toList,Try.prog.readableRec t = true ∧ t < Try.prog.types.size:=by
 rw [Try.params3]
 intro t ht
 simp only [List.mem_cons,List.not_mem_nil,or_false] at ht
 rcases ht with rfl|rfl
 all_goals exact ⟨by kernel_rfl,of_decide_eq_true (by kernel_rfl)⟩
set_option maxRecDepth 100000 in
theorem lifted (os : Os) (started : os.Started) (H : Type) (enc : TypeId × Value → H) :
  ReturnsInHanded {} Try.checked os 3 .any (Rows.fnExactWorthsOfSpec.pre6 enc Try.prog Try.f3 Rows.fnExactWorthsOfRow.domain false) (Rows.fnExactWorthsOfSpec.post enc Try.prog Try.f3 false true false false):=by
 refine returnsInHanded_of_change (C:=Try.checked) own started (by kernel_rfl) Try.func3
  (ChangeSpec.witness6 (enc:=enc) (C:=Try.checked) false ⟨#[],#[.agg #[.slice none 0 0,.slice none 0 0,.slice none 0 0],.slice none 0 0],[]⟩ 8 (by kernel_rfl) (by kernel_rfl) (by kernel_rfl) (by kernel_rfl)) ?_
 intro W base args ds gs before hval0 hW hcnd _
 have hval : ∀ (j : Nat) t v,Try.f3.params[j]? = some t → args[j]? = some v → Value.okWide Try.prog W .any base t v:=hval0
 have hW':=hW
 obtain ⟨p,q,hA0,hV,rfl,hfz,hnd⟩:=hW
 have hA : DataW.TrodAll enc Try.prog W 0 (fun _=>true) true Try.f3.params.toList args.toList ds p:=hA0
 rw [Try.params3] at hA hval
 obtain ⟨v0,vs0,d0,ds0,p0,q0,hargs,rfl,rfl,t0,r0⟩:=trodAll_cons hA
 obtain ⟨v1,vs1,d1,ds1,p1,q1,rfl,rfl,rfl,t1,r1⟩:=trodAll_cons r0
 obtain ⟨rfl,rfl,rfl⟩:=trodAll_nil r1
 obtain rfl : args = #[v0,v1]:=by cases args;simp_all
 obtain ⟨rfl,rfl⟩:=trodVars_none hV
 obtain ⟨g0,h0,wf0⟩:=tZ (hval 0 _ v0 rfl rfl) t0
 obtain ⟨g1,h1,wf1⟩:=sI (hval 1 _ v1 rfl rfl) t1
 clear hA0 hval0
 refine (walk v0 g0 v1 g1 W h0 h1 wf0 wf1).mono fun e W' ⟨he,hb⟩=>?_
 subst he
 exact ⟨_,rfl,pp vN rec (by kernel_rfl) rfl rfl hW' hb⟩
theorem over : Rows.fnExactWorthsOfRow.holds Try.pinned (OpenSpec.ofChange Rows.fnExactWorthsOfSpec) :=
 OpenClaim.holds_of_wide 3 Try.f3 rfl rfl rfl rfl rfl rfl rfl ⟨rfl,rfl,rfl,rfl,rfl⟩ rfl rfl rfl rfl rfl (by kernel_rfl) Try.func3 (by kernel_rfl)
  (of_decide_eq_true (by kernel_rfl)) (by unfold Func.isWrapper;first|(rw [if_pos (by decide +kernel)];kernel_rfl)|(rw [if_neg (by decide +kernel)];exact ⟨rfl,rfl⟩))
  (fun os started H enc _=>lifted os started H enc)
theorem proved : Rows.FnExactWorthsOfSaid:=over
#print axioms proved
end Go.Proofs.Ytlodllmpndflcaa.fnExactWorthsOf
