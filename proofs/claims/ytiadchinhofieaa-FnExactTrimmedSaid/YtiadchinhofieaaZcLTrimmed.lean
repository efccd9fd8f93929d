/-
  For every input the law FnExactTrimmed returns true and leaves its arguments as they were: the program's Trimmed returns what the reference's returns. No condition.
-/
import Derived.Test.YtiadchinhofieaaZcLaw
import Derived.Test.YtiadchinhofieaaZcXO
import Derived.Test.YtiadchinhofieaaZcCb
namespace Go.Proofs.Ytiadchinhofieaa.fnExactTrimmed
set_option linter.unusedVariables false
set_option linter.unusedSimpArgs false
open Go.RowKit
attribute [local go_sem ↓] Go.wp_at_zero Go.wp_at_succ
set_option maxRecDepth 100000 in
set_option maxHeartbeats 4000000 in
theorem walk (u0 : Value) (g0 : Pa) (w : World) (h0 : IsP w u0 g0) (wf0 : WfP g0) : Calls Try.prog 5 #[u0] w (Bb w true):=by
 obtain ⟨a0s0,a0n0,a0c0,a0s1,a0n1,a0c1,a0s2,a0n2,a0c2,rfl⟩:=h0.form
 by_cases hn_0 : ((szP g0 : Nat) : Int) ≤ 1048576
 · have hz_0:=eP hn_0
   replace hn_0 : szP g0 ≤ 1048576 - (0):=by omega
   have hp_0 : (0 : Int) ≤ 1048576 - ((szP g0 : Nat) : Int):=by omega
   go_enter Try.func5,Try.ntmps5
   have hbw : Below w.heap.size w w:=Below.refl _ _
   go_wp2_with fail
   generalize hqwm2 : w.alloc (.cells #[.slice a0s0 a0n0 a0c0,.slice a0s1 a0n1 a0c1,.slice a0s2 a0n2 a0c2] 27) = wm2
   have hywm2 : wm2.heap.size = w.heap.size + 1:=by rw [← hqwm2];simp
   have hbwm2 : Below w.heap.size w wm2:=by rw [← hqwm2];exact (by repeat' (first|(with_reducible exact Below.refl _ _)|(with_reducible apply Below.alloc)|(with_reducible apply Below.drew)|(with_reducible apply aj)|omega|(simp only [World.size_alloc,World.size_setCell,World.size_drew];omega)))
   have HQwm2_0 : Blk wm2 (w.heap.size) [.slice a0s0 a0n0 a0c0,.slice a0s1 a0n1 a0c1,.slice a0s2 a0n2 a0c2] 27:=by rw [← hqwm2];have hnew:=bM w [.slice a0s0 a0n0 a0c0,.slice a0s1 a0n1 a0c1,.slice a0s2 a0n2 a0c2] 27;(try simp only [World.size_alloc] at hnew);exact hnew
   have cf3 : wm2.cell? ⟨w.heap.size,0,none⟩ = some (.slice a0s0 a0n0 a0c0):=HQwm2_0.cell 0 rfl
   have cf4 : wm2.cell? ⟨w.heap.size,1,none⟩ = some (.slice a0s1 a0n1 a0c1):=HQwm2_0.cell 1 rfl
   have cf5 : wm2.cell? ⟨w.heap.size,2,none⟩ = some (.slice a0s2 a0n2 a0c2):=HQwm2_0.cell 2 rfl
   clear HQwm2_0
   clear hqwm2
   replace hbw : Below w.heap.size w wm2:=hbw.trans (hbwm2.mono hbw.size)
   have hzwm2 : w.heap.size ≤ wm2.heap.size:=hbwm2.size
   refine (i9 _ _ _ _ (h0.below hbw) (by omega) (by omega)).mono ?_
   rw [hz_0]
   rintro e wc6 ⟨rfl,hbwc6⟩
   replace cf3:=ah cf3 hbwc6
   replace cf4:=ah cf4 hbwc6
   replace cf5:=ah cf5 hbwc6
   replace hbw : Below w.heap.size w wc6:=hbw.trans (hbwc6.mono hbw.size)
   have hzwc6 : wm2.heap.size ≤ wc6.heap.size:=hbwc6.size
   go_wp2_with fail
   refine (eG _ _ _ (h0.below hbw) (by omega)).mono ?_
   rintro e wc7 ⟨x8s0,x8n0,x8c0,x8s1,x8n1,x8c1,x8s2,x8n2,x8c2,rfl,howc7,hbwc7⟩
   replace howc7 : cI wc6.heap.size wc7.heap.size wc7 (.agg #[.slice x8s0 x8n0 x8c0,.slice x8s1 x8n1 x8c1,.slice x8s2 x8n2 x8c2]) g0:=howc7
   replace cf3:=ah cf3 hbwc7
   replace cf4:=ah cf4 hbwc7
   replace cf5:=ah cf5 hbwc7
   replace hbw : Below w.heap.size w wc7:=hbw.trans (hbwc7.mono hbw.size)
   have hzwc7 : wc6.heap.size ≤ wc7.heap.size:=hbwc7.size
   go_wp2_with fail
   refine (pJ _ _ _ howc7.is).mono ?_
   rintro e wc9 ⟨y10s0,y10n0,y10c0,y10s1,y10n1,y10c1,y10s2,y10n2,y10c2,rfl,howc9,hbwc9⟩
   replace cf3:=ah cf3 hbwc9
   replace cf4:=ah cf4 hbwc9
   replace cf5:=ah cf5 hbwc9
   replace howc7:=howc7.below hbwc9
   replace hbw : Below w.heap.size w wc9:=hbw.trans (hbwc9.mono hbw.size)
   have hzwc9 : wc7.heap.size ≤ wc9.heap.size:=hbwc9.size
   have hbSwc9 : Below wc9.heap.size wc9 wc9:=Below.refl _ _
   have hl12 : w.heap.size < wc9.heap.size:=by omega
   go_wp2_with fail
   generalize hqwm13 : wc9.alloc (.cells #[.slice y10s0 y10n0 y10c0,.slice y10s1 y10n1 y10c1,.slice y10s2 y10n2 y10c2] 32) = wm13
   have hywm13 : wm13.heap.size = wc9.heap.size + 1:=by rw [← hqwm13];simp
   have hbwm13 : Below wc9.heap.size wc9 wm13:=by rw [← hqwm13];exact (by repeat' (first|(with_reducible exact Below.refl _ _)|(with_reducible apply Below.alloc)|(with_reducible apply Below.drew)|(with_reducible apply aj)|omega|(simp only [World.size_alloc,World.size_setCell,World.size_drew];omega)))
   have HQwm13_0 : Blk wm13 (wc9.heap.size) [.slice y10s0 y10n0 y10c0,.slice y10s1 y10n1 y10c1,.slice y10s2 y10n2 y10c2] 32:=by rw [← hqwm13];have hnew:=bM wc9 [.slice y10s0 y10n0 y10c0,.slice y10s1 y10n1 y10c1,.slice y10s2 y10n2 y10c2] 32;(try simp only [World.size_alloc] at hnew);exact hnew
   have cf14 : wm13.cell? ⟨wc9.heap.size,0,none⟩ = some (.slice y10s0 y10n0 y10c0):=HQwm13_0.cell 0 rfl
   have cf15 : wm13.cell? ⟨wc9.heap.size,1,none⟩ = some (.slice y10s1 y10n1 y10c1):=HQwm13_0.cell 1 rfl
   have cf16 : wm13.cell? ⟨wc9.heap.size,2,none⟩ = some (.slice y10s2 y10n2 y10c2):=HQwm13_0.cell 2 rfl
   clear HQwm13_0
   clear hqwm13
   replace hbSwc9 : Below wc9.heap.size wc9 wm13:=hbSwc9.trans (hbwm13.mono hbSwc9.size)
   replace cf3:=ah cf3 hbwm13
   replace cf4:=ah cf4 hbwm13
   replace cf5:=ah cf5 hbwm13
   replace howc7:=howc7.below hbwm13
   replace hbw : Below w.heap.size w wm13:=hbw.trans (hbwm13.mono hbw.size)
   have hzwm13 : wc9.heap.size ≤ wm13.heap.size:=hbwm13.size
   refine (eG _ _ _ (h0.below hbw) (by omega)).mono ?_
   rintro e wc17 ⟨x18s0,x18n0,x18c0,x18s1,x18n1,x18c1,x18s2,x18n2,x18c2,rfl,howc17,hbwc17⟩
   replace howc17 : cI wm13.heap.size wc17.heap.size wc17 (.agg #[.slice x18s0 x18n0 x18c0,.slice x18s1 x18n1 x18c1,.slice x18s2 x18n2 x18c2]) g0:=howc17
   replace hbSwc9 : Below wc9.heap.size wc9 wc17:=hbSwc9.trans (hbwc17.mono hbSwc9.size)
   replace cf3:=ah cf3 hbwc17
   replace cf4:=ah cf4 hbwc17
   replace cf5:=ah cf5 hbwc17
   replace cf14:=ah cf14 hbwc17
   replace cf15:=ah cf15 hbwc17
   replace cf16:=ah cf16 hbwc17
   replace howc7:=howc7.below hbwc17
   replace hbw : Below w.heap.size w wc17:=hbw.trans (hbwc17.mono hbw.size)
   have hzwc17 : wm13.heap.size ≤ wc17.heap.size:=hbwc17.size
   have hl20 : w.heap.size < wc17.heap.size:=by omega
   have hl21 : wc9.heap.size < wc17.heap.size:=by omega
   go_wp2_with fail
   generalize hqwm22 : wc17.alloc (.cells #[.slice x18s0 x18n0 x18c0,.slice x18s1 x18n1 x18c1,.slice x18s2 x18n2 x18c2] 32) = wm22
   have hywm22 : wm22.heap.size = wc17.heap.size + 1:=by rw [← hqwm22];simp
   have hbwm22 : Below wc17.heap.size wc17 wm22:=by rw [← hqwm22];exact (by repeat' (first|(with_reducible exact Below.refl _ _)|(with_reducible apply Below.alloc)|(with_reducible apply Below.drew)|(with_reducible apply aj)|omega|(simp only [World.size_alloc,World.size_setCell,World.size_drew];omega)))
   have HQwm22_0 : Blk wm22 (wc17.heap.size) [.slice x18s0 x18n0 x18c0,.slice x18s1 x18n1 x18c1,.slice x18s2 x18n2 x18c2] 32:=by rw [← hqwm22];have hnew:=bM wc17 [.slice x18s0 x18n0 x18c0,.slice x18s1 x18n1 x18c1,.slice x18s2 x18n2 x18c2] 32;(try simp only [World.size_alloc] at hnew);exact hnew
   have cf23 : wm22.cell? ⟨wc17.heap.size,0,none⟩ = some (.slice x18s0 x18n0 x18c0):=HQwm22_0.cell 0 rfl
   have cf24 : wm22.cell? ⟨wc17.heap.size,1,none⟩ = some (.slice x18s1 x18n1 x18c1):=HQwm22_0.cell 1 rfl
   have cf25 : wm22.cell? ⟨wc17.heap.size,2,none⟩ = some (.slice x18s2 x18n2 x18c2):=HQwm22_0.cell 2 rfl
   clear HQwm22_0
   clear hqwm22
   replace hbSwc9 : Below wc9.heap.size wc9 wm22:=hbSwc9.trans (hbwm22.mono hbSwc9.size)
   replace cf3:=ah cf3 hbwm22
   replace cf4:=ah cf4 hbwm22
   replace cf5:=ah cf5 hbwm22
   replace cf14:=ah cf14 hbwm22
   replace cf15:=ah cf15 hbwm22
   replace cf16:=ah cf16 hbwm22
   replace howc7:=howc7.below hbwm22
   replace howc17:=howc17.below hbwm22
   replace hbw : Below w.heap.size w wm22:=hbw.trans (hbwm22.mono hbw.size)
   have hzwm22 : wc17.heap.size ≤ wm22.heap.size:=hbwm22.size
   refine (kM _ _ _ howc17.is).mono ?_
   rintro e wc26 ⟨y27s0,y27n0,y27c0,y27s1,y27n1,y27c1,y27s2,y27n2,y27c2,rfl,howc26,hbwc26⟩
   replace howc26 : cI wm22.heap.size wc26.heap.size wc26 (.agg #[.slice y27s0 y27n0 y27c0,.slice y27s1 y27n1 y27c1,.slice y27s2 y27n2 y27c2]) (tmN g0):=howc26
   replace hbSwc9 : Below wc9.heap.size wc9 wc26:=hbSwc9.trans (hbwc26.mono hbSwc9.size)
   replace cf3:=ah cf3 hbwc26
   replace cf4:=ah cf4 hbwc26
   replace cf5:=ah cf5 hbwc26
   replace cf14:=ah cf14 hbwc26
   replace cf15:=ah cf15 hbwc26
   replace cf16:=ah cf16 hbwc26
   replace cf23:=ah cf23 hbwc26
   replace cf24:=ah cf24 hbwc26
   replace cf25:=ah cf25 hbwc26
   replace howc7:=howc7.below hbwc26
   replace howc17:=howc17.below hbwc26
   replace hbw : Below w.heap.size w wc26:=hbw.trans (hbwc26.mono hbw.size)
   have hzwc26 : wm22.heap.size ≤ wc26.heap.size:=hbwc26.size
   have hlimwc26 : szP (tmN g0) ≤ 1048576:=rB g0
   have hl29 : w.heap.size < wc26.heap.size:=by omega
   have hl30 : wc9.heap.size < wc26.heap.size:=by omega
   have hl31 : wc17.heap.size < wc26.heap.size:=by omega
   go_wp2_with fail
   generalize hqwm32 : wc26.alloc (.cells #[.slice y27s0 y27n0 y27c0,.slice y27s1 y27n1 y27c1,.slice y27s2 y27n2 y27c2] 32) = wm32
   have hywm32 : wm32.heap.size = wc26.heap.size + 1:=by rw [← hqwm32];simp
   have hbwm32 : Below wc26.heap.size wc26 wm32:=by rw [← hqwm32];exact (by repeat' (first|(with_reducible exact Below.refl _ _)|(with_reducible apply Below.alloc)|(with_reducible apply Below.drew)|(with_reducible apply aj)|omega|(simp only [World.size_alloc,World.size_setCell,World.size_drew];omega)))
   have HQwm32_0 : Blk wm32 (wc26.heap.size) [.slice y27s0 y27n0 y27c0,.slice y27s1 y27n1 y27c1,.slice y27s2 y27n2 y27c2] 32:=by rw [← hqwm32];have hnew:=bM wc26 [.slice y27s0 y27n0 y27c0,.slice y27s1 y27n1 y27c1,.slice y27s2 y27n2 y27c2] 32;(try simp only [World.size_alloc] at hnew);exact hnew
   have cf33 : wm32.cell? ⟨wc26.heap.size,0,none⟩ = some (.slice y27s0 y27n0 y27c0):=HQwm32_0.cell 0 rfl
   have cf34 : wm32.cell? ⟨wc26.heap.size,1,none⟩ = some (.slice y27s1 y27n1 y27c1):=HQwm32_0.cell 1 rfl
   have cf35 : wm32.cell? ⟨wc26.heap.size,2,none⟩ = some (.slice y27s2 y27n2 y27c2):=HQwm32_0.cell 2 rfl
   clear HQwm32_0
   clear hqwm32
   replace hbSwc9 : Below wc9.heap.size wc9 wm32:=hbSwc9.trans (hbwm32.mono hbSwc9.size)
   replace cf3:=ah cf3 hbwm32
   replace cf4:=ah cf4 hbwm32
   replace cf5:=ah cf5 hbwm32
   replace cf14:=ah cf14 hbwm32
   replace cf15:=ah cf15 hbwm32
   replace cf16:=ah cf16 hbwm32
   replace cf23:=ah cf23 hbwm32
   replace cf24:=ah cf24 hbwm32
   replace cf25:=ah cf25 hbwm32
   replace howc7:=howc7.below hbwm32
   replace howc17:=howc17.below hbwm32
   replace howc26:=howc26.below hbwm32
   replace hbw : Below w.heap.size w wm32:=hbw.trans (hbwm32.mono hbw.size)
   have hzwm32 : wc26.heap.size ≤ wm32.heap.size:=hbwm32.size
   refine (eI _ _ _ _ _ howc26.is (howc9.below hbSwc9)).mono ?_
   rw [aH rfl]
   rintro e wc36 ⟨rfl,hbwc36⟩
   replace hbSwc9 : Below wc9.heap.size wc9 wc36:=hbSwc9.trans (hbwc36.mono hbSwc9.size)
   replace cf3:=ah cf3 hbwc36
   replace cf4:=ah cf4 hbwc36
   replace cf5:=ah cf5 hbwc36
   replace cf14:=ah cf14 hbwc36
   replace cf15:=ah cf15 hbwc36
   replace cf16:=ah cf16 hbwc36
   replace cf23:=ah cf23 hbwc36
   replace cf24:=ah cf24 hbwc36
   replace cf25:=ah cf25 hbwc36
   replace cf33:=ah cf33 hbwc36
   replace cf34:=ah cf34 hbwc36
   replace cf35:=ah cf35 hbwc36
   replace howc7:=howc7.below hbwc36
   replace howc17:=howc17.below hbwc36
   replace howc26:=howc26.below hbwc36
   replace hbw : Below w.heap.size w wc36:=hbw.trans (hbwc36.mono hbw.size)
   have hzwc36 : wm32.heap.size ≤ wc36.heap.size:=hbwc36.size
   go_wp2_with fail
   go_region_held3 (fun w'=>w'.cell? ⟨wc17.heap.size,0,none⟩ = some (.slice x18s0 x18n0 x18c0) ∧ w'.cell? ⟨wc17.heap.size,1,none⟩ = some (.slice x18s1 x18n1 x18c1) ∧ w'.cell? ⟨wc17.heap.size,2,none⟩ = some (.slice x18s2 x18n2 x18c2) ∧ w'.cell? ⟨w.heap.size,0,none⟩ = some (.slice a0s0 a0n0 a0c0) ∧ w'.cell? ⟨w.heap.size,1,none⟩ = some (.slice a0s1 a0n1 a0c1) ∧ w'.cell? ⟨w.heap.size,2,none⟩ = some (.slice a0s2 a0n2 a0c2)) (first|exact ⟨cf23,cf24,cf25,cf3,cf4,cf5⟩|go_keep)
    (first
     | (go_at_call 16; (with_reducible refine (eG _ _ _ ((h0.below hbw)).drew (by omega)).mono ?_); rintro e wc37 ⟨x38s0, x38n0, x38c0, x38s1, x38n1, x38c1, x38s2, x38n2, x38c2, rfl, howc37, hbwc37⟩; replace howc37 : cI wc36.heap.size wc37.heap.size wc37 (.agg #[.slice x38s0 x38n0 x38c0, .slice x38s1 x38n1 x38c1, .slice x38s2 x38n2 x38c2]) g0 := howc37; replace hbwc37 : Below wc36.heap.size wc36 wc37 := (bj _).trans hbwc37; replace hbSwc9 : Below wc9.heap.size wc9 wc37 := hbSwc9.trans (hbwc37.mono hbSwc9.size); replace cf3 := ah cf3 hbwc37; replace cf4 := ah cf4 hbwc37; replace cf5 := ah cf5 hbwc37; replace cf14 := ah cf14 hbwc37; replace cf15 := ah cf15 hbwc37; replace cf16 := ah cf16 hbwc37; replace cf23 := ah cf23 hbwc37; replace cf24 := ah cf24 hbwc37; replace cf25 := ah cf25 hbwc37; replace cf33 := ah cf33 hbwc37; replace cf34 := ah cf34 hbwc37; replace cf35 := ah cf35 hbwc37; replace howc7 := howc7.below hbwc37; replace howc17 := howc17.below hbwc37; replace howc26 := howc26.below hbwc37; replace hbw : Below w.heap.size w wc37 := hbw.trans (hbwc37.mono hbw.size); have hzwc37 : wc36.heap.size ≤ wc37.heap.size := hbwc37.size)
     | (go_at_call 18; (with_reducible refine (eI _ _ _ _ _ howc17.is howc37.is).mono ?_); rw [aH rfl]; rintro e wc39 ⟨rfl, hbwc39⟩; replace hbSwc9 : Below wc9.heap.size wc9 wc39 := hbSwc9.trans (hbwc39.mono hbSwc9.size); replace cf3 := ah cf3 hbwc39; replace cf4 := ah cf4 hbwc39; replace cf5 := ah cf5 hbwc39; replace cf14 := ah cf14 hbwc39; replace cf15 := ah cf15 hbwc39; replace cf16 := ah cf16 hbwc39; replace cf23 := ah cf23 hbwc39; replace cf24 := ah cf24 hbwc39; replace cf25 := ah cf25 hbwc39; replace cf33 := ah cf33 hbwc39; replace cf34 := ah cf34 hbwc39; replace cf35 := ah cf35 hbwc39; replace howc7 := howc7.below hbwc39; replace howc17 := howc17.below hbwc39; replace howc26 := howc26.below hbwc39; replace howc37 := howc37.below hbwc39; replace hbw : Below w.heap.size w wc39 := hbw.trans (hbwc39.mono hbw.size); have hzwc39 : wc37.heap.size ≤ wc39.heap.size := hbwc39.size))
   go_wp2_with fail
   refine (gl howc17 _ (by omega) (by omega) (by omega) (by omega)).mono ?_
   rintro e wc40 ⟨rfl,hmwc40,hOwc40⟩
   replace hbSwc9 : Below wc9.heap.size wc9 wc40:=hbSwc9.trans (hOwc40.below (by omega))
   replace cf3:=br cf3 hOwc40 (by omega)
   replace cf4:=br cf4 hOwc40 (by omega)
   replace cf5:=br cf5 hOwc40 (by omega)
   replace cf14:=br cf14 hOwc40 (by omega)
   replace cf15:=br cf15 hOwc40 (by omega)
   replace cf16:=br cf16 hOwc40 (by omega)
   replace cf23:=br cf23 hOwc40 (by omega)
   replace cf24:=br cf24 hOwc40 (by omega)
   replace cf25:=br cf25 hOwc40 (by omega)
   replace cf33:=br cf33 hOwc40 (by omega)
   replace cf34:=br cf34 hOwc40 (by omega)
   replace cf35:=br cf35 hOwc40 (by omega)
   replace howc7:=howc7.out hOwc40 (by omega)
   replace howc26:=howc26.out hOwc40 (by omega)
   replace howc37:=howc37.out hOwc40 (by omega)
   replace hbw : Below w.heap.size w wc40:=hbw.trans (hOwc40.below (by omega))
   have hzwc40 : wc39.heap.size ≤ wc40.heap.size:=hOwc40.size
   have hlfwc40 : iU g0 ≤ szP g0:=by unfold iU dW cR szP szA gO;omega
   go_wp2_with fail
   refine (eI _ _ _ _ _ howc26.is (howc9.below hbSwc9)).mono ?_
   rw [aH rfl]
   rintro e wc41 ⟨rfl,hbwc41⟩
   replace hbSwc9 : Below wc9.heap.size wc9 wc41:=hbSwc9.trans (hbwc41.mono hbSwc9.size)
   replace cf3:=ah cf3 hbwc41
   replace cf4:=ah cf4 hbwc41
   replace cf5:=ah cf5 hbwc41
   replace cf14:=ah cf14 hbwc41
   replace cf15:=ah cf15 hbwc41
   replace cf16:=ah cf16 hbwc41
   replace cf23:=ah cf23 hbwc41
   replace cf24:=ah cf24 hbwc41
   replace cf25:=ah cf25 hbwc41
   replace cf33:=ah cf33 hbwc41
   replace cf34:=ah cf34 hbwc41
   replace cf35:=ah cf35 hbwc41
   replace howc7:=howc7.below hbwc41
   replace howc26:=howc26.below hbwc41
   replace howc37:=howc37.below hbwc41
   replace hmwc40:=hmwc40.below hbwc41
   replace hbw : Below w.heap.size w wc41:=hbw.trans (hbwc41.mono hbw.size)
   have hzwc41 : wc40.heap.size ≤ wc41.heap.size:=hbwc41.size
   go_wp2_with fail
   refine (gl howc26 _ (by omega) (by omega) (by omega) (by omega)).mono ?_
   rintro e wc42 ⟨rfl,hmwc42,hOwc42⟩
   replace hbSwc9 : Below wc9.heap.size wc9 wc42:=hbSwc9.trans (hOwc42.below (by omega))
   replace cf3:=br cf3 hOwc42 (by omega)
   replace cf4:=br cf4 hOwc42 (by omega)
   replace cf5:=br cf5 hOwc42 (by omega)
   replace cf14:=br cf14 hOwc42 (by omega)
   replace cf15:=br cf15 hOwc42 (by omega)
   replace cf16:=br cf16 hOwc42 (by omega)
   replace cf23:=br cf23 hOwc42 (by omega)
   replace cf24:=br cf24 hOwc42 (by omega)
   replace cf25:=br cf25 hOwc42 (by omega)
   replace cf33:=br cf33 hOwc42 (by omega)
   replace cf34:=br cf34 hOwc42 (by omega)
   replace cf35:=br cf35 hOwc42 (by omega)
   replace howc7:=howc7.out hOwc42 (by omega)
   replace howc37:=howc37.out hOwc42 (by omega)
   replace hmwc40:=hmwc40.out hOwc42 (by omega)
   replace hbw : Below w.heap.size w wc42:=hbw.trans (hOwc42.below (by omega))
   have hzwc42 : wc41.heap.size ≤ wc42.heap.size:=hOwc42.size
   go_wp2_with fail
   refine (gm _ _ hmwc42.is (by omega) (by omega) (by omega)).mono ?_
   rintro e wc43 ⟨rfl,hbwc43⟩
   replace hbSwc9 : Below wc9.heap.size wc9 wc43:=hbSwc9.trans (hbwc43.mono hbSwc9.size)
   replace cf3:=ah cf3 hbwc43
   replace cf4:=ah cf4 hbwc43
   replace cf5:=ah cf5 hbwc43
   replace cf14:=ah cf14 hbwc43
   replace cf15:=ah cf15 hbwc43
   replace cf16:=ah cf16 hbwc43
   replace cf23:=ah cf23 hbwc43
   replace cf24:=ah cf24 hbwc43
   replace cf25:=ah cf25 hbwc43
   replace cf33:=ah cf33 hbwc43
   replace cf34:=ah cf34 hbwc43
   replace cf35:=ah cf35 hbwc43
   replace howc7:=howc7.below hbwc43
   replace howc37:=howc37.below hbwc43
   replace hmwc40:=hmwc40.below hbwc43
   replace hmwc42:=hmwc42.below hbwc43
   replace hbw : Below w.heap.size w wc43:=hbw.trans (hbwc43.mono hbw.size)
   have hzwc43 : wc42.heap.size ≤ wc43.heap.size:=hbwc43.size
   go_wp2_with fail
   refine (eG _ _ _ (h0.below hbw) (by omega)).mono ?_
   rintro e wc44 ⟨x45s0,x45n0,x45c0,x45s1,x45n1,x45c1,x45s2,x45n2,x45c2,rfl,howc44,hbwc44⟩
   replace howc44 : cI wc43.heap.size wc44.heap.size wc44 (.agg #[.slice x45s0 x45n0 x45c0,.slice x45s1 x45n1 x45c1,.slice x45s2 x45n2 x45c2]) g0:=howc44
   replace hbSwc9 : Below wc9.heap.size wc9 wc44:=hbSwc9.trans (hbwc44.mono hbSwc9.size)
   replace cf3:=ah cf3 hbwc44
   replace cf4:=ah cf4 hbwc44
   replace cf5:=ah cf5 hbwc44
   replace cf14:=ah cf14 hbwc44
   replace cf15:=ah cf15 hbwc44
   replace cf16:=ah cf16 hbwc44
   replace cf23:=ah cf23 hbwc44
   replace cf24:=ah cf24 hbwc44
   replace cf25:=ah cf25 hbwc44
   replace cf33:=ah cf33 hbwc44
   replace cf34:=ah cf34 hbwc44
   replace cf35:=ah cf35 hbwc44
   replace howc7:=howc7.below hbwc44
   replace howc37:=howc37.below hbwc44
   replace hmwc40:=hmwc40.below hbwc44
   replace hmwc42:=hmwc42.below hbwc44
   replace hbw : Below w.heap.size w wc44:=hbw.trans (hbwc44.mono hbw.size)
   have hzwc44 : wc43.heap.size ≤ wc44.heap.size:=hbwc44.size
   go_wp2_with fail
   refine (kM _ _ _ howc44.is).mono ?_
   rintro e wc46 ⟨y47s0,y47n0,y47c0,y47s1,y47n1,y47c1,y47s2,y47n2,y47c2,rfl,howc46,hbwc46⟩
   replace howc46 : cI wc44.heap.size wc46.heap.size wc46 (.agg #[.slice y47s0 y47n0 y47c0,.slice y47s1 y47n1 y47c1,.slice y47s2 y47n2 y47c2]) (tmN g0):=howc46
   replace hbSwc9 : Below wc9.heap.size wc9 wc46:=hbSwc9.trans (hbwc46.mono hbSwc9.size)
   replace cf3:=ah cf3 hbwc46
   replace cf4:=ah cf4 hbwc46
   replace cf5:=ah cf5 hbwc46
   replace cf14:=ah cf14 hbwc46
   replace cf15:=ah cf15 hbwc46
   replace cf16:=ah cf16 hbwc46
   replace cf23:=ah cf23 hbwc46
   replace cf24:=ah cf24 hbwc46
   replace cf25:=ah cf25 hbwc46
   replace cf33:=ah cf33 hbwc46
   replace cf34:=ah cf34 hbwc46
   replace cf35:=ah cf35 hbwc46
   replace howc7:=howc7.below hbwc46
   replace howc37:=howc37.below hbwc46
   replace hmwc40:=hmwc40.below hbwc46
   replace hmwc42:=hmwc42.below hbwc46
   replace howc44:=howc44.below hbwc46
   replace hbw : Below w.heap.size w wc46:=hbw.trans (hbwc46.mono hbw.size)
   have hzwc46 : wc44.heap.size ≤ wc46.heap.size:=hbwc46.size
   have hlimwc46 : szP (tmN g0) ≤ 1048576:=rB g0
   have hl49 : w.heap.size < wc46.heap.size:=by omega
   have hl50 : wc9.heap.size < wc46.heap.size:=by omega
   have hl51 : wc17.heap.size < wc46.heap.size:=by omega
   have hl52 : wc26.heap.size < wc46.heap.size:=by omega
   go_wp2_with fail
   generalize hqwm53 : wc46.alloc (.cells #[.slice y47s0 y47n0 y47c0,.slice y47s1 y47n1 y47c1,.slice y47s2 y47n2 y47c2] 32) = wm53
   have hywm53 : wm53.heap.size = wc46.heap.size + 1:=by rw [← hqwm53];simp
   have hbwm53 : Below wc46.heap.size wc46 wm53:=by rw [← hqwm53];exact (by repeat' (first|(with_reducible exact Below.refl _ _)|(with_reducible apply Below.alloc)|(with_reducible apply Below.drew)|(with_reducible apply aj)|omega|(simp only [World.size_alloc,World.size_setCell,World.size_drew];omega)))
   have HQwm53_0 : Blk wm53 (wc46.heap.size) [.slice y47s0 y47n0 y47c0,.slice y47s1 y47n1 y47c1,.slice y47s2 y47n2 y47c2] 32:=by rw [← hqwm53];have hnew:=bM wc46 [.slice y47s0 y47n0 y47c0,.slice y47s1 y47n1 y47c1,.slice y47s2 y47n2 y47c2] 32;(try simp only [World.size_alloc] at hnew);exact hnew
   have cf54 : wm53.cell? ⟨wc46.heap.size,0,none⟩ = some (.slice y47s0 y47n0 y47c0):=HQwm53_0.cell 0 rfl
   have cf55 : wm53.cell? ⟨wc46.heap.size,1,none⟩ = some (.slice y47s1 y47n1 y47c1):=HQwm53_0.cell 1 rfl
   have cf56 : wm53.cell? ⟨wc46.heap.size,2,none⟩ = some (.slice y47s2 y47n2 y47c2):=HQwm53_0.cell 2 rfl
   clear HQwm53_0
   clear hqwm53
   replace hbSwc9 : Below wc9.heap.size wc9 wm53:=hbSwc9.trans (hbwm53.mono hbSwc9.size)
   replace cf3:=ah cf3 hbwm53
   replace cf4:=ah cf4 hbwm53
   replace cf5:=ah cf5 hbwm53
   replace cf14:=ah cf14 hbwm53
   replace cf15:=ah cf15 hbwm53
   replace cf16:=ah cf16 hbwm53
   replace cf23:=ah cf23 hbwm53
   replace cf24:=ah cf24 hbwm53
   replace cf25:=ah cf25 hbwm53
   replace cf33:=ah cf33 hbwm53
   replace cf34:=ah cf34 hbwm53
   replace cf35:=ah cf35 hbwm53
   replace howc7:=howc7.below hbwm53
   replace howc37:=howc37.below hbwm53
   replace hmwc40:=hmwc40.below hbwm53
   replace hmwc42:=hmwc42.below hbwm53
   replace howc44:=howc44.below hbwm53
   replace howc46:=howc46.below hbwm53
   replace hbw : Below w.heap.size w wm53:=hbw.trans (hbwm53.mono hbw.size)
   have hzwm53 : wc46.heap.size ≤ wm53.heap.size:=hbwm53.size
   refine (eI _ _ _ _ _ howc46.is (howc9.below hbSwc9)).mono ?_
   rw [aH rfl]
   rintro e wc57 ⟨rfl,hbwc57⟩
   replace hbSwc9 : Below wc9.heap.size wc9 wc57:=hbSwc9.trans (hbwc57.mono hbSwc9.size)
   replace cf3:=ah cf3 hbwc57
   replace cf4:=ah cf4 hbwc57
   replace cf5:=ah cf5 hbwc57
   replace cf14:=ah cf14 hbwc57
   replace cf15:=ah cf15 hbwc57
   replace cf16:=ah cf16 hbwc57
   replace cf23:=ah cf23 hbwc57
   replace cf24:=ah cf24 hbwc57
   replace cf25:=ah cf25 hbwc57
   replace cf33:=ah cf33 hbwc57
   replace cf34:=ah cf34 hbwc57
   replace cf35:=ah cf35 hbwc57
   replace cf54:=ah cf54 hbwc57
   replace cf55:=ah cf55 hbwc57
   replace cf56:=ah cf56 hbwc57
   replace howc7:=howc7.below hbwc57
   replace howc37:=howc37.below hbwc57
   replace hmwc40:=hmwc40.below hbwc57
   replace hmwc42:=hmwc42.below hbwc57
   replace howc44:=howc44.below hbwc57
   replace howc46:=howc46.below hbwc57
   replace hbw : Below w.heap.size w wc57:=hbw.trans (hbwc57.mono hbw.size)
   have hzwc57 : wm53.heap.size ≤ wc57.heap.size:=hbwc57.size
   go_wp2_with fail
   refine (gm _ _ hmwc42.is (by omega) (by omega) (by omega)).mono ?_
   rintro e wc58 ⟨rfl,hbwc58⟩
   replace hbSwc9 : Below wc9.heap.size wc9 wc58:=hbSwc9.trans (hbwc58.mono hbSwc9.size)
   replace cf3:=ah cf3 hbwc58
   replace cf4:=ah cf4 hbwc58
   replace cf5:=ah cf5 hbwc58
   replace cf14:=ah cf14 hbwc58
   replace cf15:=ah cf15 hbwc58
   replace cf16:=ah cf16 hbwc58
   replace cf23:=ah cf23 hbwc58
   replace cf24:=ah cf24 hbwc58
   replace cf25:=ah cf25 hbwc58
   replace cf33:=ah cf33 hbwc58
   replace cf34:=ah cf34 hbwc58
   replace cf35:=ah cf35 hbwc58
   replace cf54:=ah cf54 hbwc58
   replace cf55:=ah cf55 hbwc58
   replace cf56:=ah cf56 hbwc58
   replace howc7:=howc7.below hbwc58
   replace howc37:=howc37.below hbwc58
   replace hmwc40:=hmwc40.below hbwc58
   replace hmwc42:=hmwc42.below hbwc58
   replace howc44:=howc44.below hbwc58
   replace howc46:=howc46.below hbwc58
   replace hbw : Below w.heap.size w wc58:=hbw.trans (hbwc58.mono hbw.size)
   have hzwc58 : wc57.heap.size ≤ wc58.heap.size:=hbwc58.size
   go_wp2_with fail
   go_ret
   exact ⟨rfl,hbw⟩
 · have hz_0:=dN (l:=1048576) (n:=szP g0) (by omega)
   go_enter Try.func5,Try.ntmps5
   have hbw : Below w.heap.size w w:=Below.refl _ _
   go_wp2_with fail
   generalize hqwm2 : w.alloc (.cells #[.slice a0s0 a0n0 a0c0,.slice a0s1 a0n1 a0c1,.slice a0s2 a0n2 a0c2] 27) = wm2
   have hywm2 : wm2.heap.size = w.heap.size + 1:=by rw [← hqwm2];simp
   have hbwm2 : Below w.heap.size w wm2:=by rw [← hqwm2];exact (by repeat' (first|(with_reducible exact Below.refl _ _)|(with_reducible apply Below.alloc)|(with_reducible apply Below.drew)|(with_reducible apply aj)|omega|(simp only [World.size_alloc,World.size_setCell,World.size_drew];omega)))
   have HQwm2_0 : Blk wm2 (w.heap.size) [.slice a0s0 a0n0 a0c0,.slice a0s1 a0n1 a0c1,.slice a0s2 a0n2 a0c2] 27:=by rw [← hqwm2];have hnew:=bM w [.slice a0s0 a0n0 a0c0,.slice a0s1 a0n1 a0c1,.slice a0s2 a0n2 a0c2] 27;(try simp only [World.size_alloc] at hnew);exact hnew
   have cf3 : wm2.cell? ⟨w.heap.size,0,none⟩ = some (.slice a0s0 a0n0 a0c0):=HQwm2_0.cell 0 rfl
   have cf4 : wm2.cell? ⟨w.heap.size,1,none⟩ = some (.slice a0s1 a0n1 a0c1):=HQwm2_0.cell 1 rfl
   have cf5 : wm2.cell? ⟨w.heap.size,2,none⟩ = some (.slice a0s2 a0n2 a0c2):=HQwm2_0.cell 2 rfl
   clear HQwm2_0
   clear hqwm2
   replace hbw : Below w.heap.size w wm2:=hbw.trans (hbwm2.mono hbw.size)
   have hzwm2 : w.heap.size ≤ wm2.heap.size:=hbwm2.size
   refine (i9 _ _ _ _ (h0.below hbw) (by omega) (by omega)).mono ?_
   rw [hz_0]
   rintro e wc6 ⟨rfl,hbwc6⟩
   replace cf3:=ah cf3 hbwc6
   replace cf4:=ah cf4 hbwc6
   replace cf5:=ah cf5 hbwc6
   replace hbw : Below w.heap.size w wc6:=hbw.trans (hbwc6.mono hbw.size)
   have hzwc6 : wm2.heap.size ≤ wc6.heap.size:=hbwc6.size
   go_wp2_with fail
   go_ret
   exact ⟨rfl,hbw⟩
open Go.ChangeShapes Go.WideShapes Go.ChangeAt
theorem rec : ∀ t ∈ Try.f5.params.toList,Try.prog.readableRec t = true ∧ t < Try.prog.types.size:=by
 rw [Try.params5]
 intro t ht
 simp only [List.mem_cons,List.not_mem_nil,or_false] at ht
 rcases ht with rfl
 all_goals exact ⟨by kernel_rfl,of_decide_eq_true (by kernel_rfl)⟩
set_option maxRecDepth 100000 in
theorem lifted (os : Os) (started : os.Started) (H : Type) (enc : TypeId × Value → H) :
  ReturnsInHanded {} Try.checked os 5 .any (Rows.fnExactTrimmedSpec.pre6 enc Try.prog Try.f5 Rows.fnExactTrimmedRow.domain false) (Rows.fnExactTrimmedSpec.post enc Try.prog Try.f5 false true false false):=by
 refine returnsInHanded_of_change (C:=Try.checked) own started (by kernel_rfl) Try.func5
  (ChangeSpec.witness6 (enc:=enc) (C:=Try.checked) false ⟨#[],#[.agg #[.slice none 0 0,.slice none 0 0,.slice none 0 0]],[]⟩ 8 (by kernel_rfl) (by kernel_rfl) (by kernel_rfl) (by kernel_rfl)) ?_
 intro W base args ds gs before hval0 hW hcnd _
 have hval : ∀ (j : Nat) t v,Try.f5.params[j]? = some t → args[j]? = some v → Value.okWide Try.prog W .any base t v:=hval0
 have hW':=hW
 obtain ⟨p,q,hA0,hV,rfl,hfz,hnd⟩:=hW
 have hA : DataW.TrodAll enc Try.prog W 0 (fun _=>true) true Try.f5.params.toList args.toList ds p:=hA0
 rw [Try.params5] at hA hval
 obtain ⟨v0,vs0,d0,ds0,p0,q0,hargs,rfl,rfl,t0,r0⟩:=trodAll_cons hA
 obtain ⟨rfl,rfl,rfl⟩:=trodAll_nil r0
 obtain rfl : args = #[v0]:=by cases args;simp_all
 obtain ⟨rfl,rfl⟩:=trodVars_none hV
 obtain ⟨g0,h0,wf0⟩:=tb (hval 0 _ v0 rfl rfl) t0
 clear hA0 hval0
 refine (walk v0 g0 W h0 wf0).mono fun e W' ⟨he,hb⟩=>?_
 subst he
 exact ⟨_,rfl,lT uP rec (by kernel_rfl) rfl rfl hW' hb⟩
theorem over : Rows.fnExactTrimmedRow.holds Try.pinned (OpenSpec.ofChange Rows.fnExactTrimmedSpec) :=
 OpenClaim.holds_of_wide 5 Try.f5 rfl rfl rfl rfl rfl rfl rfl ⟨rfl,rfl,rfl,rfl,rfl⟩ rfl rfl rfl rfl rfl (by kernel_rfl) Try.func5 (by kernel_rfl)
  (of_decide_eq_true (by kernel_rfl)) (by unfold Func.isWrapper;first|(rw [if_pos (by decide +kernel)];kernel_rfl)|(rw [if_neg (by decide +kernel)];exact ⟨rfl,rfl⟩))
  (fun os started H enc _=>lifted os started H enc)
theorem proved : Rows.FnExactTrimmedSaid:=over
#print axioms proved
end Go.Proofs.Ytiadchinhofieaa.fnExactTrimmed
