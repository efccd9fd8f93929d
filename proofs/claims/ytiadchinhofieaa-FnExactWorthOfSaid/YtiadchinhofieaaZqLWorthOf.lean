/-
  For every input the law FnExactWorthOf returns true and leaves its arguments as they were: the program's WorthOf returns what the reference's returns. No condition.
-/
import Derived.Test.YtiadchinhofieaaZqLaw
import Derived.Test.YtiadchinhofieaaZqIH
import Derived.Test.YtiadchinhofieaaZqCb
namespace Go.Proofs.Ytiadchinhofieaa.fnExactWorthOf
set_option linter.unusedVariables false
set_option linter.unusedSimpArgs false
open Go.RowKit
attribute [local go_sem ↓] Go.wp_at_zero Go.wp_at_succ
set_option maxRecDepth 100000 in
set_option maxHeartbeats 4000000 in
theorem walk (u0 : Value) (g0 : Pa) (u1 : Value) (g1 : List Int) (u2 : Value) (g2 : List Int) (g3 : Int) (w : World) (h0 : IsP w u0 g0) (h1 : IsI w u1 g1) (h2 : IsI w u2 g2) (wf0 : WfP g0) (wf1 : Wf g1) (wf2 : Wf g2) (wf3 : (Lit.int .i64 g3).wf = true) : Calls Try.prog 7 #[u0,u1,u2,.int .i64 g3] w (Bb w true):=by
 obtain ⟨a0s0,a0n0,a0c0,a0s1,a0n1,a0c1,a0s2,a0n2,a0c2,rfl⟩:=h0.form
 obtain ⟨a1s0,a1n0,a1c0,rfl⟩:=h1.form
 obtain ⟨a2s0,a2n0,a2c0,rfl⟩:=h2.form
 have hl1 : a1n0 ≤ 9223372036854775807:=h1.len_le
 have he1:=Lib.hid h1.len_eq
 have hl2 : a2n0 ≤ 9223372036854775807:=h2.len_le
 have he2:=Lib.hid h2.len_eq
 by_cases hn_1 : a1n0 ≤ 1048576
 · by_cases hn_2 : a2n0 ≤ 1048576
   · by_cases hn_0 : ((szP g0 : Nat) : Int) ≤ 1048576
     · have hz_0:=gt hn_0
       replace hn_0 : szP g0 ≤ 1048576 - (0):=by omega
       have hp_0 : (0 : Int) ≤ 1048576 - ((szP g0 : Nat) : Int):=by omega
       go_enter Try.func7,Try.ntmps7
       have hbw : Below w.heap.size w w:=Below.refl _ _
       go_wp2_with fail
       generalize hqwm2 : w.alloc (.cells #[.slice a0s0 a0n0 a0c0,.slice a0s1 a0n1 a0c1,.slice a0s2 a0n2 a0c2] 27) = wm2
       have hywm2 : wm2.heap.size = w.heap.size + 1:=by rw [← hqwm2];simp
       have hbwm2 : Below w.heap.size w wm2:=by rw [← hqwm2];exact (by repeat' (first|(with_reducible exact Below.refl _ _)|(with_reducible apply Below.alloc)|(with_reducible apply Below.drew)|(with_reducible apply bp)|omega|(simp only [World.size_alloc,World.size_setCell,World.size_drew];omega)))
       have HQwm2_0 : Blk wm2 (w.heap.size) [.slice a0s0 a0n0 a0c0,.slice a0s1 a0n1 a0c1,.slice a0s2 a0n2 a0c2] 27:=by rw [← hqwm2];have hnew:=il w [.slice a0s0 a0n0 a0c0,.slice a0s1 a0n1 a0c1,.slice a0s2 a0n2 a0c2] 27;(try simp only [World.size_alloc] at hnew);exact hnew
       have cf3 : wm2.cell? ⟨w.heap.size,0,none⟩ = some (.slice a0s0 a0n0 a0c0):=HQwm2_0.cell 0 rfl
       have cf4 : wm2.cell? ⟨w.heap.size,1,none⟩ = some (.slice a0s1 a0n1 a0c1):=HQwm2_0.cell 1 rfl
       have cf5 : wm2.cell? ⟨w.heap.size,2,none⟩ = some (.slice a0s2 a0n2 a0c2):=HQwm2_0.cell 2 rfl
       clear HQwm2_0
       clear hqwm2
       replace hbw : Below w.heap.size w wm2:=hbw.trans (hbwm2.mono hbw.size)
       have hzwm2 : w.heap.size ≤ wm2.heap.size:=hbwm2.size
       refine (pU _ _ _ _ (h0.below hbw) (by omega) (by omega)).mono ?_
       rw [hz_0]
       rintro e wc6 ⟨rfl,hbwc6⟩
       replace cf3:=aB cf3 hbwc6
       replace cf4:=aB cf4 hbwc6
       replace cf5:=aB cf5 hbwc6
       replace hbw : Below w.heap.size w wc6:=hbw.trans (hbwc6.mono hbw.size)
       have hzwc6 : wm2.heap.size ≤ wc6.heap.size:=hbwc6.size
       go_wp2_with fail
       refine (kg _ _ _ (h0.below hbw) (by omega)).mono ?_
       rintro e wc7 ⟨x8s0,x8n0,x8c0,x8s1,x8n1,x8c1,x8s2,x8n2,x8c2,rfl,howc7,hbwc7⟩
       replace howc7 : eu wc6.heap.size wc7.heap.size wc7 (.agg #[.slice x8s0 x8n0 x8c0,.slice x8s1 x8n1 x8c1,.slice x8s2 x8n2 x8c2]) g0:=howc7
       replace cf3:=aB cf3 hbwc7
       replace cf4:=aB cf4 hbwc7
       replace cf5:=aB cf5 hbwc7
       replace hbw : Below w.heap.size w wc7:=hbw.trans (hbwc7.mono hbw.size)
       have hzwc7 : wc6.heap.size ≤ wc7.heap.size:=hbwc7.size
       go_wp2_with fail
       refine (e8 (h1.below hbw) hn_1).mono ?_
       rintro e wc9 ⟨x10s0,x10n0,x10c0,rfl,howc9,hbwc9⟩
       replace howc9 : cO wc7.heap.size wc9.heap.size wc9 (.slice x10s0 x10n0 x10c0) g1:=howc9
       replace cf3:=aB cf3 hbwc9
       replace cf4:=aB cf4 hbwc9
       replace cf5:=aB cf5 hbwc9
       replace howc7:=howc7.below hbwc9
       replace hbw : Below w.heap.size w wc9:=hbw.trans (hbwc9.mono hbw.size)
       have hzwc9 : wc7.heap.size ≤ wc9.heap.size:=hbwc9.size
       go_wp2_with fail
       refine (e8 (h2.below hbw) hn_2).mono ?_
       rintro e wc11 ⟨x12s0,x12n0,x12c0,rfl,howc11,hbwc11⟩
       replace howc11 : cO wc9.heap.size wc11.heap.size wc11 (.slice x12s0 x12n0 x12c0) g2:=howc11
       replace cf3:=aB cf3 hbwc11
       replace cf4:=aB cf4 hbwc11
       replace cf5:=aB cf5 hbwc11
       replace howc7:=howc7.below hbwc11
       replace howc9:=howc9.below hbwc11
       replace hbw : Below w.heap.size w wc11:=hbw.trans (hbwc11.mono hbw.size)
       have hzwc11 : wc9.heap.size ≤ wc11.heap.size:=hbwc11.size
       go_wp2_with fail
       refine (rS _ _ _ _ _ _ _ _ howc7.is howc9.is howc11.is).mono ?_
       rintro e wc13 ⟨y14v0,y14s1,y14n1,y14c1,y14v2,rfl,howc13,hbwc13⟩
       replace howc13 : iH wc11.heap.size wc13.heap.size wc13 (.agg #[.int .i64 y14v0,.slice y14s1 y14n1 y14c1,.int .i64 y14v2]) (wrN g0 g1 g2 g3):=howc13
       replace cf3:=aB cf3 hbwc13
       replace cf4:=aB cf4 hbwc13
       replace cf5:=aB cf5 hbwc13
       replace howc7:=howc7.below hbwc13
       replace howc9:=howc9.below hbwc13
       replace howc11:=howc11.below hbwc13
       replace hbw : Below w.heap.size w wc13:=hbw.trans (hbwc13.mono hbw.size)
       have hzwc13 : wc11.heap.size ≤ wc13.heap.size:=hbwc13.size
       have hl16 : w.heap.size < wc13.heap.size:=by omega
       go_wp2_with fail
       generalize hqwm17 : wc13.alloc (.cells #[.int .i64 y14v0,.slice y14s1 y14n1 y14c1,.int .i64 y14v2] 50) = wm17
       have hywm17 : wm17.heap.size = wc13.heap.size + 1:=by rw [← hqwm17];simp
       have hbwm17 : Below wc13.heap.size wc13 wm17:=by rw [← hqwm17];exact (by repeat' (first|(with_reducible exact Below.refl _ _)|(with_reducible apply Below.alloc)|(with_reducible apply Below.drew)|(with_reducible apply bp)|omega|(simp only [World.size_alloc,World.size_setCell,World.size_drew];omega)))
       have HQwm17_0 : Blk wm17 (wc13.heap.size) [.int .i64 y14v0,.slice y14s1 y14n1 y14c1,.int .i64 y14v2] 50:=by rw [← hqwm17];have hnew:=il wc13 [.int .i64 y14v0,.slice y14s1 y14n1 y14c1,.int .i64 y14v2] 50;(try simp only [World.size_alloc] at hnew);exact hnew
       have cf18 : wm17.cell? ⟨wc13.heap.size,0,none⟩ = some (.int .i64 y14v0):=HQwm17_0.cell 0 rfl
       have cf19 : wm17.cell? ⟨wc13.heap.size,1,none⟩ = some (.slice y14s1 y14n1 y14c1):=HQwm17_0.cell 1 rfl
       have cf20 : wm17.cell? ⟨wc13.heap.size,2,none⟩ = some (.int .i64 y14v2):=HQwm17_0.cell 2 rfl
       clear HQwm17_0
       clear hqwm17
       replace cf3:=aB cf3 hbwm17
       replace cf4:=aB cf4 hbwm17
       replace cf5:=aB cf5 hbwm17
       replace howc7:=howc7.below hbwm17
       replace howc9:=howc9.below hbwm17
       replace howc11:=howc11.below hbwm17
       replace howc13:=howc13.below hbwm17
       replace hbw : Below w.heap.size w wm17:=hbw.trans (hbwm17.mono hbw.size)
       have hzwm17 : wc13.heap.size ≤ wm17.heap.size:=hbwm17.size
       refine (kg _ _ _ (h0.below hbw) (by omega)).mono ?_
       rintro e wc21 ⟨x22s0,x22n0,x22c0,x22s1,x22n1,x22c1,x22s2,x22n2,x22c2,rfl,howc21,hbwc21⟩
       replace howc21 : eu wm17.heap.size wc21.heap.size wc21 (.agg #[.slice x22s0 x22n0 x22c0,.slice x22s1 x22n1 x22c1,.slice x22s2 x22n2 x22c2]) g0:=howc21
       replace cf3:=aB cf3 hbwc21
       replace cf4:=aB cf4 hbwc21
       replace cf5:=aB cf5 hbwc21
       replace cf18:=aB cf18 hbwc21
       replace cf19:=aB cf19 hbwc21
       replace cf20:=aB cf20 hbwc21
       replace howc7:=howc7.below hbwc21
       replace howc9:=howc9.below hbwc21
       replace howc11:=howc11.below hbwc21
       replace howc13:=howc13.below hbwc21
       replace hbw : Below w.heap.size w wc21:=hbw.trans (hbwc21.mono hbw.size)
       have hzwc21 : wm17.heap.size ≤ wc21.heap.size:=hbwc21.size
       have hl24 : w.heap.size < wc21.heap.size:=by omega
       have hl25 : wc13.heap.size < wc21.heap.size:=by omega
       go_wp2_with fail
       generalize hqwm26 : wc21.alloc (.cells #[.slice x22s0 x22n0 x22c0,.slice x22s1 x22n1 x22c1,.slice x22s2 x22n2 x22c2] 32) = wm26
       have hywm26 : wm26.heap.size = wc21.heap.size + 1:=by rw [← hqwm26];simp
       have hbwm26 : Below wc21.heap.size wc21 wm26:=by rw [← hqwm26];exact (by repeat' (first|(with_reducible exact Below.refl _ _)|(with_reducible apply Below.alloc)|(with_reducible apply Below.drew)|(with_reducible apply bp)|omega|(simp only [World.size_alloc,World.size_setCell,World.size_drew];omega)))
       have HQwm26_0 : Blk wm26 (wc21.heap.size) [.slice x22s0 x22n0 x22c0,.slice x22s1 x22n1 x22c1,.slice x22s2 x22n2 x22c2] 32:=by rw [← hqwm26];have hnew:=il wc21 [.slice x22s0 x22n0 x22c0,.slice x22s1 x22n1 x22c1,.slice x22s2 x22n2 x22c2] 32;(try simp only [World.size_alloc] at hnew);exact hnew
       have cf27 : wm26.cell? ⟨wc21.heap.size,0,none⟩ = some (.slice x22s0 x22n0 x22c0):=HQwm26_0.cell 0 rfl
       have cf28 : wm26.cell? ⟨wc21.heap.size,1,none⟩ = some (.slice x22s1 x22n1 x22c1):=HQwm26_0.cell 1 rfl
       have cf29 : wm26.cell? ⟨wc21.heap.size,2,none⟩ = some (.slice x22s2 x22n2 x22c2):=HQwm26_0.cell 2 rfl
       clear HQwm26_0
       clear hqwm26
       replace cf3:=aB cf3 hbwm26
       replace cf4:=aB cf4 hbwm26
       replace cf5:=aB cf5 hbwm26
       replace cf18:=aB cf18 hbwm26
       replace cf19:=aB cf19 hbwm26
       replace cf20:=aB cf20 hbwm26
       replace howc7:=howc7.below hbwm26
       replace howc9:=howc9.below hbwm26
       replace howc11:=howc11.below hbwm26
       replace howc13:=howc13.below hbwm26
       replace howc21:=howc21.below hbwm26
       replace hbw : Below w.heap.size w wm26:=hbw.trans (hbwm26.mono hbw.size)
       have hzwm26 : wc21.heap.size ≤ wm26.heap.size:=hbwm26.size
       refine (e8 (h1.below hbw) hn_1).mono ?_
       rintro e wc30 ⟨x31s0,x31n0,x31c0,rfl,howc30,hbwc30⟩
       replace howc30 : cO wm26.heap.size wc30.heap.size wc30 (.slice x31s0 x31n0 x31c0) g1:=howc30
       replace cf3:=aB cf3 hbwc30
       replace cf4:=aB cf4 hbwc30
       replace cf5:=aB cf5 hbwc30
       replace cf18:=aB cf18 hbwc30
       replace cf19:=aB cf19 hbwc30
       replace cf20:=aB cf20 hbwc30
       replace cf27:=aB cf27 hbwc30
       replace cf28:=aB cf28 hbwc30
       replace cf29:=aB cf29 hbwc30
       replace howc7:=howc7.below hbwc30
       replace howc9:=howc9.below hbwc30
       replace howc11:=howc11.below hbwc30
       replace howc13:=howc13.below hbwc30
       replace howc21:=howc21.below hbwc30
       replace hbw : Below w.heap.size w wc30:=hbw.trans (hbwc30.mono hbw.size)
       have hzwc30 : wm26.heap.size ≤ wc30.heap.size:=hbwc30.size
       go_wp2_with fail
       refine (e8 (h2.below hbw) hn_2).mono ?_
       rintro e wc32 ⟨x33s0,x33n0,x33c0,rfl,howc32,hbwc32⟩
       replace howc32 : cO wc30.heap.size wc32.heap.size wc32 (.slice x33s0 x33n0 x33c0) g2:=howc32
       replace cf3:=aB cf3 hbwc32
       replace cf4:=aB cf4 hbwc32
       replace cf5:=aB cf5 hbwc32
       replace cf18:=aB cf18 hbwc32
       replace cf19:=aB cf19 hbwc32
       replace cf20:=aB cf20 hbwc32
       replace cf27:=aB cf27 hbwc32
       replace cf28:=aB cf28 hbwc32
       replace cf29:=aB cf29 hbwc32
       replace howc7:=howc7.below hbwc32
       replace howc9:=howc9.below hbwc32
       replace howc11:=howc11.below hbwc32
       replace howc13:=howc13.below hbwc32
       replace howc21:=howc21.below hbwc32
       replace howc30:=howc30.below hbwc32
       replace hbw : Below w.heap.size w wc32:=hbw.trans (hbwc32.mono hbw.size)
       have hzwc32 : wc30.heap.size ≤ wc32.heap.size:=hbwc32.size
       go_wp2_with fail
       refine (mb _ _ _ _ _ _ _ _ howc21.is howc30.is howc32.is).mono ?_
       rintro e wc34 ⟨y35v0,y35s1,y35n1,y35c1,y35v2,rfl,howc34,hbwc34⟩
       replace howc34 : iH wc32.heap.size wc34.heap.size wc34 (.agg #[.int .i64 y35v0,.slice y35s1 y35n1 y35c1,.int .i64 y35v2]) (wrN g0 g1 g2 g3):=howc34
       replace cf3:=aB cf3 hbwc34
       replace cf4:=aB cf4 hbwc34
       replace cf5:=aB cf5 hbwc34
       replace cf18:=aB cf18 hbwc34
       replace cf19:=aB cf19 hbwc34
       replace cf20:=aB cf20 hbwc34
       replace cf27:=aB cf27 hbwc34
       replace cf28:=aB cf28 hbwc34
       replace cf29:=aB cf29 hbwc34
       replace howc7:=howc7.below hbwc34
       replace howc9:=howc9.below hbwc34
       replace howc11:=howc11.below hbwc34
       replace howc13:=howc13.below hbwc34
       replace howc21:=howc21.below hbwc34
       replace howc30:=howc30.below hbwc34
       replace howc32:=howc32.below hbwc34
       replace hbw : Below w.heap.size w wc34:=hbw.trans (hbwc34.mono hbw.size)
       have hzwc34 : wc32.heap.size ≤ wc34.heap.size:=hbwc34.size
       have hlimwc34 : szW (wrN g0 g1 g2 g3) ≤ 1048576:=ud g0 g1 g2 g3
       have hl37 : w.heap.size < wc34.heap.size:=by omega
       have hl38 : wc13.heap.size < wc34.heap.size:=by omega
       have hl39 : wc21.heap.size < wc34.heap.size:=by omega
       go_wp2_with fail
       generalize hqwm40 : wc34.alloc (.cells #[.int .i64 y35v0,.slice y35s1 y35n1 y35c1,.int .i64 y35v2] 50) = wm40
       have hywm40 : wm40.heap.size = wc34.heap.size + 1:=by rw [← hqwm40];simp
       have hbwm40 : Below wc34.heap.size wc34 wm40:=by rw [← hqwm40];exact (by repeat' (first|(with_reducible exact Below.refl _ _)|(with_reducible apply Below.alloc)|(with_reducible apply Below.drew)|(with_reducible apply bp)|omega|(simp only [World.size_alloc,World.size_setCell,World.size_drew];omega)))
       have HQwm40_0 : Blk wm40 (wc34.heap.size) [.int .i64 y35v0,.slice y35s1 y35n1 y35c1,.int .i64 y35v2] 50:=by rw [← hqwm40];have hnew:=il wc34 [.int .i64 y35v0,.slice y35s1 y35n1 y35c1,.int .i64 y35v2] 50;(try simp only [World.size_alloc] at hnew);exact hnew
       have cf41 : wm40.cell? ⟨wc34.heap.size,0,none⟩ = some (.int .i64 y35v0):=HQwm40_0.cell 0 rfl
       have cf42 : wm40.cell? ⟨wc34.heap.size,1,none⟩ = some (.slice y35s1 y35n1 y35c1):=HQwm40_0.cell 1 rfl
       have cf43 : wm40.cell? ⟨wc34.heap.size,2,none⟩ = some (.int .i64 y35v2):=HQwm40_0.cell 2 rfl
       clear HQwm40_0
       clear hqwm40
       replace cf3:=aB cf3 hbwm40
       replace cf4:=aB cf4 hbwm40
       replace cf5:=aB cf5 hbwm40
       replace cf18:=aB cf18 hbwm40
       replace cf19:=aB cf19 hbwm40
       replace cf20:=aB cf20 hbwm40
       replace cf27:=aB cf27 hbwm40
       replace cf28:=aB cf28 hbwm40
       replace cf29:=aB cf29 hbwm40
       replace howc7:=howc7.below hbwm40
       replace howc9:=howc9.below hbwm40
       replace howc11:=howc11.below hbwm40
       replace howc13:=howc13.below hbwm40
       replace howc21:=howc21.below hbwm40
       replace howc30:=howc30.below hbwm40
       replace howc32:=howc32.below hbwm40
       replace howc34:=howc34.below hbwm40
       replace hbw : Below w.heap.size w wm40:=hbw.trans (hbwm40.mono hbw.size)
       have hzwm40 : wc34.heap.size ≤ wm40.heap.size:=hbwm40.size
       refine (nb _ _ _ _ _ howc34.is howc13.is).mono ?_
       rw [aP rfl]
       rintro e wc44 ⟨rfl,hbwc44⟩
       replace cf3:=aB cf3 hbwc44
       replace cf4:=aB cf4 hbwc44
       replace cf5:=aB cf5 hbwc44
       replace cf18:=aB cf18 hbwc44
       replace cf19:=aB cf19 hbwc44
       replace cf20:=aB cf20 hbwc44
       replace cf27:=aB cf27 hbwc44
       replace cf28:=aB cf28 hbwc44
       replace cf29:=aB cf29 hbwc44
       replace cf41:=aB cf41 hbwc44
       replace cf42:=aB cf42 hbwc44
       replace cf43:=aB cf43 hbwc44
       replace howc7:=howc7.below hbwc44
       replace howc9:=howc9.below hbwc44
       replace howc11:=howc11.below hbwc44
       replace howc13:=howc13.below hbwc44
       replace howc21:=howc21.below hbwc44
       replace howc30:=howc30.below hbwc44
       replace howc32:=howc32.below hbwc44
       replace howc34:=howc34.below hbwc44
       replace hbw : Below w.heap.size w wc44:=hbw.trans (hbwc44.mono hbw.size)
       have hzwc44 : wm40.heap.size ≤ wc44.heap.size:=hbwc44.size
       go_wp2_with fail
       go_region_held3 (fun w'=>w'.cell? ⟨wc21.heap.size,0,none⟩ = some (.slice x22s0 x22n0 x22c0) ∧ w'.cell? ⟨wc21.heap.size,1,none⟩ = some (.slice x22s1 x22n1 x22c1) ∧ w'.cell? ⟨wc21.heap.size,2,none⟩ = some (.slice x22s2 x22n2 x22c2) ∧ w'.cell? ⟨w.heap.size,0,none⟩ = some (.slice a0s0 a0n0 a0c0) ∧ w'.cell? ⟨w.heap.size,1,none⟩ = some (.slice a0s1 a0n1 a0c1) ∧ w'.cell? ⟨w.heap.size,2,none⟩ = some (.slice a0s2 a0n2 a0c2)) (first|exact ⟨cf27,cf28,cf29,cf3,cf4,cf5⟩|go_keep)
        (first
         | (go_at_call 16; (with_reducible refine (kg _ _ _ ((h0.below hbw)).drew (by omega)).mono ?_); rintro e wc45 ⟨x46s0, x46n0, x46c0, x46s1, x46n1, x46c1, x46s2, x46n2, x46c2, rfl, howc45, hbwc45⟩; replace howc45 : eu wc44.heap.size wc45.heap.size wc45 (.agg #[.slice x46s0 x46n0 x46c0, .slice x46s1 x46n1 x46c1, .slice x46s2 x46n2 x46c2]) g0 := howc45; replace hbwc45 : Below wc44.heap.size wc44 wc45 := (c8 _).trans hbwc45; replace cf3 := aB cf3 hbwc45; replace cf4 := aB cf4 hbwc45; replace cf5 := aB cf5 hbwc45; replace cf18 := aB cf18 hbwc45; replace cf19 := aB cf19 hbwc45; replace cf20 := aB cf20 hbwc45; replace cf27 := aB cf27 hbwc45; replace cf28 := aB cf28 hbwc45; replace cf29 := aB cf29 hbwc45; replace cf41 := aB cf41 hbwc45; replace cf42 := aB cf42 hbwc45; replace cf43 := aB cf43 hbwc45; replace howc7 := howc7.below hbwc45; replace howc9 := howc9.below hbwc45; replace howc11 := howc11.below hbwc45; replace howc13 := howc13.below hbwc45; replace howc21 := howc21.below hbwc45; replace howc30 := howc30.below hbwc45; replace howc32 := howc32.below hbwc45; replace howc34 := howc34.below hbwc45; replace hbw : Below w.heap.size w wc45 := hbw.trans (hbwc45.mono hbw.size); have hzwc45 : wc44.heap.size ≤ wc45.heap.size := hbwc45.size)
         | (go_at_call 18; (with_reducible refine (uh _ _ _ _ _ howc21.is howc45.is).mono ?_); rw [aP rfl]; rintro e wc47 ⟨rfl, hbwc47⟩; replace cf3 := aB cf3 hbwc47; replace cf4 := aB cf4 hbwc47; replace cf5 := aB cf5 hbwc47; replace cf18 := aB cf18 hbwc47; replace cf19 := aB cf19 hbwc47; replace cf20 := aB cf20 hbwc47; replace cf27 := aB cf27 hbwc47; replace cf28 := aB cf28 hbwc47; replace cf29 := aB cf29 hbwc47; replace cf41 := aB cf41 hbwc47; replace cf42 := aB cf42 hbwc47; replace cf43 := aB cf43 hbwc47; replace howc7 := howc7.below hbwc47; replace howc9 := howc9.below hbwc47; replace howc11 := howc11.below hbwc47; replace howc13 := howc13.below hbwc47; replace howc21 := howc21.below hbwc47; replace howc30 := howc30.below hbwc47; replace howc32 := howc32.below hbwc47; replace howc34 := howc34.below hbwc47; replace howc45 := howc45.below hbwc47; replace hbw : Below w.heap.size w wc47 := hbw.trans (hbwc47.mono hbw.size); have hzwc47 : wc45.heap.size ≤ wc47.heap.size := hbwc47.size))
       go_wp2_with fail
       refine (e8 (h1.below hbw) hn_1).mono ?_
       rintro e wc48 ⟨x49s0,x49n0,x49c0,rfl,howc48,hbwc48⟩
       replace howc48 : cO wc47.heap.size wc48.heap.size wc48 (.slice x49s0 x49n0 x49c0) g1:=howc48
       replace cf3:=aB cf3 hbwc48
       replace cf4:=aB cf4 hbwc48
       replace cf5:=aB cf5 hbwc48
       replace cf18:=aB cf18 hbwc48
       replace cf19:=aB cf19 hbwc48
       replace cf20:=aB cf20 hbwc48
       replace cf27:=aB cf27 hbwc48
       replace cf28:=aB cf28 hbwc48
       replace cf29:=aB cf29 hbwc48
       replace cf41:=aB cf41 hbwc48
       replace cf42:=aB cf42 hbwc48
       replace cf43:=aB cf43 hbwc48
       replace howc7:=howc7.below hbwc48
       replace howc9:=howc9.below hbwc48
       replace howc11:=howc11.below hbwc48
       replace howc13:=howc13.below hbwc48
       replace howc21:=howc21.below hbwc48
       replace howc30:=howc30.below hbwc48
       replace howc32:=howc32.below hbwc48
       replace howc34:=howc34.below hbwc48
       replace howc45:=howc45.below hbwc48
       replace hbw : Below w.heap.size w wc48:=hbw.trans (hbwc48.mono hbw.size)
       have hzwc48 : wc47.heap.size ≤ wc48.heap.size:=hbwc48.size
       go_wp2_with fail
       refine (nr howc30.is howc48.is).mono ?_
       rw [aP rfl]
       rintro e wc50 ⟨rfl,hbwc50⟩
       replace cf3:=aB cf3 hbwc50
       replace cf4:=aB cf4 hbwc50
       replace cf5:=aB cf5 hbwc50
       replace cf18:=aB cf18 hbwc50
       replace cf19:=aB cf19 hbwc50
       replace cf20:=aB cf20 hbwc50
       replace cf27:=aB cf27 hbwc50
       replace cf28:=aB cf28 hbwc50
       replace cf29:=aB cf29 hbwc50
       replace cf41:=aB cf41 hbwc50
       replace cf42:=aB cf42 hbwc50
       replace cf43:=aB cf43 hbwc50
       replace howc7:=howc7.below hbwc50
       replace howc9:=howc9.below hbwc50
       replace howc11:=howc11.below hbwc50
       replace howc13:=howc13.below hbwc50
       replace howc21:=howc21.below hbwc50
       replace howc30:=howc30.below hbwc50
       replace howc32:=howc32.below hbwc50
       replace howc34:=howc34.below hbwc50
       replace howc45:=howc45.below hbwc50
       replace howc48:=howc48.below hbwc50
       replace hbw : Below w.heap.size w wc50:=hbw.trans (hbwc50.mono hbw.size)
       have hzwc50 : wc48.heap.size ≤ wc50.heap.size:=hbwc50.size
       go_wp2_with fail
       refine (e8 (h2.below hbw) hn_2).mono ?_
       rintro e wc51 ⟨x52s0,x52n0,x52c0,rfl,howc51,hbwc51⟩
       replace howc51 : cO wc50.heap.size wc51.heap.size wc51 (.slice x52s0 x52n0 x52c0) g2:=howc51
       replace cf3:=aB cf3 hbwc51
       replace cf4:=aB cf4 hbwc51
       replace cf5:=aB cf5 hbwc51
       replace cf18:=aB cf18 hbwc51
       replace cf19:=aB cf19 hbwc51
       replace cf20:=aB cf20 hbwc51
       replace cf27:=aB cf27 hbwc51
       replace cf28:=aB cf28 hbwc51
       replace cf29:=aB cf29 hbwc51
       replace cf41:=aB cf41 hbwc51
       replace cf42:=aB cf42 hbwc51
       replace cf43:=aB cf43 hbwc51
       replace howc7:=howc7.below hbwc51
       replace howc9:=howc9.below hbwc51
       replace howc11:=howc11.below hbwc51
       replace howc13:=howc13.below hbwc51
       replace howc21:=howc21.below hbwc51
       replace howc30:=howc30.below hbwc51
       replace howc32:=howc32.below hbwc51
       replace howc34:=howc34.below hbwc51
       replace howc45:=howc45.below hbwc51
       replace howc48:=howc48.below hbwc51
       replace hbw : Below w.heap.size w wc51:=hbw.trans (hbwc51.mono hbw.size)
       have hzwc51 : wc50.heap.size ≤ wc51.heap.size:=hbwc51.size
       go_wp2_with fail
       refine (nr howc32.is howc51.is).mono ?_
       rw [aP rfl]
       rintro e wc53 ⟨rfl,hbwc53⟩
       replace cf3:=aB cf3 hbwc53
       replace cf4:=aB cf4 hbwc53
       replace cf5:=aB cf5 hbwc53
       replace cf18:=aB cf18 hbwc53
       replace cf19:=aB cf19 hbwc53
       replace cf20:=aB cf20 hbwc53
       replace cf27:=aB cf27 hbwc53
       replace cf28:=aB cf28 hbwc53
       replace cf29:=aB cf29 hbwc53
       replace cf41:=aB cf41 hbwc53
       replace cf42:=aB cf42 hbwc53
       replace cf43:=aB cf43 hbwc53
       replace howc7:=howc7.below hbwc53
       replace howc9:=howc9.below hbwc53
       replace howc11:=howc11.below hbwc53
       replace howc13:=howc13.below hbwc53
       replace howc21:=howc21.below hbwc53
       replace howc30:=howc30.below hbwc53
       replace howc32:=howc32.below hbwc53
       replace howc34:=howc34.below hbwc53
       replace howc45:=howc45.below hbwc53
       replace howc48:=howc48.below hbwc53
       replace howc51:=howc51.below hbwc53
       replace hbw : Below w.heap.size w wc53:=hbw.trans (hbwc53.mono hbw.size)
       have hzwc53 : wc51.heap.size ≤ wc53.heap.size:=hbwc53.size
       go_wp2_with fail
       refine (qX howc21 _ (by omega) (by omega) (by omega) (by omega)).mono ?_
       rintro e wc54 ⟨rfl,hmwc54,hOwc54⟩
       replace cf3:=cM cf3 hOwc54 (by omega)
       replace cf4:=cM cf4 hOwc54 (by omega)
       replace cf5:=cM cf5 hOwc54 (by omega)
       replace cf18:=cM cf18 hOwc54 (by omega)
       replace cf19:=cM cf19 hOwc54 (by omega)
       replace cf20:=cM cf20 hOwc54 (by omega)
       replace cf27:=cM cf27 hOwc54 (by omega)
       replace cf28:=cM cf28 hOwc54 (by omega)
       replace cf29:=cM cf29 hOwc54 (by omega)
       replace cf41:=cM cf41 hOwc54 (by omega)
       replace cf42:=cM cf42 hOwc54 (by omega)
       replace cf43:=cM cf43 hOwc54 (by omega)
       replace howc7:=howc7.out hOwc54 (by omega)
       replace howc9:=howc9.out hOwc54 (by omega)
       replace howc11:=howc11.out hOwc54 (by omega)
       replace howc13:=howc13.out hOwc54 (by omega)
       replace howc30:=howc30.out hOwc54 (by omega)
       replace howc32:=howc32.out hOwc54 (by omega)
       replace howc34:=howc34.out hOwc54 (by omega)
       replace howc45:=howc45.out hOwc54 (by omega)
       replace howc48:=howc48.out hOwc54 (by omega)
       replace howc51:=howc51.out hOwc54 (by omega)
       replace hbw : Below w.heap.size w wc54:=hbw.trans (hOwc54.below (by omega))
       have hzwc54 : wc53.heap.size ≤ wc54.heap.size:=hOwc54.size
       have hlfwc54 : pS g0 ≤ szP g0:=by unfold pS i5 fx szP szA jA;omega
       go_wp2_with fail
       have hkiwc55 : x31n0 ≤ 1048576:=by have h1:=howc30.len;have h2:=he1.out;omega
       refine (lC howc30 _ (by omega) (by omega) (by omega)).mono ?_
       rintro e wc55 ⟨rfl,hmwc55,hOwc55⟩
       replace cf3:=cM cf3 hOwc55 (by omega)
       replace cf4:=cM cf4 hOwc55 (by omega)
       replace cf5:=cM cf5 hOwc55 (by omega)
       replace cf18:=cM cf18 hOwc55 (by omega)
       replace cf19:=cM cf19 hOwc55 (by omega)
       replace cf20:=cM cf20 hOwc55 (by omega)
       replace cf27:=cM cf27 hOwc55 (by omega)
       replace cf28:=cM cf28 hOwc55 (by omega)
       replace cf29:=cM cf29 hOwc55 (by omega)
       replace cf41:=cM cf41 hOwc55 (by omega)
       replace cf42:=cM cf42 hOwc55 (by omega)
       replace cf43:=cM cf43 hOwc55 (by omega)
       replace howc7:=howc7.out hOwc55 (by omega)
       replace howc9:=howc9.out hOwc55 (by omega)
       replace howc11:=howc11.out hOwc55 (by omega)
       replace howc13:=howc13.out hOwc55 (by omega)
       replace howc32:=howc32.out hOwc55 (by omega)
       replace howc34:=howc34.out hOwc55 (by omega)
       replace howc45:=howc45.out hOwc55 (by omega)
       replace howc48:=howc48.out hOwc55 (by omega)
       replace howc51:=howc51.out hOwc55 (by omega)
       replace hmwc54:=hmwc54.out hOwc55 (by omega)
       replace hbw : Below w.heap.size w wc55:=hbw.trans (hOwc55.below (by omega))
       have hzwc55 : wc54.heap.size ≤ wc55.heap.size:=hOwc55.size
       go_wp2_with fail
       have hkiwc56 : x33n0 ≤ 1048576:=by have h1:=howc32.len;have h2:=he2.out;omega
       refine (lC howc32 _ (by omega) (by omega) (by omega)).mono ?_
       rintro e wc56 ⟨rfl,hmwc56,hOwc56⟩
       replace cf3:=cM cf3 hOwc56 (by omega)
       replace cf4:=cM cf4 hOwc56 (by omega)
       replace cf5:=cM cf5 hOwc56 (by omega)
       replace cf18:=cM cf18 hOwc56 (by omega)
       replace cf19:=cM cf19 hOwc56 (by omega)
       replace cf20:=cM cf20 hOwc56 (by omega)
       replace cf27:=cM cf27 hOwc56 (by omega)
       replace cf28:=cM cf28 hOwc56 (by omega)
       replace cf29:=cM cf29 hOwc56 (by omega)
       replace cf41:=cM cf41 hOwc56 (by omega)
       replace cf42:=cM cf42 hOwc56 (by omega)
       replace cf43:=cM cf43 hOwc56 (by omega)
       replace howc7:=howc7.out hOwc56 (by omega)
       replace howc9:=howc9.out hOwc56 (by omega)
       replace howc11:=howc11.out hOwc56 (by omega)
       replace howc13:=howc13.out hOwc56 (by omega)
       replace howc34:=howc34.out hOwc56 (by omega)
       replace howc45:=howc45.out hOwc56 (by omega)
       replace howc48:=howc48.out hOwc56 (by omega)
       replace howc51:=howc51.out hOwc56 (by omega)
       replace hmwc54:=hmwc54.out hOwc56 (by omega)
       replace hmwc55:=hmwc55.out hOwc56 (by omega)
       replace hbw : Below w.heap.size w wc56:=hbw.trans (hOwc56.below (by omega))
       have hzwc56 : wc55.heap.size ≤ wc56.heap.size:=hOwc56.size
       go_wp2_with fail
       refine (nb _ _ _ _ _ howc34.is howc13.is).mono ?_
       rw [aP rfl]
       rintro e wc57 ⟨rfl,hbwc57⟩
       replace cf3:=aB cf3 hbwc57
       replace cf4:=aB cf4 hbwc57
       replace cf5:=aB cf5 hbwc57
       replace cf18:=aB cf18 hbwc57
       replace cf19:=aB cf19 hbwc57
       replace cf20:=aB cf20 hbwc57
       replace cf27:=aB cf27 hbwc57
       replace cf28:=aB cf28 hbwc57
       replace cf29:=aB cf29 hbwc57
       replace cf41:=aB cf41 hbwc57
       replace cf42:=aB cf42 hbwc57
       replace cf43:=aB cf43 hbwc57
       replace howc7:=howc7.below hbwc57
       replace howc9:=howc9.below hbwc57
       replace howc11:=howc11.below hbwc57
       replace howc13:=howc13.below hbwc57
       replace howc34:=howc34.below hbwc57
       replace howc45:=howc45.below hbwc57
       replace howc48:=howc48.below hbwc57
       replace howc51:=howc51.below hbwc57
       replace hmwc54:=hmwc54.below hbwc57
       replace hmwc55:=hmwc55.below hbwc57
       replace hmwc56:=hmwc56.below hbwc57
       replace hbw : Below w.heap.size w wc57:=hbw.trans (hbwc57.mono hbw.size)
       have hzwc57 : wc56.heap.size ≤ wc57.heap.size:=hbwc57.size
       go_wp2_with fail
       refine (rR howc34 _ (by omega) (by omega) (by omega) (by omega)).mono ?_
       rintro e wc58 ⟨rfl,hmwc58,hOwc58⟩
       replace cf3:=cM cf3 hOwc58 (by omega)
       replace cf4:=cM cf4 hOwc58 (by omega)
       replace cf5:=cM cf5 hOwc58 (by omega)
       replace cf18:=cM cf18 hOwc58 (by omega)
       replace cf19:=cM cf19 hOwc58 (by omega)
       replace cf20:=cM cf20 hOwc58 (by omega)
       replace cf27:=cM cf27 hOwc58 (by omega)
       replace cf28:=cM cf28 hOwc58 (by omega)
       replace cf29:=cM cf29 hOwc58 (by omega)
       replace cf41:=cM cf41 hOwc58 (by omega)
       replace cf42:=cM cf42 hOwc58 (by omega)
       replace cf43:=cM cf43 hOwc58 (by omega)
       replace howc7:=howc7.out hOwc58 (by omega)
       replace howc9:=howc9.out hOwc58 (by omega)
       replace howc11:=howc11.out hOwc58 (by omega)
       replace howc13:=howc13.out hOwc58 (by omega)
       replace howc45:=howc45.out hOwc58 (by omega)
       replace howc48:=howc48.out hOwc58 (by omega)
       replace howc51:=howc51.out hOwc58 (by omega)
       replace hmwc54:=hmwc54.out hOwc58 (by omega)
       replace hmwc55:=hmwc55.out hOwc58 (by omega)
       replace hmwc56:=hmwc56.out hOwc58 (by omega)
       replace hbw : Below w.heap.size w wc58:=hbw.trans (hOwc58.below (by omega))
       have hzwc58 : wc57.heap.size ≤ wc58.heap.size:=hOwc58.size
       go_wp2_with fail
       refine (l9 _ _ hmwc58.is (by omega) (by omega) (by omega)).mono ?_
       rintro e wc59 ⟨rfl,hbwc59⟩
       replace cf3:=aB cf3 hbwc59
       replace cf4:=aB cf4 hbwc59
       replace cf5:=aB cf5 hbwc59
       replace cf18:=aB cf18 hbwc59
       replace cf19:=aB cf19 hbwc59
       replace cf20:=aB cf20 hbwc59
       replace cf27:=aB cf27 hbwc59
       replace cf28:=aB cf28 hbwc59
       replace cf29:=aB cf29 hbwc59
       replace cf41:=aB cf41 hbwc59
       replace cf42:=aB cf42 hbwc59
       replace cf43:=aB cf43 hbwc59
       replace howc7:=howc7.below hbwc59
       replace howc9:=howc9.below hbwc59
       replace howc11:=howc11.below hbwc59
       replace howc13:=howc13.below hbwc59
       replace howc45:=howc45.below hbwc59
       replace howc48:=howc48.below hbwc59
       replace howc51:=howc51.below hbwc59
       replace hmwc54:=hmwc54.below hbwc59
       replace hmwc55:=hmwc55.below hbwc59
       replace hmwc56:=hmwc56.below hbwc59
       replace hmwc58:=hmwc58.below hbwc59
       replace hbw : Below w.heap.size w wc59:=hbw.trans (hbwc59.mono hbw.size)
       have hzwc59 : wc58.heap.size ≤ wc59.heap.size:=hbwc59.size
       go_wp2_with fail
       refine (kg _ _ _ (h0.below hbw) (by omega)).mono ?_
       rintro e wc60 ⟨x61s0,x61n0,x61c0,x61s1,x61n1,x61c1,x61s2,x61n2,x61c2,rfl,howc60,hbwc60⟩
       replace howc60 : eu wc59.heap.size wc60.heap.size wc60 (.agg #[.slice x61s0 x61n0 x61c0,.slice x61s1 x61n1 x61c1,.slice x61s2 x61n2 x61c2]) g0:=howc60
       replace cf3:=aB cf3 hbwc60
       replace cf4:=aB cf4 hbwc60
       replace cf5:=aB cf5 hbwc60
       replace cf18:=aB cf18 hbwc60
       replace cf19:=aB cf19 hbwc60
       replace cf20:=aB cf20 hbwc60
       replace cf27:=aB cf27 hbwc60
       replace cf28:=aB cf28 hbwc60
       replace cf29:=aB cf29 hbwc60
       replace cf41:=aB cf41 hbwc60
       replace cf42:=aB cf42 hbwc60
       replace cf43:=aB cf43 hbwc60
       replace howc7:=howc7.below hbwc60
       replace howc9:=howc9.below hbwc60
       replace howc11:=howc11.below hbwc60
       replace howc13:=howc13.below hbwc60
       replace howc45:=howc45.below hbwc60
       replace howc48:=howc48.below hbwc60
       replace howc51:=howc51.below hbwc60
       replace hmwc54:=hmwc54.below hbwc60
       replace hmwc55:=hmwc55.below hbwc60
       replace hmwc56:=hmwc56.below hbwc60
       replace hmwc58:=hmwc58.below hbwc60
       replace hbw : Below w.heap.size w wc60:=hbw.trans (hbwc60.mono hbw.size)
       have hzwc60 : wc59.heap.size ≤ wc60.heap.size:=hbwc60.size
       go_wp2_with fail
       refine (e8 (h1.below hbw) hn_1).mono ?_
       rintro e wc62 ⟨x63s0,x63n0,x63c0,rfl,howc62,hbwc62⟩
       replace howc62 : cO wc60.heap.size wc62.heap.size wc62 (.slice x63s0 x63n0 x63c0) g1:=howc62
       replace cf3:=aB cf3 hbwc62
       replace cf4:=aB cf4 hbwc62
       replace cf5:=aB cf5 hbwc62
       replace cf18:=aB cf18 hbwc62
       replace cf19:=aB cf19 hbwc62
       replace cf20:=aB cf20 hbwc62
       replace cf27:=aB cf27 hbwc62
       replace cf28:=aB cf28 hbwc62
       replace cf29:=aB cf29 hbwc62
       replace cf41:=aB cf41 hbwc62
       replace cf42:=aB cf42 hbwc62
       replace cf43:=aB cf43 hbwc62
       replace howc7:=howc7.below hbwc62
       replace howc9:=howc9.below hbwc62
       replace howc11:=howc11.below hbwc62
       replace howc13:=howc13.below hbwc62
       replace howc45:=howc45.below hbwc62
       replace howc48:=howc48.below hbwc62
       replace howc51:=howc51.below hbwc62
       replace hmwc54:=hmwc54.below hbwc62
       replace hmwc55:=hmwc55.below hbwc62
       replace hmwc56:=hmwc56.below hbwc62
       replace hmwc58:=hmwc58.below hbwc62
       replace howc60:=howc60.below hbwc62
       replace hbw : Below w.heap.size w wc62:=hbw.trans (hbwc62.mono hbw.size)
       have hzwc62 : wc60.heap.size ≤ wc62.heap.size:=hbwc62.size
       go_wp2_with fail
       refine (e8 (h2.below hbw) hn_2).mono ?_
       rintro e wc64 ⟨x65s0,x65n0,x65c0,rfl,howc64,hbwc64⟩
       replace howc64 : cO wc62.heap.size wc64.heap.size wc64 (.slice x65s0 x65n0 x65c0) g2:=howc64
       replace cf3:=aB cf3 hbwc64
       replace cf4:=aB cf4 hbwc64
       replace cf5:=aB cf5 hbwc64
       replace cf18:=aB cf18 hbwc64
       replace cf19:=aB cf19 hbwc64
       replace cf20:=aB cf20 hbwc64
       replace cf27:=aB cf27 hbwc64
       replace cf28:=aB cf28 hbwc64
       replace cf29:=aB cf29 hbwc64
       replace cf41:=aB cf41 hbwc64
       replace cf42:=aB cf42 hbwc64
       replace cf43:=aB cf43 hbwc64
       replace howc7:=howc7.below hbwc64
       replace howc9:=howc9.below hbwc64
       replace howc11:=howc11.below hbwc64
       replace howc13:=howc13.below hbwc64
       replace howc45:=howc45.below hbwc64
       replace howc48:=howc48.below hbwc64
       replace howc51:=howc51.below hbwc64
       replace hmwc54:=hmwc54.below hbwc64
       replace hmwc55:=hmwc55.below hbwc64
       replace hmwc56:=hmwc56.below hbwc64
       replace hmwc58:=hmwc58.below hbwc64
       replace howc60:=howc60.below hbwc64
       replace howc62:=howc62.below hbwc64
       replace hbw : Below w.heap.size w wc64:=hbw.trans (hbwc64.mono hbw.size)
       have hzwc64 : wc62.heap.size ≤ wc64.heap.size:=hbwc64.size
       go_wp2_with fail
       refine (mb _ _ _ _ _ _ _ _ howc60.is howc62.is howc64.is).mono ?_
       rintro e wc66 ⟨y67v0,y67s1,y67n1,y67c1,y67v2,rfl,howc66,hbwc66⟩
       replace howc66 : iH wc64.heap.size wc66.heap.size wc66 (.agg #[.int .i64 y67v0,.slice y67s1 y67n1 y67c1,.int .i64 y67v2]) (wrN g0 g1 g2 g3):=howc66
       replace cf3:=aB cf3 hbwc66
       replace cf4:=aB cf4 hbwc66
       replace cf5:=aB cf5 hbwc66
       replace cf18:=aB cf18 hbwc66
       replace cf19:=aB cf19 hbwc66
       replace cf20:=aB cf20 hbwc66
       replace cf27:=aB cf27 hbwc66
       replace cf28:=aB cf28 hbwc66
       replace cf29:=aB cf29 hbwc66
       replace cf41:=aB cf41 hbwc66
       replace cf42:=aB cf42 hbwc66
       replace cf43:=aB cf43 hbwc66
       replace howc7:=howc7.below hbwc66
       replace howc9:=howc9.below hbwc66
       replace howc11:=howc11.below hbwc66
       replace howc13:=howc13.below hbwc66
       replace howc45:=howc45.below hbwc66
       replace howc48:=howc48.below hbwc66
       replace howc51:=howc51.below hbwc66
       replace hmwc54:=hmwc54.below hbwc66
       replace hmwc55:=hmwc55.below hbwc66
       replace hmwc56:=hmwc56.below hbwc66
       replace hmwc58:=hmwc58.below hbwc66
       replace howc60:=howc60.below hbwc66
       replace howc62:=howc62.below hbwc66
       replace howc64:=howc64.below hbwc66
       replace hbw : Below w.heap.size w wc66:=hbw.trans (hbwc66.mono hbw.size)
       have hzwc66 : wc64.heap.size ≤ wc66.heap.size:=hbwc66.size
       have hlimwc66 : szW (wrN g0 g1 g2 g3) ≤ 1048576:=ud g0 g1 g2 g3
       have hl69 : w.heap.size < wc66.heap.size:=by omega
       have hl70 : wc13.heap.size < wc66.heap.size:=by omega
       have hl71 : wc21.heap.size < wc66.heap.size:=by omega
       have hl72 : wc34.heap.size < wc66.heap.size:=by omega
       go_wp2_with fail
       generalize hqwm73 : wc66.alloc (.cells #[.int .i64 y67v0,.slice y67s1 y67n1 y67c1,.int .i64 y67v2] 50) = wm73
       have hywm73 : wm73.heap.size = wc66.heap.size + 1:=by rw [← hqwm73];simp
       have hbwm73 : Below wc66.heap.size wc66 wm73:=by rw [← hqwm73];exact (by repeat' (first|(with_reducible exact Below.refl _ _)|(with_reducible apply Below.alloc)|(with_reducible apply Below.drew)|(with_reducible apply bp)|omega|(simp only [World.size_alloc,World.size_setCell,World.size_drew];omega)))
       have HQwm73_0 : Blk wm73 (wc66.heap.size) [.int .i64 y67v0,.slice y67s1 y67n1 y67c1,.int .i64 y67v2] 50:=by rw [← hqwm73];have hnew:=il wc66 [.int .i64 y67v0,.slice y67s1 y67n1 y67c1,.int .i64 y67v2] 50;(try simp only [World.size_alloc] at hnew);exact hnew
       have cf74 : wm73.cell? ⟨wc66.heap.size,0,none⟩ = some (.int .i64 y67v0):=HQwm73_0.cell 0 rfl
       have cf75 : wm73.cell? ⟨wc66.heap.size,1,none⟩ = some (.slice y67s1 y67n1 y67c1):=HQwm73_0.cell 1 rfl
       have cf76 : wm73.cell? ⟨wc66.heap.size,2,none⟩ = some (.int .i64 y67v2):=HQwm73_0.cell 2 rfl
       clear HQwm73_0
       clear hqwm73
       replace cf3:=aB cf3 hbwm73
       replace cf4:=aB cf4 hbwm73
       replace cf5:=aB cf5 hbwm73
       replace cf18:=aB cf18 hbwm73
       replace cf19:=aB cf19 hbwm73
       replace cf20:=aB cf20 hbwm73
       replace cf27:=aB cf27 hbwm73
       replace cf28:=aB cf28 hbwm73
       replace cf29:=aB cf29 hbwm73
       replace cf41:=aB cf41 hbwm73
       replace cf42:=aB cf42 hbwm73
       replace cf43:=aB cf43 hbwm73
       replace howc7:=howc7.below hbwm73
       replace howc9:=howc9.below hbwm73
       replace howc11:=howc11.below hbwm73
       replace howc13:=howc13.below hbwm73
       replace howc45:=howc45.below hbwm73
       replace howc48:=howc48.below hbwm73
       replace howc51:=howc51.below hbwm73
       replace hmwc54:=hmwc54.below hbwm73
       replace hmwc55:=hmwc55.below hbwm73
       replace hmwc56:=hmwc56.below hbwm73
       replace hmwc58:=hmwc58.below hbwm73
       replace howc60:=howc60.below hbwm73
       replace howc62:=howc62.below hbwm73
       replace howc64:=howc64.below hbwm73
       replace howc66:=howc66.below hbwm73
       replace hbw : Below w.heap.size w wm73:=hbw.trans (hbwm73.mono hbw.size)
       have hzwm73 : wc66.heap.size ≤ wm73.heap.size:=hbwm73.size
       refine (nb _ _ _ _ _ howc66.is howc13.is).mono ?_
       rw [aP rfl]
       rintro e wc77 ⟨rfl,hbwc77⟩
       replace cf3:=aB cf3 hbwc77
       replace cf4:=aB cf4 hbwc77
       replace cf5:=aB cf5 hbwc77
       replace cf18:=aB cf18 hbwc77
       replace cf19:=aB cf19 hbwc77
       replace cf20:=aB cf20 hbwc77
       replace cf27:=aB cf27 hbwc77
       replace cf28:=aB cf28 hbwc77
       replace cf29:=aB cf29 hbwc77
       replace cf41:=aB cf41 hbwc77
       replace cf42:=aB cf42 hbwc77
       replace cf43:=aB cf43 hbwc77
       replace cf74:=aB cf74 hbwc77
       replace cf75:=aB cf75 hbwc77
       replace cf76:=aB cf76 hbwc77
       replace howc7:=howc7.below hbwc77
       replace howc9:=howc9.below hbwc77
       replace howc11:=howc11.below hbwc77
       replace howc13:=howc13.below hbwc77
       replace howc45:=howc45.below hbwc77
       replace howc48:=howc48.below hbwc77
       replace howc51:=howc51.below hbwc77
       replace hmwc54:=hmwc54.below hbwc77
       replace hmwc55:=hmwc55.below hbwc77
       replace hmwc56:=hmwc56.below hbwc77
       replace hmwc58:=hmwc58.below hbwc77
       replace howc60:=howc60.below hbwc77
       replace howc62:=howc62.below hbwc77
       replace howc64:=howc64.below hbwc77
       replace howc66:=howc66.below hbwc77
       replace hbw : Below w.heap.size w wc77:=hbw.trans (hbwc77.mono hbw.size)
       have hzwc77 : wm73.heap.size ≤ wc77.heap.size:=hbwc77.size
       go_wp2_with fail
       refine (l9 _ _ hmwc58.is (by omega) (by omega) (by omega)).mono ?_
       rintro e wc78 ⟨rfl,hbwc78⟩
       replace cf3:=aB cf3 hbwc78
       replace cf4:=aB cf4 hbwc78
       replace cf5:=aB cf5 hbwc78
       replace cf18:=aB cf18 hbwc78
       replace cf19:=aB cf19 hbwc78
       replace cf20:=aB cf20 hbwc78
       replace cf27:=aB cf27 hbwc78
       replace cf28:=aB cf28 hbwc78
       replace cf29:=aB cf29 hbwc78
       replace cf41:=aB cf41 hbwc78
       replace cf42:=aB cf42 hbwc78
       replace cf43:=aB cf43 hbwc78
       replace cf74:=aB cf74 hbwc78
       replace cf75:=aB cf75 hbwc78
       replace cf76:=aB cf76 hbwc78
       replace howc7:=howc7.below hbwc78
       replace howc9:=howc9.below hbwc78
       replace howc11:=howc11.below hbwc78
       replace howc13:=howc13.below hbwc78
       replace howc45:=howc45.below hbwc78
       replace howc48:=howc48.below hbwc78
       replace howc51:=howc51.below hbwc78
       replace hmwc54:=hmwc54.below hbwc78
       replace hmwc55:=hmwc55.below hbwc78
       replace hmwc56:=hmwc56.below hbwc78
       replace hmwc58:=hmwc58.below hbwc78
       replace howc60:=howc60.below hbwc78
       replace howc62:=howc62.below hbwc78
       replace howc64:=howc64.below hbwc78
       replace howc66:=howc66.below hbwc78
       replace hbw : Below w.heap.size w wc78:=hbw.trans (hbwc78.mono hbw.size)
       have hzwc78 : wc77.heap.size ≤ wc78.heap.size:=hbwc78.size
       go_wp2_with fail
       go_ret
       exact ⟨rfl,hbw⟩
     · have hz_0:=fi (l:=1048576) (n:=szP g0) (by omega)
       go_enter Try.func7,Try.ntmps7
       have hbw : Below w.heap.size w w:=Below.refl _ _
       go_wp2_with fail
       generalize hqwm2 : w.alloc (.cells #[.slice a0s0 a0n0 a0c0,.slice a0s1 a0n1 a0c1,.slice a0s2 a0n2 a0c2] 27) = wm2
       have hywm2 : wm2.heap.size = w.heap.size + 1:=by rw [← hqwm2];simp
       have hbwm2 : Below w.heap.size w wm2:=by rw [← hqwm2];exact (by repeat' (first|(with_reducible exact Below.refl _ _)|(with_reducible apply Below.alloc)|(with_reducible apply Below.drew)|(with_reducible apply bp)|omega|(simp only [World.size_alloc,World.size_setCell,World.size_drew];omega)))
       have HQwm2_0 : Blk wm2 (w.heap.size) [.slice a0s0 a0n0 a0c0,.slice a0s1 a0n1 a0c1,.slice a0s2 a0n2 a0c2] 27:=by rw [← hqwm2];have hnew:=il w [.slice a0s0 a0n0 a0c0,.slice a0s1 a0n1 a0c1,.slice a0s2 a0n2 a0c2] 27;(try simp only [World.size_alloc] at hnew);exact hnew
       have cf3 : wm2.cell? ⟨w.heap.size,0,none⟩ = some (.slice a0s0 a0n0 a0c0):=HQwm2_0.cell 0 rfl
       have cf4 : wm2.cell? ⟨w.heap.size,1,none⟩ = some (.slice a0s1 a0n1 a0c1):=HQwm2_0.cell 1 rfl
       have cf5 : wm2.cell? ⟨w.heap.size,2,none⟩ = some (.slice a0s2 a0n2 a0c2):=HQwm2_0.cell 2 rfl
       clear HQwm2_0
       clear hqwm2
       replace hbw : Below w.heap.size w wm2:=hbw.trans (hbwm2.mono hbw.size)
       have hzwm2 : w.heap.size ≤ wm2.heap.size:=hbwm2.size
       refine (pU _ _ _ _ (h0.below hbw) (by omega) (by omega)).mono ?_
       rw [hz_0]
       rintro e wc6 ⟨rfl,hbwc6⟩
       replace cf3:=aB cf3 hbwc6
       replace cf4:=aB cf4 hbwc6
       replace cf5:=aB cf5 hbwc6
       replace hbw : Below w.heap.size w wc6:=hbw.trans (hbwc6.mono hbw.size)
       have hzwc6 : wm2.heap.size ≤ wc6.heap.size:=hbwc6.size
       go_wp2_with fail
       go_ret
       exact ⟨rfl,hbw⟩
   · go_enter Try.func7,Try.ntmps7
     have hbw : Below w.heap.size w w:=Below.refl _ _
     go_wp2_with fail
     go_ret
     exact ⟨rfl,(by repeat' (first|(with_reducible exact Below.refl _ _)|(with_reducible assumption)|(with_reducible apply bS)|(with_reducible apply Below.alloc)|(with_reducible apply Below.drew)|(with_reducible apply bp)|(with_reducible refine Below.trans ?_ (Below.mono (by assumption) ?_))|omega|(simp only [World.size_alloc,World.size_setCell,World.size_drew];omega)))⟩
 · go_enter Try.func7,Try.ntmps7
   have hbw : Below w.heap.size w w:=Below.refl _ _
   go_wp2_with fail
   go_ret
   exact ⟨rfl,(by repeat' (first|(with_reducible exact Below.refl _ _)|(with_reducible assumption)|(with_reducible apply bS)|(with_reducible apply Below.alloc)|(with_reducible apply Below.drew)|(with_reducible apply bp)|(with_reducible refine Below.trans ?_ (Below.mono (by assumption) ?_))|omega|(simp only [World.size_alloc,World.size_setCell,World.size_drew];omega)))⟩
open Go.ChangeShapes Go.WideShapes Go.ChangeAt
theorem rec : ∀ t ∈ Try.f7.params.toList,Try.prog.readableRec t = true ∧ t < Try.prog.types.size:=by
 rw [Try.params7]
 intro t ht
 simp only [List.mem_cons,List.not_mem_nil,or_false] at ht
 rcases ht with rfl|rfl|rfl|rfl
 all_goals exact ⟨by kernel_rfl,of_decide_eq_true (by kernel_rfl)⟩
set_option maxRecDepth 100000 in
theorem lifted (os : Os) (started : os.Started) (H : Type) (enc : TypeId × Value → H) :
  ReturnsInHanded {} Try.checked os 7 .any (Rows.fnExactWorthOfSpec.pre6 enc Try.prog Try.f7 Rows.fnExactWorthOfRow.domain false) (Rows.fnExactWorthOfSpec.post enc Try.prog Try.f7 false true false false):=by
 refine returnsInHanded_of_change (C:=Try.checked) own started (by kernel_rfl) Try.func7
  (ChangeSpec.witness6 (enc:=enc) (C:=Try.checked) false ⟨#[],#[.agg #[.slice none 0 0,.slice none 0 0,.slice none 0 0],.slice none 0 0,.slice none 0 0,.int .i64 0],[]⟩ 8 (by kernel_rfl) (by kernel_rfl) (by kernel_rfl) (by kernel_rfl)) ?_
 intro W base args ds gs before hval0 hW hcnd _
 have hval : ∀ (j : Nat) t v,Try.f7.params[j]? = some t → args[j]? = some v → Value.okWide Try.prog W .any base t v:=hval0
 have hW':=hW
 obtain ⟨p,q,hA0,hV,rfl,hfz,hnd⟩:=hW
 have hA : DataW.TrodAll enc Try.prog W 0 (fun _=>true) true Try.f7.params.toList args.toList ds p:=hA0
 rw [Try.params7] at hA hval
 obtain ⟨v0,vs0,d0,ds0,p0,q0,hargs,rfl,rfl,t0,r0⟩:=trodAll_cons hA
 obtain ⟨v1,vs1,d1,ds1,p1,q1,rfl,rfl,rfl,t1,r1⟩:=trodAll_cons r0
 obtain ⟨v2,vs2,d2,ds2,p2,q2,rfl,rfl,rfl,t2,r2⟩:=trodAll_cons r1
 obtain ⟨v3,vs3,d3,ds3,p3,q3,rfl,rfl,rfl,t3,r3⟩:=trodAll_cons r2
 obtain ⟨rfl,rfl,rfl⟩:=trodAll_nil r3
 obtain rfl : args = #[v0,v1,v2,v3]:=by cases args;simp_all
 obtain ⟨rfl,rfl⟩:=trodVars_none hV
 obtain ⟨g0,h0,wf0⟩:=xo (hval 0 _ v0 rfl rfl) t0
 obtain ⟨g1,h1,wf1⟩:=se (hval 1 _ v1 rfl rfl) t1
 obtain ⟨g2,h2,wf2⟩:=se (hval 2 _ v2 rfl rfl) t2
 obtain ⟨g3,rfl,-,-,wf3⟩:=open_int Try.underlying2 (hval 3 _ v3 rfl rfl) t3
 clear hA0 hval0
 refine (walk v0 g0 v1 g1 v2 g2 g3 W h0 h1 h2 wf0 wf1 wf2 wf3).mono fun e W' ⟨he,hb⟩=>?_
 subst he
 exact ⟨_,rfl,kO vQ rec (by kernel_rfl) rfl rfl hW' hb⟩
theorem over : Rows.fnExactWorthOfRow.holds Try.pinned (OpenSpec.ofChange Rows.fnExactWorthOfSpec) :=
 OpenClaim.holds_of_wide 7 Try.f7 rfl rfl rfl rfl rfl rfl rfl ⟨rfl,rfl,rfl,rfl,rfl⟩ rfl rfl rfl rfl rfl (by kernel_rfl) Try.func7 (by kernel_rfl)
  (of_decide_eq_true (by kernel_rfl)) (by unfold Func.isWrapper;first|(rw [if_pos (by decide +kernel)];kernel_rfl)|(rw [if_neg (by decide +kernel)];exact ⟨rfl,rfl⟩))
  (fun os started H enc _=>lifted os started H enc)
theorem proved : Rows.FnExactWorthOfSaid:=over
#print axioms proved
end Go.Proofs.Ytiadchinhofieaa.fnExactWorthOf
