/-
  Priorities compressed: the program's map.
-/
import Derived.Test.YthjamlponejffaaZiK1
import Derived.Test.YthjamlponejffaaZiNA
import Derived.Test.YthjamlponejffaaZiX9
import Derived.Test.YthjamlponejffaaZiOdds2
namespace Go.Proofs.Ythjamlponejffaa
set_option linter.unusedVariables false
set_option linter.unusedSimpArgs false
open Go.RowKit
attribute [local go_sem ↓] Go.wp_at_zero Go.wp_at_succ
theorem iW : Maps.Keyed Try.prog 2:=Maps.int_keyed Try.underlying2
theorem iX {p : Int} (h : -9223372036854775808 ≤ p ∧ p ≤ 9223372036854775807) : keyOf Try.prog 2 (.int .i64 p) = some (.int .i64 p):=Maps.keyOf_int_mk Try.underlying2 (WalkArith.wf_i64 h)
def ToQ (q : Nat → Prop) (m : Nat) (D : Dm) : Prop:=∀ p,p < m → q p → ∀ z,D.atKey (.int .i64 (p : Int)) z = .held (.int .i64 (cJ q (p + 1)))
theorem ToQ.put {q : Nat → Prop} {m p : Nat} (hp : p < 1000) {D : Dm} (h : ToQ q m D) (hD : Maps.IsMap D) (hn : ∀ j,m ≤ j → j < p → ¬ q j) {c : Int} (hc : c = cJ q (p + 1)) : ToQ q (p + 1) (D.put (.int .i64 (p : Int)) (.held (.int .i64 c))):=fun j hj hq z=>by
 by_cases e : j = p
 · subst e
   rw [Maps.atKey_put_same hD (iW.key (iX (p:=(j : Int)) (by omega))),hc]
 · have hjm : j < m:=by
    rcases Nat.lt_or_ge j m with h'|h'
    · exact h'
    · exact absurd hq (hn j h' (by omega))
   rw [Maps.atKey_put_other fun e'=>e (by injection e' with _ e';omega)]
   exact h j hjm hq z
theorem q9 {P : Program} {k : TypeId} {w w' : World} {b n N : Nat} {D : Dm} (h : w.ownsMap P k rdV b n D) (hg : Below N w w') (hb : b < N) : w'.ownsMap P k rdV b n D:=by
 obtain ⟨es,clock,hb',r⟩:=h
 exact ⟨es,clock,(hg.block b hb).trans hb',r⟩
set_option maxRecDepth 100000 in
set_option maxHeartbeats 2000000 in
theorem oa (x : Value) (g : Pa) (hg : PaOk g) (w : World) (hP : IsP w x g) : Calls Try.prog 77 #[x] w fun e w'=>∃ vo vn vp vs,e = .returned (.agg #[vo,vn,vp]) ∧ aM w.heap.size w'.heap.size w' vo g.ar.own ∧ bi w.heap.size w'.heap.size w' vn g.ar.nxt vs ∧ aM w.heap.size w'.heap.size w' vp (dD g).prio ∧ Below w.heap.size w w':=by
 have hP0:=hP
 obtain ⟨_,_,_,rfl,⟨s1,n1,c1,rfl,h1⟩,⟨s2,n2,c2,rfl,h2⟩,⟨s3,n3,c3,rfl,h3⟩⟩:=hP
 have hmm:=@run_makeMap Try.prog
 have HG:=Lib.hid hg
 have H3:=Lib.hid h3.1
 have hn3 : n3 ≤ 256:=by have:=h3.1;have:=hg.len;have:=hg.ar.le;omega
 have hBt : Bnd (tab g.ar.own.length fun v=>(v : Int)) g.prio.length:=fun k hk=>by rw [bD] at hk;rw [bH _ hk];have:=hg.len;omega
 have BN:=Lib.hid hBt
 clear hg hBt
 go_enter Try.func77,Try.ntmps77
 go_wp2_with fail
 have hW1:=aD w (.cells #[.slice s1 n1 c1,.slice s2 n2 c2,.slice s3 n3 c3] 32)
 have hB1:=dE w [.slice s1 n1 c1,.slice s2 n2 c2,.slice s3 n3 c3] 32
 have e1 : (w.alloc (.cells #[.slice s1 n1 c1,.slice s2 n2 c2,.slice s3 n3 c3] 32)).heap.size = w.heap.size + 1:=by simp
 change Blk (w.alloc (.cells #[.slice s1 n1 c1,.slice s2 n2 c2,.slice s3 n3 c3] 32)) _ _ _ at hB1
 generalize w.alloc (.cells #[.slice s1 n1 c1,.slice s2 n2 c2,.slice s3 n3 c3] 32) = wA at *
 have hW2:=aD wA (.cells #[.slice none 0 0,.slice none 0 0,.slice none 0 0] 32)
 have hB2:=dE wA [.slice none 0 0,.slice none 0 0,.slice none 0 0] 32
 have e2 : (wA.alloc (.cells #[.slice none 0 0,.slice none 0 0,.slice none 0 0] 32)).heap.size = w.heap.size + 2:=by simp [e1]
 change Blk (wA.alloc (.cells #[.slice none 0 0,.slice none 0 0,.slice none 0 0] 32)) _ _ _ at hB2
 generalize wA.alloc (.cells #[.slice none 0 0,.slice none 0 0,.slice none 0 0] 32) = wB at *
 have hW3:=aD wB (.map #[] 0)
 have hO:=World.ownsMap_made wB Try.prog 2 rdV
 have e3 : (wB.alloc (.map #[] 0)).heap.size = w.heap.size + 3:=by simp [e2]
 rw [e2] at hO
 rw [e1] at hB2
 replace hB1:=(hB1.below hW2).below hW3
 replace hB2:=hB2.below hW3
 have hbw : Below w.heap.size w (wB.alloc (.map #[] 0)):=hW1.trans ((hW2.mono (by omega)).trans (hW3.mono (by omega)))
 generalize wB.alloc (.map #[] 0) = w1 at *
 clear hW1 hW2 hW3
 have b0_0:=hB1.cell 0 rfl
 have b0_1:=hB1.cell 1 rfl
 have b0_2:=hB1.cell 2 rfl
 go_region_held3 (fun w'=>w'.cell? ⟨w.heap.size,0,none⟩ = some (.slice s1 n1 c1) ∧ w'.cell? ⟨w.heap.size,1,none⟩ = some (.slice s2 n2 c2) ∧ w'.cell? ⟨w.heap.size,2,none⟩ = some (.slice s3 n3 c3)) (first|exact ⟨b0_0,b0_1,b0_2⟩|go_keep)
  (first
   | (go_at_call 60; refine (p9 _ _ _ ((hP0.arena.below hbw).drew) HG.out.ar.le).mono ?_; rintro e w4 ⟨s6, n6, c6, rfl, ho6, hbw4⟩; replace hbw4 := lF hbw4; replace b0_0 := cg b0_0 hbw4; replace b0_1 := cg b0_1 hbw4; replace b0_2 := cg b0_2 hbw4; replace hB1 := hB1.below hbw4; replace hB2 := hB2.below hbw4; replace hbw : Below w.heap.size w w4 := hbw.trans (hbw4.mono hbw.size); have hz4 := hbw4.size; have hO4 := gK hO hbw4)
   | (go_at_call 111; refine (n9 _ _ _ _ _ (hP0.below hbw) ho6.is BN.out HG.out (by rw [bD]; exact HG.out.ar.pos) (by rw [bD]; have := HG.out.ar.le; omega)).mono ?_; rintro e w5 ⟨s7, n7, c7, rfl, ho7, hbw5⟩; replace b0_0 := cg b0_0 hbw5; replace b0_1 := cg b0_1 hbw5; replace b0_2 := cg b0_2 hbw5; replace hB1 := hB1.below hbw5; replace hB2 := hB2.below hbw5; replace hbw : Below w.heap.size w w5 := hbw.trans (hbw5.mono hbw.size); have hz5 := hbw5.size; have hO5 := gK hO4 hbw5))
 go_wp2_with fail
 rw [show g.ar.own.length = g.prio.length from HG.out.len.symm,q8] at ho7
 have hl7:=ho7.len
 rw [kq] at hl7
 change num (dm g) 41 = n7 at hl7
 change aM _ _ _ _ (lst (dm g) 41) at ho7
 have hI7:=IsI.ints ho7.is
 have hn41 : n7 ≤ 41:=by rw [← hl7];exact pq
 have HL7:=Lib.hid hl7
 clear hl7 hO hO4
 change World.ownsMap _ _ _ _ (w.heap.size + 1 + 1) _ _ at hO5
 have hz1 : w.heap.size + 3 ≤ w5.heap.size:=by omega
 go_loopw [4,5,18] (fun la nw i wr=>∃ (k m : Nat) (D : Dm),k ≤ n7 ∧ i = .int .i64 k ∧ k = num (dm g) m ∧ m ≤ 41 ∧ la = .int .i64 (cZ (dm g) m) ∧ nw = .int .i64 (cJ (dm g) m) ∧ wr.ownsMap Try.prog 2 rdV (w.heap.size + 1 + 1) k D ∧ ToQ (dm g) m D ∧ cK wr s7 n7 c7 (lst (dm g) 41) ∧ Blk wr w.heap.size [.slice s1 n1 c1,.slice s2 n2 c2,.slice s3 n3 c3] 32 ∧ Blk wr (w.heap.size + 1) [.slice none 0 0,.slice none 0 0,.slice none 0 0] 32 ∧ Below w.heap.size w wr ∧ w.heap.size + 3 ≤ wr.heap.size) (fun _ _ i _=>n7 - (intOf i).toNat)
 case atStart=>exact ⟨0,0,_,Nat.zero_le _,rfl,rfl,by omega,rfl,rfl,hO5,fun p hp=>absurd hp (Nat.not_lt_zero p),hI7,hB1,hB2,hbw,hz1⟩
 case round =>
  clear hI7 hB1 hB2 hbw hO5 hz1 b0_0 b0_1 b0_2
  obtain ⟨k,m,D,hk,rfl,hkm,hm41,rfl,rfl,hown,hTo,hI,hB1,hB2,hb,hz⟩:=hrel
  by_cases hlt : k < n7
  · obtain ⟨p,hp1,hp2,hp3,hp4,hp5⟩:=nc (q:=dm g) hm41 (by have:=HL7.out;omega)
    obtain ⟨j,hj⟩:=Nat.exists_eq_add_of_le hp1
    have hqt:=pU (q:=dm g) (m:=m) j fun i h1 h2=>hp4 i h1 (by omega)
    rw [← hj] at hqt
    clear hj
    have hll:=iV (q:=dm g) m
    obtain ⟨b,o,rfl,hbl,hc⟩:=hI.get hlt
    have hck:=hc k hlt
    rw [hkm,hp5] at hck
    clear hc
    have HK:=Lib.hid hkm
    have hm1 : k < maxLen:=by unfold maxLen;omega
    have hnw:=ii (q:=dm g) m
    have hY:=mu hp3
    rw [hqt.1,hqt.2] at hY
    have HY:=Lib.hid hY
    have HN:=Lib.hid (nY (q:=dm g) hp1 hp4)
    rw [← hkm] at hck
    clear hkm hY hqt
    by_cases hA : cZ (dm g) m < 0
    · obtain ⟨w7,hrun,hown7,hg7⟩:=hown.update iW Try.underlying115 hm1 (iX (p:=(p : Int)) (by omega)) (val:=.int .i64 ((p : Int) % 2)) (d:=.held (.int .i64 ((p : Int) % 2))) (ps:=[]) rfl
      have hmv:=ml hown hg7
      go_wp2_with fail
      go_roundw
      case rel=>exact ⟨k + 1,p + 1,_,by omega,by go_num,by rw [bP hp3,HN.out,← HK.out],by omega,by rw [fJ hp3],by rw [HY.out,if_pos hA],hown7,hTo.put (by omega) hown.isMap hp4 (by rw [HY.out,if_pos hA]),hI.mv hmv,hB1.out hmv.out (by omega),hB2.out hmv.out (by omega),hb.trans (hmv.below (by omega) (by omega)),by have:=hmv.out.size;omega⟩
      case measure=>simp [intOf];omega
    · by_cases hO : ((p : Int) - cZ (dm g) m) % 2 = 0
      · obtain ⟨w7,hrun,hown7,hg7⟩:=hown.update iW Try.underlying115 hm1 (iX (p:=(p : Int)) (by omega)) (val:=.int .i64 (cJ (dm g) m)) (d:=.held (.int .i64 (cJ (dm g) m))) (ps:=[]) rfl
        have hmv:=ml hown hg7
        go_wp2_with fail
        go_roundw
        case rel=>exact ⟨k + 1,p + 1,_,by omega,by go_num,by rw [bP hp3,HN.out,← HK.out],by omega,by rw [fJ hp3],by rw [HY.out,if_neg hA,if_neg (not_not_intro hO)],hown7,hTo.put (by omega) hown.isMap hp4 (by rw [HY.out,if_neg hA,if_neg (not_not_intro hO)]),hI.mv hmv,hB1.out hmv.out (by omega),hB2.out hmv.out (by omega),hb.trans (hmv.below (by omega) (by omega)),by have:=hmv.out.size;omega⟩
        case measure=>simp [intOf];omega
      · obtain ⟨w7,hrun,hown7,hg7⟩:=hown.update iW Try.underlying115 hm1 (iX (p:=(p : Int)) (by omega)) (val:=.int .i64 (cJ (dm g) m + 1)) (d:=.held (.int .i64 (cJ (dm g) m + 1))) (ps:=[]) rfl
        have hmv:=ml hown hg7
        go_wp2_with fail
        go_roundw
        case rel=>exact ⟨k + 1,p + 1,_,by omega,by go_num,by rw [bP hp3,HN.out,← HK.out],by omega,by rw [fJ hp3],by rw [HY.out,if_neg hA,if_pos hO],hown7,hTo.put (by omega) hown.isMap hp4 (by rw [HY.out,if_neg hA,if_pos hO]),hI.mv hmv,hB1.out hmv.out (by omega),hB2.out hmv.out (by omega),hb.trans (hmv.below (by omega) (by omega)),by have:=hmv.out.size;omega⟩
        case measure=>simp [intOf];omega
  · have hT : ∀ p,p < 41 → dm g p → ∀ z,D.atKey (.int .i64 (p : Int)) z = .held (.int .i64 (cJ (dm g) (p + 1))):=fun p hp hq z=>by
     refine hTo p (Classical.byContradiction fun hno=>?_) hq z
     obtain ⟨a,ha⟩:=Nat.exists_eq_add_of_le (show m ≤ p by omega)
     obtain ⟨c,hc⟩:=Nat.exists_eq_add_of_le (show p + 1 ≤ 41 by omega)
     have u1:=kp (q:=dm g) m a
     have u2:=kp (q:=dm g) (p + 1) c
     rw [← ha] at u1
     rw [← hc,bP hq] at u2
     have:=HL7.out
     omega
    have HT:=Lib.hid hT
    clear hT hTo hI hkm
    have hAI:=hP0.arena.below hb
    have ha1 : 0 < g.ar.own.length ∧ g.ar.own.length ≤ 1048576:=by have:=HG.out.ar.pos;have:=HG.out.ar.le;omega
    have ha2 : g.ar.nxt.length ≤ 65536:=by have:=HG.out.ar.len;have:=HG.out.ar.le;omega
    have ha3 : ∀ v,v < g.ar.nxt.length → 0 < (gr g.ar.nxt v).length ∧ (gr g.ar.nxt v).length ≤ 1048576:=fun v hv=>by have:=HG.out.ar.vert v (by have:=HG.out.ar.len;omega);omega
    have HA:=Lib.hid (And.intro ha1 (And.intro ha2 ha3))
    clear ha1 ha2 ha3
    have b0_0:=hB1.cell 0 rfl
    have b0_1:=hB1.cell 1 rfl
    go_wp2_with (go_at_call 80;refine (ls _ g.ar _ hAI HA.out.1 HA.out.2.1 HA.out.2.2).mono ?_;rintro e w6 ⟨t1,m1,d1,t2,m2,d2,rfl,hOA,hb6⟩;have q2:=(hB1.below hb6).cell 2 rfl;have hl6:=(hB1.below hb6).lt)
    obtain ⟨vo,vn,vs,eA,oA1,oA2,-⟩:=hOA
    simp only [Value.agg.injEq,Array.mk.injEq,List.cons.injEq,and_true] at eA
    obtain ⟨rfl,rfl⟩:=eA
    have hO6:=gK hown hb6
    have hZ6:=hB2.below hb6
    have hz6:=hb6.size
    have hbw6 : Below w.heap.size w w6:=hb.trans (hb6.mono hb.size)
    have hN7:=dE w6 [.slice t1 m1 d1,.slice t2 m2 d2,.slice none 0 0] 32
    have hW7:=aD w6 (.cells #[.slice t1 m1 d1,.slice t2 m2 d2,.slice none 0 0] 32)
    have e7 : (w6.alloc (.cells #[.slice t1 m1 d1,.slice t2 m2 d2,.slice none 0 0] 32)).heap.size = w6.heap.size + 1:=by simp
    change Blk (w6.alloc (.cells #[.slice t1 m1 d1,.slice t2 m2 d2,.slice none 0 0] 32)) _ _ _ at hN7
    generalize w6.alloc (.cells #[.slice t1 m1 d1,.slice t2 m2 d2,.slice none 0 0] 32) = w7 at *
    go_loopw [47] (fun i wq=>∃ (j : Nat) (sa : Option Addr) (ca : Nat),j ≤ n3 ∧ i = .int .i64 j ∧ Blk wq w6.heap.size [.slice t1 m1 d1,.slice t2 m2 d2,.slice sa j ca] 32 ∧ aM (w6.heap.size + 1) wq.heap.size wq (.slice sa j ca) (tab j fun v=>cJ (dm g) ((gi g.prio v).toNat + 1)) ∧ Below w6.heap.size w6 wq ∧ w6.heap.size + 1 ≤ wq.heap.size) (fun i _=>n3 - (intOf i).toNat)
    case atStart=>exact ⟨0,none,0,Nat.zero_le _,rfl,hN7,.inl ⟨rfl,rfl⟩,hW7,by omega⟩
    case round =>
     clear hN7 hW7 e7
     obtain ⟨j,sa,ca,hj,rfl,hBq,ho,hbR,hzq⟩:=hrel
     have hbW : Below w.heap.size w wr:=hbw6.trans (hbR.mono hbw6.size)
     by_cases hlj : j < n3
     · have hj3 : j < g.prio.length:=by have:=H3.out;omega
       obtain ⟨a1,a2,a3,a4⟩:=mw HG.out hj3
       obtain ⟨b3,o3,rfl,hbl3,hc3⟩:=(h3.below hbW).get hlj
       have hc:=hc3 j hlj
       clear hc3
       have hOq:=q9 hO6 hbR (by omega)
       obtain ⟨v0,ps,hrun,hv0⟩:=hOq.lookup iW Try.underlying115 (z:=.int .i64 0) (by kernel_rfl) (zd:=.held (.int .i64 0)) (zp:=[]) rfl (key:=.int .i64 (gi g.prio j)) (iX (p:=gi g.prio j) (by omega))
       have hat:=HT.out (gi g.prio j).toNat (by omega) a1 (.held (.int .i64 0))
       rw [a2] at hat
       rw [hat] at hv0
       have hv:=qN hv0
       subst hv
       have HA2:=Lib.hid a2
       clear hat hv0 a2 a1
       have r2:=hBq.cell 2 rfl
       have y2:=hBq.free 2
       go_wp2_with (at_builtin;refine jM rfl _ _ rfl rfl (aM.alloc ho _) (cJ (dm g) ((gi g.prio j).toNat + 1)) _ _ rfl (by simp) (by rw [bD];omega) (by simp;omega) ?_;intro sa' c' w9 ho9 hO9;have hB9:=(hBq.alloc _).out hO9 (by omega);have f9:=hB9.cell 2 rfl;have z9:=hB9.free 2)
       go_roundw
       case rel =>
        refine ⟨j + 1,sa',c',by omega,by go_num,?_,?_,?_,?_⟩
        · have h:=hB9.set 2 (.slice sa' (j + 1) c')
          exact h
        · have h:=(ho9.off (g:=w6.heap.size) (by omega) 2 (.slice sa' (j + 1) c')).top
          rw [fi]
          rwa [bD] at h
        · exact ao (oz hbR hO9 (by omega) (by omega)) (Nat.le_refl _) _
        · have:=hO9.size
          simp only [World.size_alloc,World.size_setCell] at this ⊢
          omega
       case measure=>simp [intOf];omega
     · have ej : j = n3:=by omega
       subst ej
       clear hj
       have hZr:=Blk.bel hZ6 hbR (by omega)
       have y0:=hZr.free 0
       have y1:=hZr.free 1
       have y2:=hZr.free 2
       have r0:=hZr.cell 0 rfl
       have r1:=hZr.cell 1 rfl
       have r2:=hZr.cell 2 rfl
       have s0:=hBq.cell 0 rfl
       have s1:=hBq.cell 1 rfl
       have s2:=hBq.cell 2 rfl
       go_wp2_with fail
       refine bodyPost_ret (v:=.agg #[.slice t1 m1 d1,.slice t2 m2 d2,.slice sa j ca]) (by simp [results,Try.results77,go_sem,r0,r1,r2,y0,y1,y2]) rfl ?_
       have hne : ∀ q,w.heap.size + 3 ≤ q → ∀ (v : World) (o : Nat) (u : Value),(v.setCell ⟨w.heap.size + 1,o,none⟩ u).heap[q]? = v.heap[q]?:=fun q hq v o u=>RowKit.Below.heap_setCell _ _ _ _ (show q ≠ w.heap.size + 1 by omega)
       have hkp : bQ (w.heap.size + 3) w6.heap.size w6 (((wr.setCell ⟨w.heap.size + 1,0,none⟩ (.slice t1 m1 d1)).setCell ⟨w.heap.size + 1,1,none⟩ (.slice t2 m2 d2)).setCell ⟨w.heap.size + 1,2,none⟩ (.slice sa j ca)) :=
        ⟨by simp only [World.size_setCell];exact hbR.size,fun q h1 h2 h3=>by rw [hne q h1,hne q h1,hne q h1];exact hbR.block q h2⟩
       have p1:=aM.mono ((aM.mono oA1 (lo':=w.heap.size + 3) (by omega) (Nat.le_refl _)).kept hkp).top (lo':=w.heap.size) (by omega) (Nat.le_refl _)
       have p2:=bi.final (lo':=w.heap.size) (bi.mono oA2 (lo':=w.heap.size + 3) (by omega) (Nat.le_refl _)) hkp (by omega)
       have p3:=aM.mono (((ho.off (g:=w.heap.size + 1) (by omega) 0 (.slice t1 m1 d1)).off (g:=w.heap.size + 1) (by omega) 1 (.slice t2 m2 d2)).off (g:=w.heap.size + 1) (by omega) 2 (.slice sa j ca)).top (lo':=w.heap.size) (by omega) (Nat.le_refl _)
       have hpr : (dD g).prio = tab j fun v=>cJ (dm g) ((gi g.prio v).toNat + 1):=by
        show tab g.prio.length _ = _
        rw [H3.out]
       exact ⟨_,_,_,vs,rfl,p1,p2,by rw [hpr];exact p3,ao (ao (ao hbW (by omega) _) (by omega) _) (by omega) _⟩
end Go.Proofs.Ythjamlponejffaa
