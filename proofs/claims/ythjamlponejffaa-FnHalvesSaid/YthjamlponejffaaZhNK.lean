/-
  QuasiWon, the program.
-/
import Derived.Test.YthjamlponejffaaZhNH
import Derived.Test.YthjamlponejffaaZhNI
namespace Go.Proofs.Ythjamlponejffaa
set_option linter.unusedVariables false
set_option linter.unusedSimpArgs false
open Go.RowKit
attribute [local irreducible] ap b7 Aw Le
noncomputable def qD (g : Pa) : Nat:=(dr g.prio (tab g.prio.length fun v=>(v : Int)) g.prio.length).toNat
noncomputable def qX (g : Pa) : Nat → Prop:=qA (pgA g) g.prio.length (qD g + 1) ((qD g : Int) % 2) (fun v=>v < g.prio.length) g.prio.length g.prio.length
noncomputable def qwL (g : Pa) : List Int:=tab g.prio.length fun v=>if tf (qX g v) then (qD g : Int) % 2 else 1 - (qD g : Int) % 2
structure QF (g : Pa) : Prop where
 top : dr g.prio (tab g.prio.length fun v=>(v : Int)) g.prio.length = qD g
 le : qD g ≤ 40
 low : ∀ v,v < g.prio.length → (pgA g).prio v ≤ qD g
 tot : PG.Total (pgA g) fun v=>v < g.prio.length
theorem sM {g : Pa} (hs : dA g) : QF g:=by
 have hg:=hs.1
 have hpos : 0 < g.prio.length:=by have:=hg.ar.pos;have:=hg.len;omega
 have hp:=(eZ hg).p1
 have hp' : ∀ v,v < g.prio.length → 0 ≤ gi g.prio v ∧ gi g.prio v ≤ 40:=fun v hv=>hp v hv
 have h1:=(kb (pr:=g.prio) (xs:=tab g.prio.length fun v=>(v : Int)) (d:=dr g.prio (tab g.prio.length fun v=>(v : Int)) g.prio.length) (k:=g.prio.length)).1 (Int.le_refl _)
 have h2:=(kb (pr:=g.prio) (xs:=tab g.prio.length fun v=>(v : Int)) (d:=40) (k:=g.prio.length)).2 ⟨by omega,fun i hi=>by rw [cH _ hi,Int.toNat_natCast];exact (hp' i hi).2⟩
 have h3 : ∀ v,v < g.prio.length → gi g.prio v ≤ dr g.prio (tab g.prio.length fun v=>(v : Int)) g.prio.length:=fun v hv=>by
  have:=h1.2 v hv
  rwa [cH _ hv,Int.toNat_natCast] at this
 have h4:=h3 0 hpos
 have h5:=(hp' 0 hpos).1
 have ht : dr g.prio (tab g.prio.length fun v=>(v : Int)) g.prio.length = qD g:=(Int.toNat_of_nonneg (by omega)).symm
 rw [ht] at h2 h3
 refine ⟨ht,by omega,fun v hv=>by rw [show (pgA g).prio v = gi g.prio v from iy (eZ hg) hv];exact h3 v hv,fun v hv=>?_⟩
 have hl:=hg.len
 have hv' : v < g.prio.length:=hv
 obtain ⟨_,_,q1,q2,q3⟩:=hg.ar.vert v (by omega)
 have q4:=q3 0 (by omega)
 exact ⟨(gi (gr g.ar.nxt v) 0).toNat,(jf _ _).2 ⟨hv',by omega,0,by omega,by omega⟩,show _ < _ by omega⟩
open Classical in
noncomputable def qwN (g : Pa) : List Int:=if dA g then qwL g else []
end Go.Proofs.Ythjamlponejffaa
namespace Go.Proofs.Ythjamlponejffaa
set_option linter.unusedVariables false
set_option linter.unusedSimpArgs false
open Go.RowKit
attribute [local irreducible] ap b7 Aw Le
attribute [local go_sem ↓] Go.wp_at_zero Go.wp_at_succ
theorem pE : ∀ n : Nat,(tab n fun v=>(v : Int)) = lst (fun _=>True) n
 | 0 => rfl
 | n + 1 => by rw [fX, pE n, dw trivial]
theorem iV (n : Nat) : (tab n fun v=>(v : Int)) = lst (fun v=>v < n) n:=(pE n).trans (ff fun v hv=>⟨fun _=>hv,fun _=>trivial⟩)
theorem sN {w : World} {B k : Nat} {u : Value} {s : Option Addr} {n c : Nat} {xs : List Int} (h : cQ w s n c xs) (hne : ∀ ad,s = some ad → ad.block ≠ B) : cQ (w.setCell ⟨B,k,none⟩ u) s n c xs :=
 ⟨h.1,h.2.cap,h.2.max,h.2.nil,h.2.spot,fun ad e j hj=>by
  rw [← h.2.cell ad e j hj]
  exact World.cell?_of_block (RowKit.Below.heap_setCell _ _ _ _ (hne ad e))⟩
theorem nc (g : Pa) (hs : ¬ dA g) : ap Try.prog 21 [paA g] [] (fun _=>.c .nul):=by
 have h1:=fq g
 rw [aH hs] at h1
 (refine bf aI Try.func21 rfl rfl (by kernel_rfl) fun hp0 ν hX hN=>?_;simp only [bW,Nat.reduceAdd])
 (repeat' (first|(with_reducible first|(apply hK;clear hK K)|refine stZ ?_|refine aT rfl ?_|((first|apply ae|apply af);clear ae X af Y))|(with_reducible refine aW ?_;first|refine aU rfl ?_|refine aV rfl ?_)|((with_reducible first|((first|refine aZ ?_|refine a8 ?_);intro K hK)|(refine aE ?_;intro X Y ae af)|refine aF ?_);simp (disch:=first|decide|omega|(simp only [List.length_cons,List.length_nil];omega)) only [go_sem,↓aj hN,ak hN,reduceIte,reduceCtorEq,Nat.reduceAdd,Nat.reduceLT,Nat.reduceLeDiff,Nat.reduceEqDiff,Nat.reduceSub])|(with_reducible refine And.intro (fun h=>?_) (fun h=>?_) <;> try (exfalso;omega))|(with_reducible refine aY aI hN ?_)|(refine aB (h1) ?_ rfl (fun _=>rfl) ?_;focus ((repeat' (first|(with_reducible first|exact aq|refine am ?_ ?_|exact bH _|refine aM ?_|exact aL _|exact bj _ _|refine bi ?_|exact aJ _)|exact aN hN rfl rfl|(refine bh hN rfl ?_;first|exact aC _|exact aD _)|exact aK rfl rfl rfl));done))|(with_reducible first|exact aq|refine am ?_ ?_|exact bH _|refine aM ?_|exact aL _|exact bj _ _|refine bi ?_|exact aJ _)|exact aN hN rfl rfl|(refine bh hN rfl ?_;first|exact aC _|exact aD _)|exact aK rfl rfl rfl|(simp only [ba,List.map_nil])|(with_reducible refine bu ?_)|(with_reducible refine And.intro ?_ ?_)|(refine ah ?_;omega)|(exact aX hN (by decide))))
 (refine dY hN [] (by decide) (.inr rfl) (by first|exact bZ rfl rfl|exact bU hN rfl rfl rfl rfl|exact bQ hN rfl rfl rfl rfl rfl|(simp (disch:=first|decide|omega|(simp only [List.length_cons,List.length_nil];omega)) only [bG,bK,bN,bO,go_sem,beq_self_eq_true,↓ao,↓aj hN,ak hN,reduceIte,reduceCtorEq,Nat.reduceAdd,Nat.reduceLT,Nat.reduceLeDiff,Nat.reduceEqDiff,Nat.reduceSub];rfl)|rfl) ?_ fun νs hνs=>?_;(repeat' (first|exact Gone.nil|(refine Gone.cons rfl rfl ?_ ?_)|(with_reducible refine di ?_)|(with_reducible refine dh ?_)|(with_reducible refine SVs.cons ?_ ?_)|(with_reducible exact SVs.nil)|(simp only [List.drop,List.take])|(simp (disch:=first|decide|omega) only [↓ao,reduceIte,reduceCtorEq,Nat.reduceEqDiff])|(with_reducible exact ge _)|(with_reducible exact df _)|(exact dg rfl rfl rfl)|(exact dI 0 (by simp) rfl rfl)|(refine dW hN rfl (dj hN (by decide)) ?_)|(with_reducible refine dV ?_)|(with_reducible rfl)|(with_reducible refine gj ?_)|(with_reducible refine gl ?_)|(with_reducible refine gm ?_)|(with_reducible refine fV ?_)|(with_reducible refine fK ?_)|(refine ah ?_;omega))))
 all_goals rfl
theorem sO (x u : Value) (g : Pa) (xs : List Int) (hB : Bnd xs g.prio.length) (w : World) (hP : IsP w x g) (hI : IsI w u xs) : Calls Try.prog 61 #[x,u] w fun e w'=>e = .returned (.int .i64 (dr g.prio xs xs.length)) ∧ Below w.heap.size w w' :=
 t5 (vs:=[x,u]) (pi g xs hB) (.cons (qm hP) (.cons (jW hI) .nil))
set_option maxRecDepth 100000 in
theorem oC (x : Value) (g : Pa) (hs : dA g) (w : World) (hP : IsP w x g) : Calls Try.prog 21 #[x] w (eg w (qwL g)):=by
 have hq:=sM hs
 have HR:=(jC g hs (qD g) (by have:=hq.le;omega)).2.2
 have hP0:=hP
 obtain ⟨_,_,_,rfl,⟨s1,n1,c1,rfl,h1⟩,⟨s2,n2,c2,rfl,h2⟩,⟨s3,n3,c3,rfl,h3⟩⟩:=hP
 have k1:=Lib.hid (bc hs)
 have HS:=Lib.hid hs
 have HL:=Lib.hid hs.1.len
 have HTop : dr g.prio (tab g.prio.length fun v=>(v : Int)) (tab g.prio.length fun v=>(v : Int)).length = qD g:=by rw [bY];exact hq.top
 have hB0 : Bnd (tab g.prio.length fun v=>(v : Int)) g.prio.length:=fun k hk=>by rw [bY] at hk;rw [cH _ hk];omega
 have HT:=Lib.hid HTop
 have HB:=Lib.hid hB0
 have hd40 : 0 ≤ (qD g : Int) ∧ (qD g : Int) ≤ 40:=by have:=hq.le;omega
 clear hs HTop hB0 hq
 go_enter Try.func21,Try.ntmps21
 go_wp2_with fail
 have hB : Blk (w.alloc (.cells #[.slice s1 n1 c1,.slice s2 n2 c2,.slice s3 n3 c3] 32)) w.heap.size [.slice s1 n1 c1,.slice s2 n2 c2,.slice s3 n3 c3] 32:=dR _ _ _
 have hbw : Below w.heap.size w (w.alloc (.cells #[.slice s1 n1 c1,.slice s2 n2 c2,.slice s3 n3 c3] 32)):=bg _ _
 generalize w.alloc (.cells #[.slice s1 n1 c1,.slice s2 n2 c2,.slice s3 n3 c3] 32) = w1 at *
 have b0:=hB.cell 0 rfl
 have b1:=hB.cell 1 rfl
 have b2:=hB.cell 2 rfl
 go_wp2_with (first
  | (go_at_call 50; refine (kd _ _ _ (hP0.below hbw)).mono ?_; rw [k1.out]; rintro e w2 ⟨rfl, hbw2⟩; replace b0 := bC b0 hbw2; replace b1 := bC b1 hbw2; replace b2 := bC b2 hbw2; replace hbw : Below w.heap.size w w2 := hbw.trans (hbw2.mono hbw.size))
  | (go_at_call 60; refine (tz _ _ _ (hP0.arena.below hbw) HS.out.1.ar.le).mono ?_; rw [← HL.out]; rintro e w3 ⟨s4, n4, c4, rfl, ho4, hbw3⟩; replace b0 := bC b0 hbw3; replace b1 := bC b1 hbw3; replace b2 := bC b2 hbw3; replace hbw : Below w.heap.size w w3 := hbw.trans (hbw3.mono hbw.size); have hz3 := hbw3.size)
  | (go_at_call 61; refine (sO _ _ g _ HB.out _ (hP0.below hbw) ho4.is).mono ?_; rw [HT.out]; rintro e w4 ⟨rfl, hbw4⟩; replace b0 := bC b0 hbw4; replace b1 := bC b1 hbw4; replace b2 := bC b2 hbw4; replace ho4 := ho4.below hbw4; replace hbw : Below w.heap.size w w4 := hbw.trans (hbw4.mono hbw.size); have hz4 := hbw4.size; have hN4 := ho4.len; rw [bY] at hN4; have HN := Lib.hid hN4; have hn12 : n4 ≤ 12 := (by have := HS.out.2; omega); clear hN4; have hlt4 : w.heap.size < w4.heap.size := (by have := hB.lt; have := hbw2.size; omega))
  | (at_make; refine tw rfl _ _ rfl _ _ _ _ n4 rfl rfl rfl rfl (by omega) ?_; intro w5 ho5 hb5 hz5))
 have hw01 : 0 ≤ (qD g : Int) % 2 ∧ (qD g : Int) % 2 ≤ 1:=by omega
 go_loopw [26] (fun i wr=>∃ k : Nat,k ≤ n4 ∧ i = .int .i64 k ∧ bp w4.heap.size wr.heap.size wr (.slice (some ⟨w4.heap.size,0,none⟩) n4 n4) (tab n4 fun v=>if v < k then 1 - (qD g : Int) % 2 else 0) ∧ Below w4.heap.size w4 wr) (fun i _=>n4 - (intOf i).toNat)
 case atStart=>exact ⟨0,by omega,rfl,by simpa using ho5,hb5⟩
 case round =>
  obtain ⟨k,hk,rfl,ho,hb⟩:=hrel
  by_cases hlt : k < n4
  · obtain ⟨q1,q2,q3,q4⟩:=ho.cell hlt
    go_wp2_with fail
    go_roundw
    case rel =>
     refine ⟨k + 1,by omega,by go_num,?_,aS hb (Nat.le_refl _) _⟩
     rw [kU (f:=fun _=>1 - (qD g : Int) % 2) (d:=fun _=>0) hlt rfl]
     exact (bp.set ho k _).top
    case measure=>simp [intOf];omega
  · have hk4 : ∀ v,v < n4 → v < k:=fun v hv=>by omega
    have ho' : bp w4.heap.size wr.heap.size wr (.slice (some ⟨w4.heap.size,0,none⟩) n4 n4) (tab n4 fun _=>1 - (qD g : Int) % 2):=by
     rwa [show (tab n4 fun v=>if v < k then 1 - (qD g : Int) % 2 else 0) = tab n4 fun _=>1 - (qD g : Int) % 2 from bR fun v hv=>if_pos (hk4 v hv)] at ho
    have hbr : Below w.heap.size w wr:=hbw.trans (hb.mono hbw.size)
    replace b0:=bC b0 hb
    replace b1:=bC b1 hb
    replace b2:=bC b2 hb
    have hzr:=hb.size
    have hlen4:=ho4.len
    clear ho hk4
    go_wp2_with (first
     | (go_at_call 52; refine (g7 _ _ _ (hP0.below hbr)).mono ?_; rintro e w6 ⟨bs, bm, rfl, hK, hbm, hb6⟩)
     | (go_at_call 53; refine (HR bs bm _ ((qD g : Int) % 2) (fun v => v < g.prio.length) (qD g) n4 n4 _ rfl (by omega) (by omega) (by omega) (fun _ h => h) hK (iV g.prio.length ▸ ((ho4.is.below hb).below hb6))).mono ?_; rintro e w7 ⟨s7, n7, c7, rfl, hF7, hK7, hM7⟩))
    have hz6:=hb6.size
    have hz7:=hM7.out.size
    have hwr : w4.heap.size < wr.heap.size:=(bp.blks ho' w4.heap.size rfl).2
    have ho7:=bp.out (bp.below ho' hb6) hM7.out (.inl hbm)
    have hI7:=IsI.ints hF7.1
    have hbw7 : Below w.heap.size w w7:=hbr.trans ((hb6.mono hbr.size).trans (hM7.below (by omega) (by omega)))
    have hfar : ∀ ad,s7 = some ad → ad.block ≠ w4.heap.size:=fun ad e=>by
     have:=hF7.2 ad.block (by rw [e];rfl)
     omega
    obtain ⟨L,hL⟩ : ∃ L,L = lst (qA (pgA g) g.prio.length (qD g + 1) ((qD g : Int) % 2) (fun v=>v < g.prio.length) n4 n4) g.prio.length:=⟨_,rfl⟩
    rw [← hL] at hI7
    have hLb : ∀ j,j < n7 → 0 ≤ gi L j ∧ gi L j < n4:=fun j hj=>by
     have hm:=cy (xs:=L) (k:=j) (by rw [hI7.1];exact hj)
     rw [hL] at hm
     obtain ⟨v,h1,_,h3⟩:=cW.1 hm
     have:=HN.out
     rw [hL]
     omega
    have hn7 : n7 ≤ 12:=by
     have h1:=hI7.1
     have h2:=eR (qA (pgA g) g.prio.length (qD g + 1) ((qD g : Int) % 2) (fun v=>v < g.prio.length) n4 n4) g.prio.length
     rw [← hL] at h2
     have:=HS.out.2
     omega
    have HLL:=Lib.hid hL
    have HLB:=Lib.hid hLb
    have HFar:=Lib.hid hfar
    clear hL hLb hfar hF7 hK hK7 hM7 hb6 hbr
    have h0 : (tab n4 fun _=>1 - (qD g : Int) % 2) = tab n4 fun v=>if tf (∃ t,t < 0 ∧ gi L t = (v : Int)) then (qD g : Int) % 2 else 1 - (qD g : Int) % 2:=bR fun v hv=>by
     rw [aH (by rintro ⟨t,h,_⟩;omega)];rfl
    rw [h0] at ho7
    clear h0
    have HI7:=hI7
    go_loopw [46] (fun i wq=>∃ j : Nat,j ≤ n7 ∧ i = .int .i64 j ∧ bp w4.heap.size wq.heap.size wq (.slice (some ⟨w4.heap.size,0,none⟩) n4 n4) (tab n4 fun v=>if tf (∃ t,t < j ∧ gi L t = (v : Int)) then (qD g : Int) % 2 else 1 - (qD g : Int) % 2) ∧ cQ wq s7 n7 c7 L ∧ Below w.heap.size w wq) (fun i _=>n7 - (intOf i).toNat)
    case atStart=>exact ⟨0,Nat.zero_le _,rfl,bp.top ho7,hI7,hbw7⟩
    case round =>
     clear ho7 hI7 hbw7
     obtain ⟨j,hj,rfl,hoj,hIj,hbj⟩:=hrel
     by_cases hlj : j < n7
     · obtain ⟨bL,oL,rfl,hbl,hc⟩:=hIj.get hlj
       have hcj:=hc j hlj
       have hg:=HLB.out j hlj
       have hg2 : (gi L j).toNat < n4:=by omega
       obtain ⟨hg0,hg1⟩:=hg
       obtain ⟨q1,q2,q3,q4⟩:=hoj.cell hg2
       clear hc
       go_wp2_with fail
       go_roundw
       case rel =>
        refine ⟨j + 1,by omega,by go_num,?_,sN hIj HFar.out,aS hbj (by omega) _⟩
        have hn:=(bp.set hoj (gi L j).toNat ((qD g : Int) % 2)).top
        rw [g9 hg2] at hn
        rwa [show (tab n4 fun v=>if tf (∃ t,t < j + 1 ∧ gi L t = (v : Int)) then (qD g : Int) % 2 else 1 - (qD g : Int) % 2) = tab n4 fun i=>if i = (gi L j).toNat then (qD g : Int) % 2 else if tf (∃ t,t < j ∧ gi L t = (i : Int)) then (qD g : Int) % 2 else 1 - (qD g : Int) % 2 from bR fun v hv=>?_]
        by_cases e : v = (gi L j).toNat
        · rw [if_pos e,bc ⟨j,by omega,by omega⟩];rfl
        · rw [if_neg e,cM (q:=∃ t,t < j ∧ gi L t = (v : Int)) ⟨fun ⟨t,h1,h2⟩=>⟨t,by
           by_cases et : t = j
           · subst et;omega
           · omega,h2⟩,fun ⟨t,h1,h2⟩=>⟨t,by omega,h2⟩⟩]
       case measure=>simp [intOf];omega
     · have ej : j = n7:=by omega
       go_wp2_with fail
       go_ret
       refine ⟨_,_,_,rfl,?_,hbj⟩
       have hfin : (tab n4 fun v=>if tf (∃ t,t < j ∧ gi L t = (v : Int)) then (qD g : Int) % 2 else 1 - (qD g : Int) % 2) = qwL g:=by
        have hn:=HN.out
        have hll:=HI7.1
        have hLL:=HLL.out
        rw [← hn] at hLL ⊢
        refine bR fun v hv=>?_
        rw [cM (q:=qX g v)]
        rw [ej]
        constructor
        · rintro ⟨t,h1,h2⟩
          have hm:=cy (xs:=L) (k:=t) (by omega)
          rw [h2,hLL] at hm
          exact (eJ hv).1 hm
        · intro h
          obtain ⟨t,h1,h2⟩:=ck ((eJ hv).2 h)
          refine ⟨t,?_,?_⟩
          · rw [← hll,hLL];exact h1
          · rw [hLL];exact h2
       rw [hfin] at hoj
       exact bp.mono hoj (by omega) (Nat.le_refl _)
theorem oD (x : Value) (g : Pa) (w : World) (hP : IsP w x g) : Calls Try.prog 21 #[x] w (eg w (qwN g)):=by
 by_cases h : dA g
 · rw [qwN,if_pos h];exact oC x g h w hP
 · rw [qwN,if_neg h];exact j9 (vs:=[x]) (nc g h) (.cons (qm hP) .nil)
end Go.Proofs.Ythjamlponejffaa
