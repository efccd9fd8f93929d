/-
  Queries, the program: a query's answer.
-/
import Derived.Test.YthjamlponejffaaZhNF
import Derived.Deep.RegionLaw
namespace Go.Proofs.Ythjamlponejffaa
set_option linter.unusedVariables false
set_option linter.unusedSimpArgs false
open Go.RowKit
attribute [local go_sem ↓] Go.wp_at_zero Go.wp_at_succ
theorem lc {w : World} {bs bm : Nat} {g : Pa} (hs : g.prio.length ≤ 12) (hK : Ask w bs bm g) {S : Nat → Prop} {who : Int} {d : Nat} {mine yours : Int} (hS : ∀ u,S u → u < g.prio.length) (hw : who = 0 ∨ who = 1) (hd : d < 64) (hm : 0 ≤ mine ∧ mine < 16) (hy : 0 ≤ yours ∧ yours < 16) {key : Value} {kl : Lit}
  (hkl : keyOf Try.prog 102 key = some kl) (hk' : keyOf Try.prog 102 (qkV (fe (lst S g.prio.length) (lst S g.prio.length).length) who d mine yours) = some kl) {v : Value} (hI : g6 bm w v (lst (qA (pgA g) g.prio.length (d + 1) who S mine yours) g.prio.length)) :
  ∃ w7,(Instr.mapUpdate 98 (.map (some bm)) key v).run Try.prog w.drew = .ok () w7 ∧ Ask w7 bs bm g ∧ Mv bm w w7 ∧ g6 bm w7 v (lst (qA (pgA g) g.prio.length (d + 1) who S mine yours) g.prio.length):=by
 obtain ⟨kn,D,hown,hmemo⟩:=id hK.own
 have hn : Maps.size D < maxLen:=by
  have:=hmemo.few hs (hown.tidy uE)
  unfold maxLen;omega
 obtain ⟨w7,h1,h2,h3⟩:=(sc hown).drew.update uE Try.underlying98 hn hkl (val:=v) (d:=.held v) (ps:=[]) rfl
 have hm7:=wa hown.drew h3
 have hm0:=(hK.mvb (bJ w)).trans hm7
 have hI7:=hI.mv hm0
 exact ⟨w7,h1,hK.turn hm0 h2 ((hmemo.keep fun _ _ h=>h.mv hm0).put hown.isMap hS hw hd hm hy hk' hI7),hm0,hI7⟩
set_option maxRecDepth 100000 in
set_option maxHeartbeats 1000000 in
theorem m9 (g : Pa) (hs : dA g) (D : Nat) (hD : D < 63) (hR : sF g D) (hRs : wm g D) : wk g D:=by
 intro bs bm v who S x mine yours w hx hw hm hy hS hK hI
 obtain ⟨sv,nv,cv,rfl,hIv⟩:=hI
 have hlen:=hIv.1
 have hle:=eR S g.prio.length
 have hsm:=hs.2
 by_cases h0 : nv = 0
 · have hno : ∀ u,¬ S u:=fun u hu=>by
    have:=ck ((eJ (hS u hu)).2 hu)
    obtain ⟨j,hj,_⟩:=this
    omega
   rw [wb hno,show lst (fun _=>False) g.prio.length = [] from (ff fun v _=>⟨fun h=>h.elim,fun h=>(hno v h).elim⟩).trans (List.eq_nil_of_length_eq_zero (l:=lst S g.prio.length) (by omega))]
   clear hlen hle
   subst h0
   go_enter Try.func53,Try.ntmps53
   go_wp2_with fail
   go_ret
   exact ⟨none,0,0,rfl,px bm w,hK,hK.mvb (Below.refl _ _)⟩
 by_cases hm0 : mine = 0
 · rw [u4 hm0,show lst (fun _=>False) g.prio.length = [] from List.eq_nil_of_length_eq_zero (by rw [gw];exact dZ.2 fun _ _ h=>h)]
   clear hlen hle
   subst hm0
   go_enter Try.func53,Try.ntmps53
   go_wp2_with fail
   go_ret
   exact ⟨none,0,0,rfl,px bm w,hK,hK.mvb (Below.refl _ _)⟩
 have hb12 : ∀ j,j < nv → (gi (lst S g.prio.length) j).toNat < 12 ∧ 0 ≤ gi (lst S g.prio.length) j:=fun j hj=>by
  obtain ⟨u,h1,h2,h3⟩:=cW.1 (cy (xs:=lst S g.prio.length) (k:=j) (by omega))
  omega
 have hnv : nv ≤ 12:=by omega
 have hc1 : ((nv : Int) == 0) = false:=beq_false_of_ne (by omega)
 have hc2 : (mine == 0) = false:=beq_false_of_ne hm0
 have HB:=Lib.hid hb12
 have HL:=Lib.hid hlen
 have HX:=Lib.hid hx
 have HW:=Lib.hid hw
 clear hb12 hlen hle hx
 obtain ⟨xs,hxs⟩ : ∃ xs,xs = lst S g.prio.length:=⟨_,rfl⟩
 have HXS:=Lib.hid hxs
 rw [← hxs] at hIv HB HL
 clear hxs
 go_enter Try.func53,Try.ntmps53
 go_wp2_with fail
 have hbA : Below w.heap.size w (w.alloc (.cells #[.int .i64 0,.int .i64 who,.int .i64 x,.int .i64 mine,.int .i64 yours] 102)):=bg _ _
 have hBA : Blk (w.alloc (.cells #[.int .i64 0,.int .i64 who,.int .i64 x,.int .i64 mine,.int .i64 yours] 102)) w.heap.size [.int .i64 ((fe xs 0 : Nat) : Int),.int .i64 who,.int .i64 x,.int .i64 mine,.int .i64 yours] 102:=dR _ _ _
 generalize w.alloc (.cells #[.int .i64 0,.int .i64 who,.int .i64 x,.int .i64 mine,.int .i64 yours] 102) = w1 at *
 go_loopw [34] (fun i wr=>∃ k : Nat,k ≤ nv ∧ i = .int .i64 k ∧ Blk wr w.heap.size [.int .i64 ((fe xs k : Nat) : Int),.int .i64 who,.int .i64 x,.int .i64 mine,.int .i64 yours] 102 ∧ Below w.heap.size w wr) (fun i _=>nv - (intOf i).toNat)
 case atStart=>exact ⟨0,Nat.zero_le _,rfl,hBA,hbA⟩
 case round =>
  clear hBA hbA
  obtain ⟨k,hk,rfl,hB,hb⟩:=hrel
  by_cases hlt : k < nv
  · obtain ⟨b,o,rfl,hbl,hc⟩:=hIv.get hlt
    have hck:=hc k hlt
    rw [← (jG hb).1 b (o + k) hbl] at hck
    have hg12:=(HB.out k hlt).1
    have hg0:=(HB.out k hlt).2
    have b0:=hB.cell 0 rfl
    have f0:=hB.free 0
    clear hc
    go_wp2_with fail
    go_region_law (fail)
    go_wp2_with fail
    go_roundw
    case rel =>
     rw [sC (lX (k:=k) fun j hj=>(HB.out j (by omega)).1) hg12]
     exact ⟨k + 1,by omega,by go_num,(hB.set 0 _).drew,(aS hb (Nat.le_refl _) _).drew⟩
    case measure=>simp [intOf];omega
  · have e : k = nv:=by omega
    subst e
    clear hk hlt
    have b0:=hB.cell 0 rfl
    have b1:=hB.cell 1 rfl
    have b2:=hB.cell 2 rfl
    have b3:=hB.cell 3 rfl
    have b4:=hB.cell 4 rfl
    have hKr:=hK.below hb
    have q3:=hKr.mp
    go_wp2_with fail
    have hlb:=py hsm S
    have hE : fe xs k = fe (lst S g.prio.length) (lst S g.prio.length).length:=by rw [← HXS.out,HL.out]
    have HE:=Lib.hid hE
    have hlk : fe xs k < 4096:=by omega
    clear hE hlb
    obtain ⟨kl,hkl⟩:=zj (fe xs k) who x mine yours (by omega) hw (by have:=HX.out;omega) hm hy
    obtain ⟨kn,DD,hown,hmemo⟩:=hKr.own
    obtain ⟨v0,ps,hrun,hv0⟩:=hown.drew.look_ok uE Try.underlying98 (z:=.slice none 0 0) (by kernel_rfl) (zd:=.held (.slice none 0 0)) (zp:=[]) rfl hkl
    have hkl' : keyOf Try.prog 102 (qkV (fe (lst S g.prio.length) (lst S g.prio.length).length) who (D : Int) mine yours) = some kl:=by rw [← HE.out,← HX.out];exact hkl
    have HKL:=Lib.hid hkl'
    have hIr : IsI wr (.slice sv k cv) (lst S g.prio.length):=by rw [← HXS.out];exact hIv.is.below hb
    simp only [qkV] at hrun
    cases hq : Maps.has DD kl with
    | true =>
      have hF0:=hmemo.get hown.isMap hS HKL.out hq hv0
      obtain ⟨s0,n0,c0,rfl,hI0⟩:=id hF0.1
      rw [hq] at hrun
      go_region_law (fail)
      all_goals
       go_wp2_with fail
       go_ret
       exact ⟨s0,n0,c0,rfl,hF0.below (bJ wr),hKr.below (bJ wr),(hK.mvb hb).trans (hKr.mvb (bJ wr))⟩
    | false =>
      rw [Maps.atKey_of_not_has hq] at hv0
      have hv0':=pc hv0
      subst hv0'
      rw [hq] at hrun
      clear hv0 hmemo
      go_region_law (fail)
      all_goals
       go_wp2_with fail
       refine (hRs bs bm _ who S x mine _ _ HX.out hw hm (by omega) hS (hKr.below (bJ wr)) (hIr.below (bJ wr))).mono ?_
       rintro e w4 ⟨s4,n4,c4,rfl,hI4,hK4,hM4⟩
       have s1 : ∀ v,itQ (qR (pgA g) (qA (pgA g) g.prio.length D) who D mine (yours / 2)) S g.prio.length v → S v:=fun v h=>gn (fun _ _ h=>h.1) _ v h
       have e1:=fun h=>ug (P:=pgA g) (n:=g.prio.length) (D:=D) (who:=who) (S:=S) (mine:=mine) (yours:=yours) hm0 hS h
       have e2:=lT (P:=pgA g) (n:=g.prio.length) (D:=D) (who:=who) (S:=S) (yours:=yours) hm0
       generalize itQ (qR (pgA g) (qA (pgA g) g.prio.length D) who D mine (yours / 2)) S g.prio.length = G1 at *
       have s1n : ∀ v,G1 v → v < g.prio.length:=fun v h=>hS v (s1 v h)
       go_wp2_with fail
       refine (hR bs bm _ who G1 x mine yours _ HX.out hw hm hy s1n hK4 hI4.1).mono ?_
       rintro e w5 ⟨s5,n5,c5,rfl,ho5,hK5,hM5⟩
       have s2 : ∀ v,qR (pgA g) (qA (pgA g) g.prio.length D) who D mine yours G1 v → G1 v:=fun v h=>h.1
       generalize qR (pgA g) (qA (pgA g) g.prio.length D) who D mine yours G1 = G2 at *
       have E1:=Lib.hid e1
       have E2:=Lib.hid e2
       have E4:=Lib.hid (IsI.ints hI4.1).1
       have E5:=Lib.hid ho5.len
       clear e1 e2
       have d0:=hM5.cell (hM4.cell (bC b0 (bJ wr)))
       have d1:=hM5.cell (hM4.cell (bC b1 (bJ wr)))
       have d2:=hM5.cell (hM4.cell (bC b2 (bJ wr)))
       have d3:=hM5.cell (hM4.cell (bC b3 (bJ wr)))
       have d4:=hM5.cell (hM4.cell (bC b4 (bJ wr)))
       have hMw5 : Mv bm w w5:=((hK.mvb hb).trans (hKr.mvb (bJ wr))).trans (hM4.trans hM5)
       by_cases hlt : (n5 : Int) < n4
       · go_wp2_with fail
         refine (hRs bs bm _ who G2 x mine _ _ HX.out hw hm (by omega) (fun v h=>s1n v (s2 v h)) hK5 ho5.is).mono ?_
         rintro e w6 ⟨s6,n6,c6,rfl,hI6,hK6,hM6⟩
         rw [← E2.out] at hI6
         obtain ⟨w7,hrun2,hK7,hM7,hI7⟩:=lc hsm hK6 hS hw (by omega) hm hy hkl HKL.out hI6
         simp only [qkV] at hrun2
         have q6:=hK6.mp
         replace d0:=hM6.cell d0
         replace d1:=hM6.cell d1
         replace d2:=hM6.cell d2
         replace d3:=hM6.cell d3
         replace d4:=hM6.cell d4
         clear hrun
         go_wp2_with fail
         go_region_law (fail)
         all_goals
          go_wp2_with fail
          go_ret
          exact ⟨s6,n6,c6,rfl,hI7,hK7,(hMw5.trans hM6).trans hM7⟩
       · have hI5 : g6 bm w5 (.slice s5 n5 c5) (lst (qA (pgA g) g.prio.length (D + 1) who S mine yours) g.prio.length):=by
          have h4:=E4.out
          have h5:=E5.out
          have e:=pw (n:=g.prio.length) s2 s1n (by omega)
          rw [E1.out e,← e]
          exact bp.far ho5 hK4.lt
         obtain ⟨w7,hrun2,hK7,hM7,hI7⟩:=lc hsm hK5 hS hw (by omega) hm hy hkl HKL.out hI5
         simp only [qkV] at hrun2
         have q6:=hK5.mp
         clear hrun
         go_wp2_with fail
         go_region_law (fail)
         all_goals
          go_wp2_with fail
          go_ret
          exact ⟨s5,n5,c5,rfl,hI7,hK7,hMw5.trans hM7⟩
end Go.Proofs.Ythjamlponejffaa
