/-
  MeasureOk: the program's and the reference's.
-/
import Derived.Test.YtceonklhlpkfgaaZlOdds2
import Derived.Test.YtceonklhlpkfgaaZlCb
namespace Go.Proofs.Ytceonklhlpkfgaa
set_option linter.unusedVariables false
set_option linter.unusedSimpArgs false
open Go.RowKit
attribute [local go_sem ↓] Go.wp_at_zero Go.wp_at_succ
def cn (pr : List Int) (p : Int) : Nat → Nat
 | 0 => 0
 | k + 1 => if gi pr k = p then cn pr p k + 1 else cn pr p k
def di (g : Pa) (p : Int) : Int:=(cn g.prio p g.prio.length : Nat)
theorem iC (pr : List Int) (p : Int) (k : Nat) : cn pr p k ≤ k:=by
 induction k with
 | zero => simp [cn]
 | succ k ih => simp only [cn]; split <;> omega
theorem mv (pr : List Int) (p : Int) (n : Nat) : ∀ k,k ≤ n → (dQ (fun x=>gi pr x.toNat = p) (tab n fun v=>(v : Int)) k).length = cn pr p k:=by
 intro k
 induction k with
 | zero => intro _; rfl
 | succ k ih =>
   intro hk
   have ih:=ih (by omega)
   have e : gi (tab n fun v=>(v : Int)) k = (k : Int):=cz _ (by omega)
   by_cases h : gi pr k = p
   · rw [dG (by rw [e,Int.toNat_natCast];exact h)]
     simp only [cn]
     rw [if_pos h,List.length_append,ih];rfl
   · rw [eD (by rw [e,Int.toNat_natCast];exact h)]
     simp only [cn]
     rw [if_neg h,ih]
def bJ (g : Pa) (m : List Int) : Prop:=m = [1] ∨ (m.length = (ax g).length + 1 ∧ gi m 0 = 0 ∧ ∀ i,i < (ax g).length → 0 ≤ gi m (i + 1) ∧ gi m (i + 1) ≤ di g (gi (ax g) i))
set_option maxHeartbeats 400000 in
theorem iD (sa : Option Addr) (n c : Nat) (xs : List Int) (sb : Option Addr) (m d : Nat) (ys : List Int) (w : World) (hx : b7 w sa n c xs) (hy : b7 w sb m d ys) :
  Calls Try.prog 61 #[.slice sa n c,.slice sb m d] w (Qb w (tf (xs = ys))):=by
 have hmax:=hx.max
 have hmay:=hy.max
 have HX:=Lib.hid hx.1
 have HY:=Lib.hid hy.1
 by_cases hnm : n = m
 · subst hnm
   go_enter Try.func61,Try.ntmps61
   go_wp2
   go_loopw [13] (fun i wr=>∃ k : Nat,k ≤ n ∧ i = .int .i64 k ∧ (∀ j,j < k → gi xs j = gi ys j) ∧ Qt w wr) (fun i _=>n - (intOf i).toNat)
   case atStart=>exact ⟨0,by omega,rfl,fun j hj=>by omega,Qt.refl w⟩
   case round =>
    obtain ⟨k,hk,rfl,he,hq⟩:=hrel
    have HE:=Lib.hid he
    clear he
    by_cases hlt : k < n
    · obtain ⟨b1,o1,rfl,hb1,hc1⟩:=(hx.below hq.below).get hlt
      obtain ⟨b2,o2,rfl,hb2,hc2⟩:=(hy.below hq.below).get hlt
      have hk1:=hc1 k hlt
      have hk2:=hc2 k hlt
      have i0 : (0 : Int) ≤ (k : Int):=by omega
      have i1 : (k : Int) < (n : Int):=by omega
      clear hc1 hc2
      go_wp2
      go_quiet (fail)
      by_cases heq : gi xs k = gi ys k
      · have HQ:=Lib.hid heq
        have hb : (gi xs k != gi ys k) = false:=by simp [heq]
        clear heq
        go_wp2
        go_roundw
        case rel=>exact ⟨k + 1,by omega,by go_num,fun j hj=>by
         by_cases e : j = k
         · rw [e];exact HQ.out
         · exact HE.out j (by omega),hq.drewN _⟩
        case measure=>simp [intOf];omega
      · have hb : (gi xs k != gi ys k) = true:=by simp [heq]
        go_wp2
        go_ret
        exact ⟨au (am (fun e=>heq (by rw [e]))).symm,hq.drewN _⟩
    · go_wp2
      go_ret
      exact ⟨au (aA (pS HX.out HY.out (fun j hj=>HE.out j (by omega)))).symm,hq⟩
 · go_enter Try.func61,Try.ntmps61
   go_wp2
   go_ret
   exact ⟨au (am (fun e=>hnm (by rw [← HX.out,← HY.out,e]))).symm,0,rfl⟩
set_option maxHeartbeats 400000 in
theorem np (v : Value) (g : Pa) (p : Int) (w : World) (hP : IsP w v g) : Calls Try.prog 57 #[v,.int .i64 p] w (Bi w (di g p)):=by
 obtain ⟨_,_,_,rfl,⟨s1,n1,c1,rfl,h1⟩,⟨s2,n2,c2,rfl,h2⟩,⟨s3,n3,c3,rfl,h3⟩⟩:=hP
 have hm3:=h3.max
 obtain rfl:=h3.1
 go_enter Try.func57,Try.ntmps57
 go_wp2
 go_loop [5,6] (fun t i=>∃ k : Nat,k ≤ g.prio.length ∧ i = .int .i64 k ∧ t = .int .i64 (cn g.prio p k : Nat)) (fun _ i=>g.prio.length - (intOf i).toNat)
 case atStart=>exact ⟨0,by omega,rfl,rfl⟩
 case round =>
  obtain ⟨k,hk,rfl,rfl⟩:=hrel
  have hle:=iC g.prio p k
  by_cases hlt : k < g.prio.length
  · obtain ⟨b,o,rfl,hbl,hc⟩:=h3.get hlt
    have hck:=hc k hlt
    clear hc
    rcases cY (gi g.prio k) p with ⟨d1,d2,x1⟩|⟨d1,d2,x1⟩
    · have HS:=Lib.hid (show cn g.prio p (k + 1) = cn g.prio p k + 1 by simp only [cn];rw [if_pos x1.out])
      go_wp2
      go_round
      case rel=>exact ⟨k + 1,by omega,by go_num,by rw [HS.out];congr 1⟩
      case measure=>simp [intOf];omega
    · have HS:=Lib.hid (show cn g.prio p (k + 1) = cn g.prio p k by simp only [cn];rw [if_neg x1.out])
      go_wp2
      go_round
      case rel=>exact ⟨k + 1,by omega,by go_num,by rw [HS.out]⟩
      case measure=>simp [intOf];omega
  · go_wp2
    go_ret
    have e : k = g.prio.length:=by omega
    subst e
    exact ⟨rfl,(by repeat' (first|(with_reducible exact Below.refl _ _)|(with_reducible apply Below.alloc)|(with_reducible apply Below.drew)|(with_reducible apply ah)|omega|(simp only [World.size_alloc,World.size_setCell,World.size_drew];omega)))⟩
set_option maxRecDepth 100000 in
set_option maxHeartbeats 4000000 in
theorem jY (v : Value) (g : Pa) (w : World) (hP : IsP w v g) (hg : PaOk g) : Calls Try.prog 62 #[v] w (d9 w (tab (ax g).length fun i=>di g (gi (ax g) i))):=by
 have hP0:=hP
 obtain ⟨_,_,_,rfl,⟨s1,n1,c1,rfl,h1⟩,⟨s2,n2,c2,rfl,h2⟩,⟨s3,n3,c3,rfl,h3⟩⟩:=hP
 have hA : IsA w (.agg #[.slice s1 n1 c1,.slice s2 n2 c2]) g.ar:=⟨_,_,rfl,h1.is,h2.is⟩
 have HN:=Lib.hid hg.ar.le
 have HL:=Lib.hid hg.len
 have G:=Lib.hid hg
 have hBt : Bnd (tab g.ar.own.length fun v=>(v : Int)) g.prio.length:=fun k hk=>by rw [bO] at hk;rw [cz _ hk];have:=hg.len;omega
 have BN:=Lib.hid hBt
 clear hg hBt h1 h2 h3
 go_enter Try.func62,Try.ntmps62
 go_wp2_with fail
 generalize hqw1 : w.alloc (.cells #[.slice s1 n1 c1,.slice s2 n2 c2,.slice s3 n3 c3] 33) = w1
 have hbw : Below w.heap.size w w1:=by rw [← hqw1];exact (by repeat' (first|(with_reducible exact Below.refl _ _)|(with_reducible apply Below.alloc)|(with_reducible apply Below.drew)|(with_reducible apply ah)|omega|(simp only [World.size_alloc,World.size_setCell,World.size_drew];omega)))
 have hew1:=Lib.hid (show w1.heap.size = w.heap.size + 1 by rw [← hqw1];simp)
 have hsw : w.heap.size + 1 ≤ w1.heap.size:=by rw [← hqw1];simp only [World.size_alloc];omega
 have hswa : w.heap.size < w1.heap.size:=by omega
 have HQw1_0 : Blk w1 (w.heap.size) [.slice s1 n1 c1,.slice s2 n2 c2,.slice s3 n3 c3] 33:=by rw [← hqw1];have hnew:=bK w [.slice s1 n1 c1,.slice s2 n2 c2,.slice s3 n3 c3] 33;(try simp only [World.size_alloc] at hnew);exact hnew
 have b0_0 : w1.cell? ⟨w.heap.size,0,none⟩ = some (.slice s1 n1 c1):=HQw1_0.cell 0 rfl
 have b0_1 : w1.cell? ⟨w.heap.size,1,none⟩ = some (.slice s2 n2 c2):=HQw1_0.cell 1 rfl
 have b0_2 : w1.cell? ⟨w.heap.size,2,none⟩ = some (.slice s3 n3 c3):=HQw1_0.cell 2 rfl
 have HRw1:=Lib.hid HQw1_0
 clear HQw1_0
 clear hqw1
 clear HRw1
 have hes : aC w1.heap.size (w1.alloc (.cells #[] 2)).heap.size (w1.alloc (.cells #[] 2)) (.slice (some ⟨w.heap.size + 1,0,none⟩) 0 0) []:=by rw [← hew1.out];exact eE _ _ 0 (Nat.le_refl _)
 generalize hq2 : w1.alloc (.cells #[] 2) = w2 at *
 have hb12 : Below w1.heap.size w1 w2:=by rw [← hq2];exact ao _ _
 have hz12 : w1.heap.size < w2.heap.size:=by rw [← hq2];simp
 clear hq2
 replace b0_0:=aj b0_0 hb12
 replace b0_1:=aj b0_1 hb12
 replace b0_2:=aj b0_2 hb12
 replace hbw:=hbw.trans (hb12.mono hbw.size)
 refine (no _ _ _ (hP0.below hbw) G.out).mono ?_
 rintro e w5 ⟨s7,n7,c7,rfl,ho7,hb5⟩
 have hz5:=hb5.size
 replace b0_0:=aj b0_0 hb5
 replace b0_1:=aj b0_1 hb5
 replace b0_2:=aj b0_2 hb5
 replace hes:=hes.below hb5
 replace hbw:=hbw.trans (hb5.mono hbw.size)
 have hl7:=ho7.len
 have hI7:=ho7.is.ints
 have hl41 : n7 ≤ 41:=by rw [← hl7];exact cO g
 have HL7:=Lib.hid hl7
 clear hl7
 go_wp2_with fail
 go_loopw [3,10] (fun v i wr=>∃ (k c : Nat) (sa : Option Addr),k ≤ n7 ∧ i = .int .i64 k ∧ v = .slice sa k c ∧ ig ⟨w.heap.size + 1,0,none⟩ w5.heap.size wr.heap.size wr (.slice sa k c) (tab k fun i=>di g (gi (ax g) i)) ∧ Below w5.heap.size w5 wr) (fun _ i _=>n7 - (intOf i).toNat)
 case atStart=>exact ⟨0,0,_,by omega,rfl,rfl,Or.inr ⟨rfl,rfl⟩,Below.refl _ _⟩
 case round =>
  obtain ⟨k,c,sa,hk,rfl,rfl,ho,hb⟩:=hrel
  have hsz:=hb.size
  by_cases hlt : k < n7
  · obtain ⟨b,o,rfl,hbl,hc⟩:=(hI7.below hb).get hlt
    have hck:=hc k hlt
    clear hc
    replace b0_0:=aj b0_0 hb
    replace b0_1:=aj b0_1 hb
    replace b0_2:=aj b0_2 hb
    replace hbw:=hbw.trans (hb.mono hbw.size)
    clear hes
    go_wp2_with fail
    go_region_held3 (fun w'=>w'.cell? ⟨w.heap.size,0,none⟩ = some (.slice s1 n1 c1) ∧ w'.cell? ⟨w.heap.size,1,none⟩ = some (.slice s2 n2 c2) ∧ w'.cell? ⟨w.heap.size,2,none⟩ = some (.slice s3 n3 c3)) (first|exact ⟨b0_0,b0_1,b0_2⟩|go_keep)
     (first
      | (go_at_call 67; refine (lJ _ _ _ ((hA.below hbw).drew) HN.out).mono ?_; rintro e w6 ⟨s8, n8, c8, rfl, ho8, hbw6⟩; replace hbw6 := gw hbw6; replace b0_0 := aj b0_0 hbw6; replace b0_1 := aj b0_1 hbw6; replace b0_2 := aj b0_2 hbw6; replace ho := ho.below hbw6; replace hbw : Below w.heap.size w w6 := hbw.trans (hbw6.mono hbw.size); have hz6 := hbw6.size)
      | (go_at_call 70; refine (kL _ _ _ _ _ _ (hP0.below hbw) ho8.is BN.out (by rw [bO]; have := HN.out; omega)).mono ?_; rintro e w7 ⟨s9, n9, c9, rfl, ho9, hbw7⟩; replace b0_0 := aj b0_0 hbw7; replace b0_1 := aj b0_1 hbw7; replace b0_2 := aj b0_2 hbw7; replace ho := ho.below hbw7; replace hbw : Below w.heap.size w w7 := hbw.trans (hbw7.mono hbw.size); have hz7 := hbw7.size; have hn9 := ho9.len)
      | ((refine ii (by rfl) _ _ (by rfl) (by rfl) (ig.below ho (ao _ _)) (n9 : Int) _ _ (by rfl) (by simp) (by simp; omega) (by simp; omega) ?_; intro sa' c' w8 ho10 hO8; have g8_0 := bQ (aj b0_0 (ao w7 _)) hO8 (by omega); have g8_1 := bQ (aj b0_1 (ao w7 _)) hO8 (by omega); have g8_2 := bQ (aj b0_2 (ao w7 _)) hO8 (by omega))))
    go_wp2_with fail
    go_roundw
    case rel =>
     rw [bO] at *
     have e9 : (n9 : Int) = di g (gi (ax g) k):=by
      unfold di
      rw [← hn9,mv _ _ _ _ (Nat.le_refl _),HL.out]
     rw [e9] at ho10
     refine ⟨k + 1,c',sa',by omega,by go_num,rfl,Or.inl ?_,?_⟩
     · rwa [← gH (f:=fun i=>di g (gi (ax g) i))] at ho10
     · exact ((hb.trans (hbw6.mono hsz)).trans (hbw7.mono (by omega))).trans ((ao w7 _).mono (by omega) |>.trans (hO8.below (by simp;omega)))
    case measure=>simp [intOf];omega
  · have e : k = n7:=by omega
    subst e
    have hfin : aC w1.heap.size wr.heap.size wr (.slice sa k c) (tab k fun i=>di g (gi (ax g) i)):=by
     rcases ho with ho|⟨he,hx⟩
     · exact ho.mono (by omega) (Nat.le_refl _)
     · rw [he,hx];exact ((hes.below hb).top)
    clear ho
    go_wp2_with fail
    go_ret
    exact ⟨_,_,_,rfl,by rw [HL7.out];exact hfin.mono (by omega) (Nat.le_refl _),hbw.trans (hb.mono hbw.size)⟩
end Go.Proofs.Ytceonklhlpkfgaa
namespace Go.Proofs.Ytceonklhlpkfgaa
set_option linter.unusedVariables false
set_option linter.unusedSimpArgs false
open Go.RowKit
attribute [local go_sem ↓] Go.wp_at_zero Go.wp_at_succ
theorem jZ {w : World} {B : Nat} (h : w.cell? ⟨B,0,none⟩ = some (.int .i64 1)) : b7 w (some ⟨B,0,none⟩) 1 1 [1] :=
 ⟨rfl,by omega,by omega,fun e=>(by cases e),fun ad e _=>(by cases e;rfl),fun ad e k hk=>by
  cases e
  have : k = 0:=by omega
  subst this
  simpa [gi] using h⟩
theorem ji {m : List Int} : m = [1] ↔ m.length = 1 ∧ gi m 0 = 1:=by
 constructor
 · rintro rfl;exact ⟨rfl,rfl⟩
 · rintro ⟨h1,h2⟩
   exact i6 h1 fun k hk=>by
    have : k = 0:=by omega
    subst this
    rw [h2];rfl
set_option maxRecDepth 100000 in
set_option maxHeartbeats 2000000 in
theorem j0 (v u : Value) (g : Pa) (m : List Int) (w : World) (hP : IsP w v g) (hm : IsI w u m) (hg : PaOk g) : Calls Try.prog 48 #[v,u] w (Bb w (tf (bJ g m))):=by
 have hP0:=hP
 obtain ⟨_,_,_,rfl,⟨s1,n1,c1,rfl,h1⟩,⟨s2,n2,c2,rfl,h2⟩,⟨s3,n3,c3,rfl,h3⟩⟩:=hP
 obtain ⟨s4,n,c4,rfl,h4⟩:=hm
 have hm4:=h4.max
 have hcap:=h4.2.cap
 have hcm:=h4.2.max
 have H4:=Lib.hid h4.1
 have G:=Lib.hid hg
 have hN:=cO g
 obtain ⟨N,eN⟩ : ∃ N,(ax g).length = N:=⟨_,rfl⟩
 have HN:=Lib.hid eN
 rw [eN] at hN
 clear hg eN h1 h2 h3
 rcases gy (m = [1]) with ⟨k1,x1⟩|⟨k1,x1⟩
 · rw [aA (show bJ g m from Or.inl x1.out)]
   go_enter Try.func48,Try.ntmps48
   go_wp2_with fail
   generalize hqw1 : (w.alloc (.cells #[.slice s1 n1 c1,.slice s2 n2 c2,.slice s3 n3 c3] 33)).alloc (.cells #[.int .i64 1] 2) = w1
   have hbw : Below w.heap.size w w1:=by rw [← hqw1];exact (by repeat' (first|(with_reducible exact Below.refl _ _)|(with_reducible apply Below.alloc)|(with_reducible apply Below.drew)|(with_reducible apply ah)|omega|(simp only [World.size_alloc,World.size_setCell,World.size_drew];omega)))
   have hew1:=Lib.hid (show w1.heap.size = w.heap.size + 1 + 1 by rw [← hqw1];simp)
   have hsw : w.heap.size + 2 ≤ w1.heap.size:=by rw [← hqw1];simp only [World.size_alloc];omega
   have hswa : w.heap.size < w1.heap.size:=by omega
   have hswb : w.heap.size + 1 < w1.heap.size:=by omega
   have HQw1_0 : Blk w1 (w.heap.size) [.slice s1 n1 c1,.slice s2 n2 c2,.slice s3 n3 c3] 33:=by rw [← hqw1];have hnew:=bK w [.slice s1 n1 c1,.slice s2 n2 c2,.slice s3 n3 c3] 33;(try simp only [World.size_alloc] at hnew);exact (Blk.alloc hnew _)
   have b0_0 : w1.cell? ⟨w.heap.size,0,none⟩ = some (.slice s1 n1 c1):=HQw1_0.cell 0 rfl
   have b0_1 : w1.cell? ⟨w.heap.size,1,none⟩ = some (.slice s2 n2 c2):=HQw1_0.cell 1 rfl
   have b0_2 : w1.cell? ⟨w.heap.size,2,none⟩ = some (.slice s3 n3 c3):=HQw1_0.cell 2 rfl
   clear HQw1_0
   have HQw1_1 : Blk w1 (w.heap.size + 1) [.int .i64 1] 2:=by rw [← hqw1];have hnew:=bK (w.alloc (.cells #[.slice s1 n1 c1,.slice s2 n2 c2,.slice s3 n3 c3] 33)) [.int .i64 1] 2;(try simp only [World.size_alloc] at hnew);exact hnew
   have b1_0 : w1.cell? ⟨w.heap.size + 1,0,none⟩ = some (.int .i64 1):=HQw1_1.cell 0 rfl
   have HRw1:=Lib.hid HQw1_1
   clear HQw1_1
   clear hqw1
   clear HRw1
   refine (iD _ _ _ _ _ _ _ _ _ (h4.below hbw) (jZ b1_0)).mono ?_
   rw [k1.out]
   rintro e w2 ⟨rfl,q,rfl⟩
   go_wp2_with fail
   go_ret
   exact ⟨rfl,ah hbw q⟩
 · go_enter Try.func48,Try.ntmps48
   go_wp2_with fail
   generalize hqw1 : (w.alloc (.cells #[.slice s1 n1 c1,.slice s2 n2 c2,.slice s3 n3 c3] 33)).alloc (.cells #[.int .i64 1] 2) = w1
   have hbw : Below w.heap.size w w1:=by rw [← hqw1];exact (by repeat' (first|(with_reducible exact Below.refl _ _)|(with_reducible apply Below.alloc)|(with_reducible apply Below.drew)|(with_reducible apply ah)|omega|(simp only [World.size_alloc,World.size_setCell,World.size_drew];omega)))
   have hew1:=Lib.hid (show w1.heap.size = w.heap.size + 1 + 1 by rw [← hqw1];simp)
   have hsw : w.heap.size + 2 ≤ w1.heap.size:=by rw [← hqw1];simp only [World.size_alloc];omega
   have hswa : w.heap.size < w1.heap.size:=by omega
   have hswb : w.heap.size + 1 < w1.heap.size:=by omega
   have HQw1_0 : Blk w1 (w.heap.size) [.slice s1 n1 c1,.slice s2 n2 c2,.slice s3 n3 c3] 33:=by rw [← hqw1];have hnew:=bK w [.slice s1 n1 c1,.slice s2 n2 c2,.slice s3 n3 c3] 33;(try simp only [World.size_alloc] at hnew);exact (Blk.alloc hnew _)
   have b0_0 : w1.cell? ⟨w.heap.size,0,none⟩ = some (.slice s1 n1 c1):=HQw1_0.cell 0 rfl
   have b0_1 : w1.cell? ⟨w.heap.size,1,none⟩ = some (.slice s2 n2 c2):=HQw1_0.cell 1 rfl
   have b0_2 : w1.cell? ⟨w.heap.size,2,none⟩ = some (.slice s3 n3 c3):=HQw1_0.cell 2 rfl
   clear HQw1_0
   have HQw1_1 : Blk w1 (w.heap.size + 1) [.int .i64 1] 2:=by rw [← hqw1];have hnew:=bK (w.alloc (.cells #[.slice s1 n1 c1,.slice s2 n2 c2,.slice s3 n3 c3] 33)) [.int .i64 1] 2;(try simp only [World.size_alloc] at hnew);exact hnew
   have b1_0 : w1.cell? ⟨w.heap.size + 1,0,none⟩ = some (.int .i64 1):=HQw1_1.cell 0 rfl
   have HRw1:=Lib.hid HQw1_1
   clear HQw1_1
   clear hqw1
   clear HRw1
   refine (iD _ _ _ _ _ _ _ _ _ (h4.below hbw) (jZ b1_0)).mono ?_
   rw [k1.out]
   rintro e w2 ⟨rfl,q,rfl⟩
   have hbq : Below w1.heap.size w1 (w1.drewN q):=ci _ _
   generalize w1.drewN q = w2 at *
   replace b0_0:=aj b0_0 hbq
   replace b0_1:=aj b0_1 hbq
   replace b0_2:=aj b0_2 hbq
   replace hbw:=hbw.trans (hbq.mono hbw.size)
   go_wp2_with fail
   refine (jY _ _ _ (hP0.below hbw) G.out).mono ?_
   rw [HN.out]
   rintro e w3 ⟨s5,n5,c5,rfl,ho5,hb5⟩
   have hl5:=ho5.len
   rw [bO] at hl5
   subst hl5
   have hI5:=ho5.is.ints
   replace hbw:=hbw.trans (hb5.mono hbw.size)
   clear b0_0 b0_1 b0_2 b1_0 ho5 hb5 hbq
   have h4':=h4.below hbw
   by_cases hn : n = N + 1
   · subst hn
     obtain ⟨b,o,rfl,hbl,hc⟩:=h4'.get (k:=0) (by omega)
     have q0:=hc 0 (by omega)
     rw [Nat.add_zero] at q0
     have e2 : ((N + 1 != N + 1) = false):=by simp
     rcases cY (gi m 0) 0 with ⟨d1,d2,x2⟩|⟨d1,d2,x2⟩
     · by_cases hc1 : c4 = 1
       · have hN0 : N = 0:=by omega
         subst hN0 hc1
         clear hc
         go_wp2_with fail
         refine wp_loop_once ?_
         go_wp2_with fail
         go_ret
         exact ⟨au (aA (show bJ g m from Or.inr ⟨by rw [H4.out,HN.out],x2.out,fun i hi=>by rw [HN.out] at hi;omega⟩)).symm,hbw⟩
       · have hc2 : 1 < c4:=by omega
         have hcx : ∀ k,k < N → w3.cell? ⟨b,o + 1 + k,none⟩ = some (.int .i64 (gi m (k + 1))):=fun k hk=>by
          have:=hc (k + 1) (by omega)
          rwa [show o + (k + 1) = o + 1 + k by omega] at this
         have HCX:=Lib.hid hcx
         clear hc hcx
         go_wp2_with fail
         go_loop [28] (fun i=>∃ k : Nat,k ≤ N ∧ i = .int .i64 k ∧ ∀ j,j < k → 0 ≤ gi m (j + 1) ∧ gi m (j + 1) ≤ di g (gi (ax g) j)) (fun i=>N - (intOf i).toNat)
         case atStart=>exact ⟨0,by omega,rfl,fun j hj=>by omega⟩
         case round =>
          obtain ⟨k,hk,rfl,hS⟩:=hrel
          have HS:=Lib.hid hS
          clear hS
          by_cases hlt : k < N
          · have q1:=HCX.out k hlt
            obtain ⟨b5,o5,rfl,hbl5,hc5⟩:=hI5.get hlt
            have q5:=hc5 k hlt
            rw [cz _ hlt] at q5
            clear hc5
            rcases iv (gi m (k + 1) < 0) with ⟨d3,x3⟩|⟨d3,x3⟩
            · go_wp2_with fail
              go_ret
              exact ⟨au (am (fun h=>by
               rcases h with h|h
               · exact x1.out h
               · have:=(h.2.2 k (by rw [HN.out];exact hlt)).1;omega)).symm,hbw⟩
            · rcases iv (di g (gi (ax g) k) < gi m (k + 1)) with ⟨d4,x4⟩|⟨d4,x4⟩
              · go_wp2_with fail
                go_ret
                exact ⟨au (am (fun h=>by
                 rcases h with h|h
                 · exact x1.out h
                 · have:=(h.2.2 k (by rw [HN.out];exact hlt)).2;omega)).symm,hbw⟩
              · go_wp2_with fail
                go_round
                case rel=>exact ⟨k + 1,by omega,by go_num,fun j hj=>by
                 by_cases e : j = k
                 · rw [e];omega
                 · exact HS.out j (by omega)⟩
                case measure=>simp [intOf];omega
          · go_wp2_with fail
            go_ret
            exact ⟨au (aA (show bJ g m from Or.inr ⟨by rw [H4.out,HN.out],x2.out,fun i hi=>HS.out i (by rw [HN.out] at hi;omega)⟩)).symm,hbw⟩
     · clear hc
       go_wp2_with fail
       go_ret
       exact ⟨au (am (show ¬ bJ g m from fun h=>by
        rcases h with h|h
        · exact x1.out h
        · exact x2.out h.2.1)).symm,hbw⟩
   · have e1 : (n != N + 1) = true:=by simp [hn]
     have e2 : ((n : Int) != (N : Int) + 1) = true:=by simp;omega
     go_wp2_with fail
     go_ret
     exact ⟨au (am (show ¬ bJ g m from fun h=>by
      rcases h with h|h
      · exact x1.out h
      · have:=h.1;rw [H4.out,HN.out] at this;exact hn this)).symm,hbw⟩
set_option maxRecDepth 100000 in
set_option maxHeartbeats 2000000 in
theorem qf (v uo u : Value) (g : Pa) (m : List Int) (w : World) (hP : IsP w v g) (ho : IsI w uo (ax g)) (hm : IsI w u m) : Calls Try.prog 42 #[v,uo,u] w (Bb w (tf (bJ g m))):=by
 have hP0:=hP
 obtain ⟨_,_,_,rfl,⟨s1,n1,c1,rfl,h1⟩,⟨s2,n2,c2,rfl,h2⟩,⟨s3,n3,c3,rfl,h3⟩⟩:=hP
 obtain ⟨s5,N,c5,rfl,h5⟩:=ho
 obtain ⟨s4,n,c4,rfl,h4⟩:=hm
 have hm4:=h4.max
 have hN : N ≤ 41:=by rw [← h5.1];exact cO g
 have H4:=Lib.hid h4.1
 have HN:=Lib.hid h5.1
 clear h1 h2 h3
 by_cases hn0 : n = 0
 · subst hn0
   rw [am (show ¬ bJ g m from fun h=>by
    rcases h with h|h
    · have:=H4.out;rw [h] at this;simp at this
    · have:=h.1;rw [H4.out] at this;omega)]
   have e1 : ((0 : Int) != (N : Int) + 1) = true:=by simp;omega
   go_enter Try.func42,Try.ntmps42
   go_wp2_with fail
   go_ret
   exact ⟨rfl,(by repeat' (first|(with_reducible exact Below.refl _ _)|(with_reducible apply Below.alloc)|(with_reducible apply Below.drew)|(with_reducible apply ah)|omega|(simp only [World.size_alloc,World.size_setCell,World.size_drew];omega)))⟩
 · obtain ⟨b,o,rfl,hbl,hc⟩:=h4.get (k:=0) (by omega)
   have q0:=hc 0 (by omega)
   rw [Nat.add_zero] at q0
   have hn1 : 0 < n:=by omega
   clear hn0
   rcases cY (gi m 0) 1 with ⟨d1,d1',x1⟩|⟨d1,d1',x1⟩
   all_goals rcases cY (n : Int) 1 with ⟨d2,d2',x2⟩|⟨d2,d2',x2⟩
   all_goals rcases cY (gi m 0) 0 with ⟨d3,d3',x3⟩|⟨d3,d3',x3⟩
   all_goals rcases cY (n : Int) ((N : Int) + 1) with ⟨d4,d4',x4⟩|⟨d4,d4',x4⟩
   all_goals first|(exfalso;have:=x1.out;have:=x2.out;have:=x3.out;have:=x4.out;omega)|skip
   all_goals
    go_enter Try.func42,Try.ntmps42
    go_wp2_with fail
   all_goals first
    | (go_ret
       refine ⟨au (Eq.symm ?_),(by repeat' (first|(with_reducible exact Below.refl _ _)|(with_reducible apply Below.alloc)|(with_reducible apply Below.drew)|(with_reducible apply ah)|omega|(simp only [World.size_alloc,World.size_setCell,World.size_drew];omega)))⟩
       first
       | (refine aA (Or.inl (ji.2 ⟨?_, x1.out⟩)); have := H4.out; have := x2.out; omega)
       | (refine am (fun h => ?_)
          rcases h with h|h
          · obtain ⟨h1,h2⟩:=ji.1 h
            have:=H4.out;have:=x1.out;have:=x2.out;omega
          · have:=H4.out;have:=HN.out;have:=h.1;have:=h.2.1;have:=x3.out;have:=x4.out;omega))
    | skip
   all_goals
    generalize hqw1 : w.alloc (.cells #[.slice s1 n1 c1,.slice s2 n2 c2,.slice s3 n3 c3] 33) = w1
    have hbw : Below w.heap.size w w1:=by rw [← hqw1];exact (by repeat' (first|(with_reducible exact Below.refl _ _)|(with_reducible apply Below.alloc)|(with_reducible apply Below.drew)|(with_reducible apply ah)|omega|(simp only [World.size_alloc,World.size_setCell,World.size_drew];omega)))
    have hew1:=Lib.hid (show w1.heap.size = w.heap.size + 1 by rw [← hqw1];simp)
    have hsw : w.heap.size + 1 ≤ w1.heap.size:=by rw [← hqw1];simp only [World.size_alloc];omega
    have hswa : w.heap.size < w1.heap.size:=by omega
    have HQw1_0 : Blk w1 (w.heap.size) [.slice s1 n1 c1,.slice s2 n2 c2,.slice s3 n3 c3] 33:=by rw [← hqw1];have hnew:=bK w [.slice s1 n1 c1,.slice s2 n2 c2,.slice s3 n3 c3] 33;(try simp only [World.size_alloc] at hnew);exact hnew
    have b0_0 : w1.cell? ⟨w.heap.size,0,none⟩ = some (.slice s1 n1 c1):=HQw1_0.cell 0 rfl
    have b0_1 : w1.cell? ⟨w.heap.size,1,none⟩ = some (.slice s2 n2 c2):=HQw1_0.cell 1 rfl
    have b0_2 : w1.cell? ⟨w.heap.size,2,none⟩ = some (.slice s3 n3 c3):=HQw1_0.cell 2 rfl
    have HRw1:=Lib.hid HQw1_0
    clear HQw1_0
    clear hqw1
    clear HRw1
    have hnm : ¬ m = [1]:=fun h=>by
     obtain ⟨h1,h2⟩:=ji.1 h
     have:=H4.out;have:=x1.out;have:=x2.out;omega
    have hnN : n = N + 1:=by have:=x4.out;omega
    have HNM:=Lib.hid hnm
    have HC:=Lib.hid hc
    have HnN:=Lib.hid hnN
    have hnle : N + 1 ≤ n:=by omega
    clear hnm hc hnN
    go_loopw [7] (fun i wr=>∃ k : Nat,k ≤ N ∧ i = .int .i64 k ∧ (∀ j,j < k → 0 ≤ gi m (j + 1) ∧ gi m (j + 1) ≤ di g (gi (ax g) j)) ∧ Below w1.heap.size w1 wr) (fun i _=>N - (intOf i).toNat)
    case atStart=>exact ⟨0,by omega,rfl,fun j hj=>by omega,Below.refl _ _⟩
    case round =>
     obtain ⟨k,hk,rfl,hS,hb⟩:=hrel
     have HS:=Lib.hid hS
     clear hS
     have hBwr : Below w1.heap.size w1 (wr):=(by repeat' (first|(with_reducible exact Below.refl _ _)|(with_reducible assumption)|(with_reducible apply al)|(with_reducible apply Below.alloc)|(with_reducible apply Below.drew)|(with_reducible apply ah)|(with_reducible refine Below.trans ?_ (Below.mono (by assumption) ?_))|omega|(simp only [World.size_alloc,World.size_setCell,World.size_drew];omega)))
     replace b0_0:=aj b0_0 hBwr
     replace b0_1:=aj b0_1 hBwr
     replace b0_2:=aj b0_2 hBwr
     replace hbw : Below w.heap.size w (wr):=hbw.trans (hBwr.mono hbw.size)
     clear hBwr
     by_cases hlt : k < N
     · have hb1 : Below w.heap.size w wr:=hbw
       have q1 : wr.cell? ⟨b,o + (k + 1),none⟩ = some (.int .i64 (gi m (k + 1))):=aj (HC.out (k + 1) (by omega)) hbw
       obtain ⟨b5,o5,rfl,hbl5,hc5⟩:=(h5.below hbw).get hlt
       have q5:=hc5 k hlt
       clear hc5
       have hwr : IntKind.i64.wrap ((k : Int) + 1) = (k : Int) + 1:=IntWalk.i64_in _ ⟨by omega,by omega⟩
       have htn : ((k : Int) + 1).toNat = k + 1:=by omega
       have i0 : (0 : Int) ≤ (k : Int) + 1:=by omega
       have i1 : (k : Int) + 1 < (n : Int):=by omega
       have i2 : (0 : Int) ≤ (k : Int):=by omega
       have i3 : (k : Int) < (N : Int):=by omega
       rcases gy (0 ≤ gi m (k + 1) ∧ gi m (k + 1) ≤ di g (gi (ax g) k)) with ⟨k2,y2⟩|⟨k2,y2⟩
       all_goals
        go_wp2_with fail
        have gb0_0:=dF b0_0
        have gb0_1:=dF b0_1
        have gb0_2:=dF b0_2
        have gq1:=dF q1
        have gq5:=dF q5
        refine gx (by kernel_rfl) (by kernel_rfl) ?_
        repeat ((with_reducible refine wpQuiet_step (fun K hK=>?_));go_simp;first|(refine hK _ ?_;clear hK K)|(apply Exists.intro;refine ⟨fun w' hw'=>?_,hK _ ?_⟩;((have hx:=hbw.trans (Below.mono hw' hbw.size));(try go_simp);first|(go_at_call 57;exact md (v:=.int .i64 (di g (gi (ax g) k))) hw' (np _ _ _ _ (hP0.below hx)) (fun e w'' h=>⟨h.1,h.2⟩))|(go_at_call 21;exact jS hw' (gE _ _ _ _) k2)|rfl|exact ⟨rfl,rfl⟩);clear hK K))
        refine wpQuiet_nil ?_
        intro w5 hww5
        have hbw5 : Below wr.heap.size wr w5:=hww5
        clear gb0_0 gb0_1 gb0_2 gq1 gq5
        replace b0_0:=aj b0_0 hbw5
        replace b0_1:=aj b0_1 hbw5
        replace b0_2:=aj b0_2 hbw5
        replace q1:=aj q1 hbw5
        replace q5:=aj q5 hbw5
        replace hbw : Below w.heap.size w w5:=hbw.trans (hbw5.mono hbw.size)
        clear hww5
        clear hwr htn
        go_wp2_with fail
        first
        | (go_ret
           exact ⟨au (am (fun h=>by
            rcases h with h|h
            · exact HNM.out h
            · exact y2.out (h.2.2 k (by rw [HN.out];exact hlt)))).symm,hbw⟩)
        | (go_roundw
           case rel=>exact ⟨k + 1,by omega,by go_num,fun j hj=>by
            by_cases e : j = k
            · rw [e];exact y2.out
            · exact HS.out j (by omega),hb.trans (hbw5.mono hb.size)⟩
           case measure=>simp [intOf];omega)
     · go_wp2_with fail
       go_ret
       exact ⟨au (aA (show bJ g m from Or.inr ⟨by rw [H4.out,HN.out];exact HnN.out,x3.out,fun i hi=>HS.out i (by rw [HN.out] at hi;omega)⟩)).symm,hbw⟩
end Go.Proofs.Ytceonklhlpkfgaa
