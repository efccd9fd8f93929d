/-
  MeasureOk: the program's and the reference's.
-/
import Derived.Test.YtceonklhlpkfgaaZmOdds2
import Derived.Test.YtceonklhlpkfgaaZmCb
namespace Go.Proofs.Ytceonklhlpkfgaa
set_option linter.unusedVariables false
set_option linter.unusedSimpArgs false
open Go.RowKit
attribute [local go_sem ↓] Go.wp_at_zero Go.wp_at_succ
def cf (pr : List Int) (p : Int) : Nat → Nat
 | 0 => 0
 | k + 1 => if gi pr k = p then cf pr p k + 1 else cf pr p k
def dD (g : Pa) (p : Int) : Int:=(cf g.prio p g.prio.length : Nat)
theorem iA (pr : List Int) (p : Int) (k : Nat) : cf pr p k ≤ k:=by
 induction k with
 | zero => simp [cf]
 | succ k ih => simp only [cf]; split <;> omega
theorem mg (pr : List Int) (p : Int) (n : Nat) : ∀ k,k ≤ n → (dP (fun x=>gi pr x.toNat = p) (tab n fun v=>(v : Int)) k).length = cf pr p k:=by
 intro k
 induction k with
 | zero => intro _; rfl
 | succ k ih =>
   intro hk
   have ih:=ih (by omega)
   have e : gi (tab n fun v=>(v : Int)) k = (k : Int):=ca _ (by omega)
   by_cases h : gi pr k = p
   · rw [dC (by rw [e,Int.toNat_natCast];exact h)]
     simp only [cf]
     rw [if_pos h,List.length_append,ih];rfl
   · rw [eu (by rw [e,Int.toNat_natCast];exact h)]
     simp only [cf]
     rw [if_neg h,ih]
def cL (g : Pa) (m : List Int) : Prop:=m = [1] ∨ (m.length = (au g).length + 1 ∧ gi m 0 = 0 ∧ ∀ i,i < (au g).length → 0 ≤ gi m (i + 1) ∧ gi m (i + 1) ≤ dD g (gi (au g) i))
set_option maxHeartbeats 400000 in
theorem qk (v : Value) (g : Pa) (p : Int) (w : World) (hP : IsP w v g) : Calls Try.prog 57 #[v,.int .i64 p] w (Bi w (dD g p)):=by
 obtain ⟨_,_,_,rfl,⟨s1,n1,c1,rfl,h1⟩,⟨s2,n2,c2,rfl,h2⟩,⟨s3,n3,c3,rfl,h3⟩⟩:=hP
 have hm3:=h3.max
 obtain rfl:=h3.1
 go_enter Try.func57,Try.ntmps57
 go_wp2
 go_loop [5,6] (fun t i=>∃ k : Nat,k ≤ g.prio.length ∧ i = .int .i64 k ∧ t = .int .i64 (cf g.prio p k : Nat)) (fun _ i=>g.prio.length - (intOf i).toNat)
 case atStart=>exact ⟨0,by omega,rfl,rfl⟩
 case round =>
  obtain ⟨k,hk,rfl,rfl⟩:=hrel
  have hle:=iA g.prio p k
  by_cases hlt : k < g.prio.length
  · obtain ⟨b,o,rfl,hbl,hc⟩:=h3.get hlt
    have hck:=hc k hlt
    clear hc
    rcases gz (gi g.prio k) p with ⟨d1,d2,x1⟩|⟨d1,d2,x1⟩
    · have HS:=Lib.hid (show cf g.prio p (k + 1) = cf g.prio p k + 1 by simp only [cf];rw [if_pos x1.out])
      go_wp2
      go_round
      case rel=>exact ⟨k + 1,by omega,by go_num,by rw [HS.out];congr 1⟩
      case measure=>simp [intOf];omega
    · have HS:=Lib.hid (show cf g.prio p (k + 1) = cf g.prio p k by simp only [cf];rw [if_neg x1.out])
      go_wp2
      go_round
      case rel=>exact ⟨k + 1,by omega,by go_num,by rw [HS.out]⟩
      case measure=>simp [intOf];omega
  · go_wp2
    go_ret
    have e : k = g.prio.length:=by omega
    subst e
    exact ⟨rfl,(by repeat' (first|(with_reducible exact Below.refl _ _)|(with_reducible apply Below.alloc)|(with_reducible apply Below.drew)|(with_reducible apply ah)|omega|(simp only [World.size_alloc,World.size_setCell,World.size_drew];omega)))⟩
set_option maxRecDepth 100000 in
set_option maxHeartbeats 4000000 in
theorem nl (v : Value) (g : Pa) (w : World) (hP : IsP w v g) (hg : PaOk g) : Calls Try.prog 62 #[v] w (d5 w (tab (au g).length fun i=>dD g (gi (au g) i))):=by
 have hP0:=hP
 obtain ⟨_,_,_,rfl,⟨s1,n1,c1,rfl,h1⟩,⟨s2,n2,c2,rfl,h2⟩,⟨s3,n3,c3,rfl,h3⟩⟩:=hP
 have hA : IsA w (.agg #[.slice s1 n1 c1,.slice s2 n2 c2]) g.ar:=⟨_,_,rfl,h1.is,h2.is⟩
 have HN:=Lib.hid hg.ar.le
 have HL:=Lib.hid hg.len
 have G:=Lib.hid hg
 have hBt : Bnd (tab g.ar.own.length fun v=>(v : Int)) g.prio.length:=fun k hk=>by rw [bM] at hk;rw [ca _ hk];have:=hg.len;omega
 have BN:=Lib.hid hBt
 clear hg hBt h1 h2 h3
 go_enter Try.func62,Try.ntmps62
 go_wp2_with fail
 generalize hqw1 : w.alloc (.cells #[.slice s1 n1 c1,.slice s2 n2 c2,.slice s3 n3 c3] 33) = w1
 have hbw : Below w.heap.size w w1:=by rw [← hqw1];exact (by repeat' (first|(with_reducible exact Below.refl _ _)|(with_reducible apply Below.alloc)|(with_reducible apply Below.drew)|(with_reducible apply ah)|omega|(simp only [World.size_alloc,World.size_setCell,World.size_drew];omega)))
 have hew1:=Lib.hid (show w1.heap.size = w.heap.size + 1 by rw [← hqw1];simp)
 have hsw : w.heap.size + 1 ≤ w1.heap.size:=by rw [← hqw1];simp only [World.size_alloc];omega
 have hswa : w.heap.size < w1.heap.size:=by omega
 have HQw1_0 : Blk w1 (w.heap.size) [.slice s1 n1 c1,.slice s2 n2 c2,.slice s3 n3 c3] 33:=by rw [← hqw1];have hnew:=cF w [.slice s1 n1 c1,.slice s2 n2 c2,.slice s3 n3 c3] 33;(try simp only [World.size_alloc] at hnew);exact hnew
 have b0_0 : w1.cell? ⟨w.heap.size,0,none⟩ = some (.slice s1 n1 c1):=HQw1_0.cell 0 rfl
 have b0_1 : w1.cell? ⟨w.heap.size,1,none⟩ = some (.slice s2 n2 c2):=HQw1_0.cell 1 rfl
 have b0_2 : w1.cell? ⟨w.heap.size,2,none⟩ = some (.slice s3 n3 c3):=HQw1_0.cell 2 rfl
 have HRw1:=Lib.hid HQw1_0
 clear HQw1_0
 clear hqw1
 clear HRw1
 have hes : aA w1.heap.size (w1.alloc (.cells #[] 2)).heap.size (w1.alloc (.cells #[] 2)) (.slice (some ⟨w.heap.size + 1,0,none⟩) 0 0) []:=by rw [← hew1.out];exact ew _ _ 0 (Nat.le_refl _)
 generalize hq2 : w1.alloc (.cells #[] 2) = w2 at *
 have hb12 : Below w1.heap.size w1 w2:=by rw [← hq2];exact ao _ _
 have hz12 : w1.heap.size < w2.heap.size:=by rw [← hq2];simp
 clear hq2
 replace b0_0:=al b0_0 hb12
 replace b0_1:=al b0_1 hb12
 replace b0_2:=al b0_2 hb12
 replace hbw:=hbw.trans (hb12.mono hbw.size)
 refine (nk _ _ _ (hP0.below hbw) G.out).mono ?_
 rintro e w5 ⟨s7,n7,c7,rfl,ho7,hb5⟩
 have hz5:=hb5.size
 replace b0_0:=al b0_0 hb5
 replace b0_1:=al b0_1 hb5
 replace b0_2:=al b0_2 hb5
 replace hes:=hes.below hb5
 replace hbw:=hbw.trans (hb5.mono hbw.size)
 have hl7:=ho7.len
 have hI7:=ho7.is.ints
 have hl41 : n7 ≤ 41:=by rw [← hl7];exact cM g
 have HL7:=Lib.hid hl7
 clear hl7
 go_wp2_with fail
 go_loopw [3,10] (fun v i wr=>∃ (k c : Nat) (sa : Option Addr),k ≤ n7 ∧ i = .int .i64 k ∧ v = .slice sa k c ∧ ia ⟨w.heap.size + 1,0,none⟩ w5.heap.size wr.heap.size wr (.slice sa k c) (tab k fun i=>dD g (gi (au g) i)) ∧ Below w5.heap.size w5 wr) (fun _ i _=>n7 - (intOf i).toNat)
 case atStart=>exact ⟨0,0,_,by omega,rfl,rfl,Or.inr ⟨rfl,rfl⟩,Below.refl _ _⟩
 case round =>
  obtain ⟨k,c,sa,hk,rfl,rfl,ho,hb⟩:=hrel
  have hsz:=hb.size
  by_cases hlt : k < n7
  · obtain ⟨b,o,rfl,hbl,hc⟩:=(hI7.below hb).get hlt
    have hck:=hc k hlt
    clear hc
    replace b0_0:=al b0_0 hb
    replace b0_1:=al b0_1 hb
    replace b0_2:=al b0_2 hb
    replace hbw:=hbw.trans (hb.mono hbw.size)
    clear hes
    go_wp2_with fail
    go_region_held3 (fun w'=>w'.cell? ⟨w.heap.size,0,none⟩ = some (.slice s1 n1 c1) ∧ w'.cell? ⟨w.heap.size,1,none⟩ = some (.slice s2 n2 c2) ∧ w'.cell? ⟨w.heap.size,2,none⟩ = some (.slice s3 n3 c3)) (first|exact ⟨b0_0,b0_1,b0_2⟩|go_keep)
     (first
      | (go_at_call 67; refine (lC _ _ _ ((hA.below hbw).drew) HN.out).mono ?_; rintro e w6 ⟨s8, n8, c8, rfl, ho8, hbw6⟩; replace hbw6 := gy hbw6; replace b0_0 := al b0_0 hbw6; replace b0_1 := al b0_1 hbw6; replace b0_2 := al b0_2 hbw6; replace ho := ho.below hbw6; replace hbw : Below w.heap.size w w6 := hbw.trans (hbw6.mono hbw.size); have hz6 := hbw6.size)
      | (go_at_call 70; refine (kE _ _ _ _ _ _ (hP0.below hbw) ho8.is BN.out (by rw [bM]; have := HN.out; omega)).mono ?_; rintro e w7 ⟨s9, n9, c9, rfl, ho9, hbw7⟩; replace b0_0 := al b0_0 hbw7; replace b0_1 := al b0_1 hbw7; replace b0_2 := al b0_2 hbw7; replace ho := ho.below hbw7; replace hbw : Below w.heap.size w w7 := hbw.trans (hbw7.mono hbw.size); have hz7 := hbw7.size; have hn9 := ho9.len)
      | ((refine ib (by rfl) _ _ (by rfl) (by rfl) (ia.below ho (ao _ _)) (n9 : Int) _ _ (by rfl) (by simp) (by simp; omega) (by simp; omega) ?_; intro sa' c' w8 ho10 hO8; have g8_0 := cm (al b0_0 (ao w7 _)) hO8 (by omega); have g8_1 := cm (al b0_1 (ao w7 _)) hO8 (by omega); have g8_2 := cm (al b0_2 (ao w7 _)) hO8 (by omega))))
    go_wp2_with fail
    go_roundw
    case rel =>
     rw [bM] at *
     have e9 : (n9 : Int) = dD g (gi (au g) k):=by
      unfold dD
      rw [← hn9,mg _ _ _ _ (Nat.le_refl _),HL.out]
     rw [e9] at ho10
     refine ⟨k + 1,c',sa',by omega,by go_num,rfl,Or.inl ?_,?_⟩
     · rwa [← gH (f:=fun i=>dD g (gi (au g) i))] at ho10
     · exact ((hb.trans (hbw6.mono hsz)).trans (hbw7.mono (by omega))).trans ((ao w7 _).mono (by omega) |>.trans (hO8.below (by simp;omega)))
    case measure=>simp [intOf];omega
  · have e : k = n7:=by omega
    subst e
    have hfin : aA w1.heap.size wr.heap.size wr (.slice sa k c) (tab k fun i=>dD g (gi (au g) i)):=by
     rcases ho with ho|⟨he,hx⟩
     · exact ho.mono (by omega) (Nat.le_refl _)
     · rw [he,hx];exact ((hes.below hb).top)
    clear ho
    go_wp2_with fail
    go_ret
    exact ⟨_,_,_,rfl,by rw [HL7.out];exact hfin.mono (by omega) (Nat.le_refl _),hbw.trans (hb.mono hbw.size)⟩
end Go.Proofs.Ytceonklhlpkfgaa
namespace Go.Proofs.Ytceonklhlpkfgaa
set_option linter.unusedVariables false
set_option linter.unusedSimpArgs false
open Go.RowKit
attribute [local go_sem ↓] Go.wp_at_zero Go.wp_at_succ
end Go.Proofs.Ytceonklhlpkfgaa
