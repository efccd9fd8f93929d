/-
  The odds of a game: the program's.
-/
import Derived.Test.YtfaefmabjjndeaaZmShelf2
import Derived.Test.YtfaefmabjjndeaaZmCb
import Derived.Test.YtfaefmabjjndeaaZmSd
namespace Go.Proofs.Ytfaefmabjjndeaa
set_option linter.unusedVariables false
set_option linter.unusedSimpArgs false
open Go.RowKit
attribute [local go_sem ↓] Go.wp_at_zero Go.wp_at_succ
theorem oh {p : Int → Prop} {xs : List Int} {x : Int} : ∀ k,k ≤ xs.length → (x ∈ gn p xs k ↔ ∃ j,j < k ∧ gi xs j = x ∧ p x):=by
 intro k
 induction k with
 | zero => intro _; simp [gn]
 | succ k ih =>
   intro hk
   have ih:=ih (by omega)
   by_cases h : p (gi xs k)
   · rw [fS h,List.mem_append,ih]
     constructor
     · rintro (⟨j,h1,h2⟩|h1)
       · exact ⟨j,by omega,h2⟩
       · simp at h1;exact ⟨k,by omega,h1.symm,by rw [h1];exact h⟩
     · rintro ⟨j,h1,h2,h3⟩
       by_cases e : j = k
       · right;rw [← h2,e];simp
       · left;exact ⟨j,by omega,h2,h3⟩
   · rw [hY h,ih]
     constructor
     · rintro ⟨j,h1,h2⟩;exact ⟨j,by omega,h2⟩
     · rintro ⟨j,h1,h2,h3⟩
       by_cases e : j = k
       · exact absurd (by rw [← e,h2];exact h3) h
       · exact ⟨j,by omega,h2,h3⟩
theorem tt {p : Int → Prop} {xs : List Int} (hx : xs.Pairwise (· < ·)) : ∀ k,k ≤ xs.length → (gn p xs k).Pairwise (· < ·):=by
 intro k
 induction k with
 | zero => intro _; simp [gn]
 | succ k ih =>
   intro hk
   have ih:=ih (by omega)
   by_cases h : p (gi xs k)
   · rw [fS h,List.pairwise_append]
     refine ⟨ih,by simp,fun x hx' y hy=>?_⟩
     simp at hy
     subst hy
     obtain ⟨j,hj,e,_⟩:=(oh k (by omega)).1 hx'
     rw [← e,dZ (by omega),dZ (by omega)]
     exact List.pairwise_iff_getElem.1 hx j k (by omega) (by omega) hj
   · rw [hY h];exact ih
theorem tu {p : Int → Prop} {q : Nat → Prop} {n : Nat} : gn p (lst q n) (lst q n).length = lst (fun v=>p v ∧ q v) n :=
 iM _ _ (tt (j8 q n) _ (Nat.le_refl _)) (j8 _ n) fun x=>by
  rw [oh _ (Nat.le_refl _),fx]
  constructor
  · rintro ⟨j,h1,h2,h3⟩
    obtain ⟨v,h4,h5,rfl⟩:=fx.1 (eH.2 ⟨j,h1,h2⟩)
    exact ⟨v,h4,⟨h3,h5⟩,rfl⟩
  · rintro ⟨v,h1,⟨h2,h3⟩,rfl⟩
    obtain ⟨j,h4,h5⟩:=eH.1 (fx.2 ⟨v,h1,h3,rfl⟩)
    exact ⟨j,h4,h5,h2⟩
noncomputable def prs (g : Pa) (xs : List Int) : List Int:=lst (fun p=>∃ k,k < xs.length ∧ gi g.prio (gi xs k).toNat = (p : Int)) 41
noncomputable def cu (g : Pa) : List Int:=(lst (fun p=>(p : Int) % 2 = 1 ∧ (p : Int) ∈ g.prio) 41).reverse
theorem ip (g : Pa) : (cu g).length ≤ 41:=by unfold cu;rw [List.length_reverse];exact qe _ _
theorem vj (g : Pa) : prs g (tab g.prio.length fun v=>(v : Int)) = lst (fun p=>(p : Int) ∈ g.prio) 41:=by
 refine jo fun p _=>?_
 rw [cy,eH]
 constructor
 · rintro ⟨k,h1,h2⟩;rw [cK _ h1] at h2;exact ⟨k,h1,h2⟩
 · rintro ⟨k,h1,h2⟩;exact ⟨k,h1,by rw [cK _ h1];exact h2⟩
noncomputable def eS (g : Pa) : Nat → List Int
 | 0 => []
 | j + 1 => @ite _ ((39 - 2 * (j : Int)) ∈ g.prio) (Classical.propDecidable _) (eS g j ++ [39 - 2 * (j : Int)]) (eS g j)
theorem kL {g : Pa} {j : Nat} (h : (39 - 2 * (j : Int)) ∈ g.prio) : eS g (j + 1) = eS g j ++ [39 - 2 * (j : Int)]:=if_pos h
theorem l5 {g : Pa} {j : Nat} (h : ¬ (39 - 2 * (j : Int)) ∈ g.prio) : eS g (j + 1) = eS g j:=if_neg h
theorem kM (g : Pa) (x : Int) : ∀ j,x ∈ eS g j ↔ ∃ i,i < j ∧ x = 39 - 2 * (i : Int) ∧ x ∈ g.prio:=by
 intro j
 induction j with
 | zero => simp [eS]
 | succ j ih =>
   by_cases h : (39 - 2 * (j : Int)) ∈ g.prio
   · rw [kL h,List.mem_append,ih]
     constructor
     · rintro (⟨i,h1,h2⟩|h1)
       · exact ⟨i,by omega,h2⟩
       · simp at h1;exact ⟨j,by omega,h1,by rw [h1];exact h⟩
     · rintro ⟨i,h1,h2,h3⟩
       by_cases e : i = j
       · right;rw [h2,e];simp
       · left;exact ⟨i,by omega,h2,h3⟩
   · rw [l5 h,ih]
     constructor
     · rintro ⟨i,h1,h2⟩;exact ⟨i,by omega,h2⟩
     · rintro ⟨i,h1,h2,h3⟩
       by_cases e : i = j
       · exact absurd (by rw [← e,← h2];exact h3) h
       · exact ⟨i,by omega,h2,h3⟩
theorem kN (g : Pa) : ∀ j,(eS g j).Pairwise (fun a b=>b < a):=by
 intro j
 induction j with
 | zero => simp [eS]
 | succ j ih =>
   by_cases h : (39 - 2 * (j : Int)) ∈ g.prio
   · rw [kL h,List.pairwise_append]
     refine ⟨ih,by simp,fun x hx y hy=>?_⟩
     simp at hy
     obtain ⟨i,h1,h2,_⟩:=(kM g x j).1 hx
     omega
   · rw [l5 h];exact ih
theorem pJ (g : Pa) : eS g 20 = cu g:=by
 have h : (eS g 20).reverse = lst (fun p=>(p : Int) % 2 = 1 ∧ (p : Int) ∈ g.prio) 41:=by
  refine iM _ _ (List.pairwise_reverse.2 (kN g 20)) (j8 _ _) fun x=>?_
  rw [List.mem_reverse,kM,fx]
  constructor
  · rintro ⟨i,h1,h2,h3⟩;exact ⟨x.toNat,by omega,⟨by omega,by rw [Int.toNat_of_nonneg (by omega)];exact h3⟩,by omega⟩
  · rintro ⟨v,h1,⟨h2,h3⟩,rfl⟩;exact ⟨(39 - v) / 2,by omega,by omega,h3⟩
 unfold cu
 rw [← h,List.reverse_reverse]
end Go.Proofs.Ytfaefmabjjndeaa
namespace Go.Proofs.Ytfaefmabjjndeaa
set_option linter.unusedVariables false
set_option linter.unusedSimpArgs false
open Go.RowKit
attribute [local go_sem ↓] Go.wp_at_zero Go.wp_at_succ
set_option maxHeartbeats 1000000 in
theorem rI (v u : Value) (g : Pa) (xs : List Int) (w : World) (hP : IsP w v g) (hx : IsI w u xs) (hB : Bnd xs g.prio.length) (hg : PaOk g) (h0 : 0 < xs.length) (hl : xs.length ≤ 1048576) :
  Calls Try.prog 182 #[v,u] w (kt w (prs g xs)):=by
 obtain ⟨_,_,_,rfl,⟨s1,n1,c1,rfl,h1⟩,⟨s2,n2,c2,rfl,h2⟩,⟨s3,n3,c3,rfl,h3⟩⟩:=hP
 obtain ⟨s4,n4,c4,rfl,h4⟩:=hx
 have hm4:=h4.max
 have hm3:=h3.max
 obtain rfl:=h4.1
 have H3:=Lib.hid h3.1
 have HB:=Lib.hid hB
 have G:=Lib.hid hg
 have H0:=Lib.hid h0
 clear hB hg h0
 go_enter Try.func182,Try.ntmps182
 go_wp2
 generalize hqw1 : w.alloc (.cells #[.slice s1 n1 c1,.slice s2 n2 c2,.slice s3 n3 c3] 32) = w1
 have hbw : Below w.heap.size w w1:=by rw [← hqw1];exact (by repeat' (first|(with_reducible exact Below.refl _ _)|(with_reducible apply Below.alloc)|(with_reducible apply Below.drew)|(with_reducible apply aO)|omega|(simp only [World.size_alloc,World.size_setCell,World.size_drew];omega)))
 have hew1:=Lib.hid (show w1.heap.size = w.heap.size + 1 by rw [← hqw1];simp)
 have hsw : w.heap.size + 1 ≤ w1.heap.size:=by rw [← hqw1];simp only [World.size_alloc];omega
 have hswa : w.heap.size < w1.heap.size:=by omega
 have HQw1_0 : Blk w1 (w.heap.size) [.slice s1 n1 c1,.slice s2 n2 c2,.slice s3 n3 c3] 32:=by rw [← hqw1];have hnew:=gm w [.slice s1 n1 c1,.slice s2 n2 c2,.slice s3 n3 c3] 32;(try simp only [World.size_alloc] at hnew);exact hnew
 have b0_0 : w1.cell? ⟨w.heap.size,0,none⟩ = some (.slice s1 n1 c1):=HQw1_0.cell 0 rfl
 have b0_1 : w1.cell? ⟨w.heap.size,1,none⟩ = some (.slice s2 n2 c2):=HQw1_0.cell 1 rfl
 have b0_2 : w1.cell? ⟨w.heap.size,2,none⟩ = some (.slice s3 n3 c3):=HQw1_0.cell 2 rfl
 have HRw1:=Lib.hid HQw1_0
 clear HQw1_0
 clear hqw1
 go_loopw [5,11] (fun v i wr=>∃ (k c : Nat) (sa : Option Addr),k ≤ xs.length ∧ i = .int .i64 k ∧ v = .slice sa k c ∧ b9 w1.heap.size wr.heap.size wr (.slice sa k c) (tab k fun j=>gi g.prio (gi xs j).toNat) ∧ Below w1.heap.size w1 wr) (fun _ i _=>xs.length - (intOf i).toNat)
 case atStart=>exact ⟨0,0,_,by omega,rfl,rfl,by rw [← hew1.out];exact iR _ _ 0 (Nat.le_refl _),ca _ _⟩
 case round =>
  obtain ⟨k,c,sa,hk,rfl,rfl,ho,hb⟩:=hrel
  have hBwr : Below w1.heap.size w1 (wr):=(by repeat' (first|(with_reducible exact Below.refl _ _)|(with_reducible assumption)|(with_reducible apply bD)|(with_reducible apply Below.alloc)|(with_reducible apply Below.drew)|(with_reducible apply aO)|(with_reducible refine Below.trans ?_ (Below.mono (by assumption) ?_))|omega|(simp only [World.size_alloc,World.size_setCell,World.size_drew];omega)))
  replace b0_2:=cN b0_2 hBwr
  replace hbw : Below w.heap.size w (wr):=hbw.trans (hBwr.mono hbw.size)
  clear hBwr
  by_cases hlt : k < xs.length
  · obtain ⟨b,o,rfl,hbl,hc⟩:=(h4.below hbw).get hlt
    have hck:=hc k hlt
    clear hc
    obtain ⟨hb0,hb1⟩:=HB.out k hlt
    have hb2 : (gi xs k).toNat < n3:=by have:=H3.out;omega
    obtain ⟨b3,o3,rfl,hbl3,hc3⟩:=(h3.below hbw).get hb2
    have hck3:=hc3 _ hb2
    have hb1' : gi xs k < n3:=by have:=H3.out;omega
    clear hc3 hb1
    go_wp2_with (at_builtin;refine jW rfl _ _ rfl rfl (b9.alloc ho _) (gi g.prio (gi xs k).toNat) _ _ rfl (by simp) (by simp;omega) (by have:=hb.size;simp;omega) ?_;intro sa' c' w2 ho2 hO2)
    go_roundw
    case rel =>
     rw [cy] at *
     exact ⟨k + 1,c',sa',by omega,by go_num,rfl,by rwa [← fe (f:=fun j=>gi g.prio (gi xs j).toNat)] at ho2,mr hb hO2⟩
    case measure=>simp [intOf];omega
  · have e : k = xs.length:=by omega
    subst e
    have hsz:=hb.size
    go_wp2_with fail
    refine (tp ho (by omega)).mono ?_
    rintro e w2 ⟨rfl,ho2,hg2⟩
    have hO2:=d5 ho hg2
    have hz2:=hO2.size
    go_wp2_with fail
    refine (oe ho2 (by omega) H0.out).mono ?_
    rintro e w3 ⟨k3,rfl,ho3,hg3⟩
    have hO3:=d5 ho2 hg3
    have hz3:=hO3.size
    go_wp2_with fail
    go_ret
    refine ⟨_,_,_,rfl,?_,((hbw.trans (hO2.below (by omega))).trans (hO3.below (by omega)))⟩
    have e4 : l4 (srt (tab xs.length fun j=>gi g.prio (gi xs j).toNat)) = prs g xs:=by
     rw [rH (n:=41) (fun x hx=>?_)]
     · refine jo fun p _=>?_
       rw [eH,cy]
       constructor
       · rintro ⟨j,h1,h2⟩;rw [cK _ h1] at h2;exact ⟨j,h1,h2⟩
       · rintro ⟨j,h1,h2⟩;exact ⟨j,h1,by rw [cK _ h1];exact h2⟩
     · obtain ⟨j,h1,h2⟩:=dm hx
       rw [cy] at h1
       rw [cK _ h1] at h2
       have h3':=HB.out j h1
       have:=G.out.prio (gi xs j).toNat (by omega)
       omega
    rw [← e4]
    exact ho3.top.mono (by omega) (Nat.le_refl _)
set_option maxRecDepth 100000 in
set_option maxHeartbeats 2000000 in
theorem tv (v : Value) (g : Pa) (w : World) (hP : IsP w v g) (hg : PaOk g) : Calls Try.prog 166 #[v] w (kt w (cu g)):=by
 have hP0:=hP
 obtain ⟨_,_,_,rfl,⟨s1,n1,c1,rfl,h1⟩,⟨s2,n2,c2,rfl,h2⟩,⟨s3,n3,c3,rfl,h3⟩⟩:=hP
 have hA : IsA w (.agg #[.slice s1 n1 c1,.slice s2 n2 c2]) g.ar:=⟨_,_,rfl,h1.is,h2.is⟩
 have HN:=Lib.hid hg.ar.le
 have HL:=Lib.hid hg.len
 have HP:=Lib.hid hg.ar.pos
 have G:=Lib.hid hg
 have hBt : Bnd (tab g.ar.own.length fun v=>(v : Int)) g.prio.length:=fun k hk=>by rw [cy] at hk;rw [cK _ hk];have:=hg.len;omega
 have BN:=Lib.hid hBt
 clear hg hBt h1 h2 h3
 go_enter Try.func166,Try.ntmps166
 go_wp2
 generalize hqw1 : w.alloc (.cells #[.slice s1 n1 c1,.slice s2 n2 c2,.slice s3 n3 c3] 32) = w1
 have hbw : Below w.heap.size w w1:=by rw [← hqw1];exact (by repeat' (first|(with_reducible exact Below.refl _ _)|(with_reducible apply Below.alloc)|(with_reducible apply Below.drew)|(with_reducible apply aO)|omega|(simp only [World.size_alloc,World.size_setCell,World.size_drew];omega)))
 have hew1:=Lib.hid (show w1.heap.size = w.heap.size + 1 by rw [← hqw1];simp)
 have hsw : w.heap.size + 1 ≤ w1.heap.size:=by rw [← hqw1];simp only [World.size_alloc];omega
 have hswa : w.heap.size < w1.heap.size:=by omega
 have HQw1_0 : Blk w1 (w.heap.size) [.slice s1 n1 c1,.slice s2 n2 c2,.slice s3 n3 c3] 32:=by rw [← hqw1];have hnew:=gm w [.slice s1 n1 c1,.slice s2 n2 c2,.slice s3 n3 c3] 32;(try simp only [World.size_alloc] at hnew);exact hnew
 have b0_0 : w1.cell? ⟨w.heap.size,0,none⟩ = some (.slice s1 n1 c1):=HQw1_0.cell 0 rfl
 have b0_1 : w1.cell? ⟨w.heap.size,1,none⟩ = some (.slice s2 n2 c2):=HQw1_0.cell 1 rfl
 have b0_2 : w1.cell? ⟨w.heap.size,2,none⟩ = some (.slice s3 n3 c3):=HQw1_0.cell 2 rfl
 have HRw1:=Lib.hid HQw1_0
 clear HQw1_0
 clear hqw1
 have hes : b9 w1.heap.size (w1.alloc (.cells #[] 2)).heap.size (w1.alloc (.cells #[] 2)) (.slice (some ⟨w.heap.size + 1,0,none⟩) 0 0) []:=by rw [← hew1.out];exact iR _ _ 0 (Nat.le_refl _)
 generalize hq2 : w1.alloc (.cells #[] 2) = w2 at *
 have hb12 : Below w1.heap.size w1 w2:=by rw [← hq2];exact ca _ _
 have hz12 : w1.heap.size < w2.heap.size:=by rw [← hq2];simp
 clear hq2
 replace b0_0:=cN b0_0 hb12
 replace b0_1:=cN b0_1 hb12
 replace b0_2:=cN b0_2 hb12
 replace hbw:=hbw.trans (hb12.mono hbw.size)
 go_region_held3 (fun w'=>w'.cell? ⟨w.heap.size,0,none⟩ = some (.slice s1 n1 c1) ∧ w'.cell? ⟨w.heap.size,1,none⟩ = some (.slice s2 n2 c2) ∧ w'.cell? ⟨w.heap.size,2,none⟩ = some (.slice s3 n3 c3)) (first|exact ⟨b0_0,b0_1,b0_2⟩|go_keep)
  (first
   | (go_at_call 114; refine (qg _ _ _ ((hA.below hbw).drew) HN.out).mono ?_; rintro e w4 ⟨s6, n6, c6, rfl, ho6, hbw4⟩; replace hbw4 := kr hbw4; replace b0_0 := cN b0_0 hbw4; replace b0_1 := cN b0_1 hbw4; replace b0_2 := cN b0_2 hbw4; replace hes := hes.below hbw4; replace hbw : Below w.heap.size w w4 := hbw.trans (hbw4.mono hbw.size); have hz4 := hbw4.size)
   | (go_at_call 182; refine (rI _ _ _ _ _ (hP0.below hbw) ho6.is BN.out G.out (by rw [cy]; exact HP.out) (by rw [cy]; have := HN.out; omega)).mono ?_; rintro e w5 ⟨s7, n7, c7, rfl, ho7, hbw5⟩; replace b0_0 := cN b0_0 hbw5; replace b0_1 := cN b0_1 hbw5; replace b0_2 := cN b0_2 hbw5; replace hes := hes.below hbw5; replace hbw : Below w.heap.size w w5 := hbw.trans (hbw5.mono hbw.size); have hz5 := hbw5.size))
 go_wp2_with fail
 have hl7:=ho7.len
 have hI7:=ho7.is.ints
 have hl41 : n7 ≤ 41:=by rw [← hl7];exact qe _ _
 have HL7:=Lib.hid hl7
 clear hl7
 have hL7 : (prs g (tab g.ar.own.length fun v=>(v : Int))).length = n7:=HL7.out
 have hnn : ∀ k,k < n7 → 0 ≤ gi (prs g (tab g.ar.own.length fun v=>(v : Int))) k:=fun k hk=>by
  have hm:=dz (xs:=prs g (tab g.ar.own.length fun v=>(v : Int))) (k:=k) (by rw [hL7];exact hk)
  obtain ⟨v,_,_,e⟩:=fx.1 hm
  omega
 have HNN:=Lib.hid hnn
 clear hnn hL7
 obtain ⟨ps,hps⟩ : ∃ ps,ps = prs g (tab g.ar.own.length fun v=>(v : Int)):=⟨_,rfl⟩
 have HPS:=Lib.hid hps
 rw [← hps] at ho7 hI7 HL7 HNN
 clear hps
 go_loopw [3,13] (fun v i wr=>∃ (k n c : Nat) (sa : Option Addr),k ≤ n7 ∧ i = .int .i64 k ∧ v = .slice sa n c ∧ lm ⟨w.heap.size + 1,0,none⟩ w5.heap.size wr.heap.size wr (.slice sa n c) (gn (fun x=>x % 2 = 1) ps k) ∧ Below w5.heap.size w5 wr) (fun _ i _=>n7 - (intOf i).toNat)
 case atStart=>exact ⟨0,0,0,_,by omega,rfl,rfl,Or.inr ⟨rfl,rfl⟩,Below.refl _ _⟩
 case round =>
  obtain ⟨k,n,c,sa,hk,rfl,rfl,ho,hb⟩:=hrel
  have hsz:=hb.size
  have hfl:=nz (fun x=>x % 2 = 1) ps k
  have hol:=ho.len
  by_cases hlt : k < n7
  · obtain ⟨b,o,rfl,hbl,hc⟩:=(hI7.below hb).get hlt
    have hck:=hc k hlt
    clear hc
    have hp0:=HNN.out k hlt
    have HOL:=Lib.hid hol
    clear hol
    rcases ku (gi ps k % 2) 1 with ⟨d1,d2,x1⟩|⟨d1,d2,x1⟩
    · have HS:=Lib.hid (fS (p:=fun x=>x % 2 = 1) (xs:=ps) (k:=k) x1.out)
      rcases ho with ho|⟨he,hx⟩
      · go_wp2_with (at_builtin;refine jW rfl _ _ rfl rfl (b9.alloc ho _) (gi ps k) _ _ rfl (by simp) (by omega) (by simp;omega) ?_;intro sa' c' w6 ho6' hO6)
        go_roundw
        case rel=>exact ⟨k + 1,_,c',sa',by omega,by go_num,rfl,Or.inl (by rw [HS.out];exact ho6'),sx hb hO6 (Nat.le_refl _) hsz⟩
        case measure=>simp [intOf];omega
      · injection he with e1 e2 e3
        subst e1 e2 e3
        have HX:=Lib.hid hx
        clear hx
        go_wp2_with (at_builtin;refine ra rfl _ _ rfl _ rfl (gi ps k) _ _ rfl (by simp) ?_;intro sa' c' w6 ho6' hb6)
        have hz6:=hb6.size
        simp only [World.size_alloc] at hz6 ho6'
        go_roundw
        case rel=>exact ⟨k + 1,_,c',sa',by omega,by go_num,rfl,Or.inl (by rw [HS.out,HX.out];exact ho6'.mono (by omega) (Nat.le_refl _)),(hb.alloc hsz _).trans (hb6.mono (by simp;omega))⟩
        case measure=>simp [intOf];omega
    · have HS:=Lib.hid (hY (p:=fun x=>x % 2 = 1) (xs:=ps) (k:=k) x1.out)
      have HO:=Lib.hid ho
      clear ho
      go_wp2_with fail
      go_roundw
      case rel=>exact ⟨k + 1,_,c,sa,by omega,by go_num,rfl,by rw [HS.out];exact HO.out,hb⟩
      case measure=>simp [intOf];omega
  · have e : k = n7:=by omega
    subst e
    have hfin : b9 w1.heap.size wr.heap.size wr (.slice sa n c) (gn (fun x=>x % 2 = 1) ps k):=by
     rcases ho with ho|⟨he,hx⟩
     · exact ho.mono (by omega) (Nat.le_refl _)
     · rw [he,hx];exact ((hes.below hb).top)
    have hn41 : n ≤ 41:=by omega
    clear ho hol
    go_wp2_with fail
    refine (og hfin (by omega)).mono ?_
    rintro e w6 ⟨rfl,ho6',hg6⟩
    have hO6:=d5 hfin hg6
    have hz6:=hO6.size
    go_wp2_with fail
    go_ret
    refine ⟨_,_,_,rfl,?_,((hbw.trans (hb.mono hbw.size)).trans (hO6.below (by omega)))⟩
    have e4 : (gn (fun x=>x % 2 = 1) ps k).reverse = cu g:=by
     rw [← HL7.out,HPS.out,← HL.out,vj,tu]
     rfl
    rw [← e4]
    exact ho6'.top.mono (by omega) (Nat.le_refl _)
end Go.Proofs.Ytfaefmabjjndeaa
