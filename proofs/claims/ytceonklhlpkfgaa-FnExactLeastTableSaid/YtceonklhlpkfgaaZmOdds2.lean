/-
  The odds of a game: the program's.
-/
import Derived.Test.YtceonklhlpkfgaaZmShelf2
import Derived.Test.YtceonklhlpkfgaaZmCb
import Derived.Test.YtceonklhlpkfgaaZmSd
namespace Go.Proofs.Ytceonklhlpkfgaa
set_option linter.unusedVariables false
set_option linter.unusedSimpArgs false
open Go.RowKit
attribute [local go_sem ↓] Go.wp_at_zero Go.wp_at_succ
theorem jT {p : Int → Prop} {xs : List Int} {x : Int} : ∀ k,k ≤ xs.length → (x ∈ dP p xs k ↔ ∃ j,j < k ∧ gi xs j = x ∧ p x):=by
 intro k
 induction k with
 | zero => intro _; simp [dP]
 | succ k ih =>
   intro hk
   have ih:=ih (by omega)
   by_cases h : p (gi xs k)
   · rw [dC h,List.mem_append,ih]
     constructor
     · rintro (⟨j,h1,h2⟩|h1)
       · exact ⟨j,by omega,h2⟩
       · simp at h1;exact ⟨k,by omega,h1.symm,by rw [h1];exact h⟩
     · rintro ⟨j,h1,h2,h3⟩
       by_cases e : j = k
       · right;rw [← h2,e];simp
       · left;exact ⟨j,by omega,h2,h3⟩
   · rw [eu h,ih]
     constructor
     · rintro ⟨j,h1,h2⟩;exact ⟨j,by omega,h2⟩
     · rintro ⟨j,h1,h2,h3⟩
       by_cases e : j = k
       · exact absurd (by rw [← e,h2];exact h3) h
       · exact ⟨j,by omega,h2,h3⟩
theorem ni {p : Int → Prop} {xs : List Int} (hx : xs.Pairwise (· < ·)) : ∀ k,k ≤ xs.length → (dP p xs k).Pairwise (· < ·):=by
 intro k
 induction k with
 | zero => intro _; simp [dP]
 | succ k ih =>
   intro hk
   have ih:=ih (by omega)
   by_cases h : p (gi xs k)
   · rw [dC h,List.pairwise_append]
     refine ⟨ih,by simp,fun x hx' y hy=>?_⟩
     simp at hy
     subst hy
     obtain ⟨j,hj,e,_⟩:=(jT k (by omega)).1 hx'
     rw [← e,dh (by omega),dh (by omega)]
     exact List.pairwise_iff_getElem.1 hx j k (by omega) (by omega) hj
   · rw [eu h];exact ih
theorem nj {p : Int → Prop} {q : Nat → Prop} {n : Nat} : dP p (lst q n) (lst q n).length = lst (fun v=>p v ∧ q v) n :=
 eX _ _ (ni (gk q n) _ (Nat.le_refl _)) (gk _ n) fun x=>by
  rw [jT _ (Nat.le_refl _),dt]
  constructor
  · rintro ⟨j,h1,h2,h3⟩
    obtain ⟨v,h4,h5,rfl⟩:=dt.1 (cU.2 ⟨j,h1,h2⟩)
    exact ⟨v,h4,⟨h3,h5⟩,rfl⟩
  · rintro ⟨v,h1,⟨h2,h3⟩,rfl⟩
    obtain ⟨j,h4,h5⟩:=cU.1 (dt.2 ⟨v,h1,h3,rfl⟩)
    exact ⟨j,h4,h5,h2⟩
noncomputable def prs (g : Pa) (xs : List Int) : List Int:=lst (fun p=>∃ k,k < xs.length ∧ gi g.prio (gi xs k).toNat = (p : Int)) 41
noncomputable def au (g : Pa) : List Int:=(lst (fun p=>(p : Int) % 2 = 1 ∧ (p : Int) ∈ g.prio) 41).reverse
theorem cM (g : Pa) : (au g).length ≤ 41:=by unfold au;rw [List.length_reverse];exact lB _ _
theorem oW (g : Pa) : prs g (tab g.prio.length fun v=>(v : Int)) = lst (fun p=>(p : Int) ∈ g.prio) 41:=by
 refine fI fun p _=>?_
 rw [bM,cU]
 constructor
 · rintro ⟨k,h1,h2⟩;rw [ca _ h1] at h2;exact ⟨k,h1,h2⟩
 · rintro ⟨k,h1,h2⟩;exact ⟨k,h1,by rw [ca _ h1];exact h2⟩
noncomputable def cn (g : Pa) : Nat → List Int
 | 0 => []
 | j + 1 => @ite _ ((39 - 2 * (j : Int)) ∈ g.prio) (Classical.propDecidable _) (cn g j ++ [39 - 2 * (j : Int)]) (cn g j)
theorem dQ {g : Pa} {j : Nat} (h : (39 - 2 * (j : Int)) ∈ g.prio) : cn g (j + 1) = cn g j ++ [39 - 2 * (j : Int)]:=if_pos h
theorem eB {g : Pa} {j : Nat} (h : ¬ (39 - 2 * (j : Int)) ∈ g.prio) : cn g (j + 1) = cn g j:=if_neg h
theorem kI (g : Pa) (j : Nat) : (cn g j).length ≤ j:=by
 induction j with
 | zero => simp [cn]
 | succ j ih =>
   by_cases h : (39 - 2 * (j : Int)) ∈ g.prio
   · rw [dQ h];simp;omega
   · rw [eB h];omega
theorem gJ (g : Pa) (x : Int) : ∀ j,x ∈ cn g j ↔ ∃ i,i < j ∧ x = 39 - 2 * (i : Int) ∧ x ∈ g.prio:=by
 intro j
 induction j with
 | zero => simp [cn]
 | succ j ih =>
   by_cases h : (39 - 2 * (j : Int)) ∈ g.prio
   · rw [dQ h,List.mem_append,ih]
     constructor
     · rintro (⟨i,h1,h2⟩|h1)
       · exact ⟨i,by omega,h2⟩
       · simp at h1;exact ⟨j,by omega,h1,by rw [h1];exact h⟩
     · rintro ⟨i,h1,h2,h3⟩
       by_cases e : i = j
       · right;rw [h2,e];simp
       · left;exact ⟨i,by omega,h2,h3⟩
   · rw [eB h,ih]
     constructor
     · rintro ⟨i,h1,h2⟩;exact ⟨i,by omega,h2⟩
     · rintro ⟨i,h1,h2,h3⟩
       by_cases e : i = j
       · exact absurd (by rw [← e,← h2];exact h3) h
       · exact ⟨i,by omega,h2,h3⟩
theorem gK (g : Pa) : ∀ j,(cn g j).Pairwise (fun a b=>b < a):=by
 intro j
 induction j with
 | zero => simp [cn]
 | succ j ih =>
   by_cases h : (39 - 2 * (j : Int)) ∈ g.prio
   · rw [dQ h,List.pairwise_append]
     refine ⟨ih,by simp,fun x hx y hy=>?_⟩
     simp at hy
     obtain ⟨i,h1,h2,_⟩:=(gJ g x j).1 hx
     omega
   · rw [eB h];exact ih
theorem gL (g : Pa) : cn g 20 = au g:=by
 have h : (cn g 20).reverse = lst (fun p=>(p : Int) % 2 = 1 ∧ (p : Int) ∈ g.prio) 41:=by
  refine eX _ _ (List.pairwise_reverse.2 (gK g 20)) (gk _ _) fun x=>?_
  rw [List.mem_reverse,gJ,dt]
  constructor
  · rintro ⟨i,h1,h2,h3⟩;exact ⟨x.toNat,by omega,⟨by omega,by rw [Int.toNat_of_nonneg (by omega)];exact h3⟩,by omega⟩
  · rintro ⟨v,h1,⟨h2,h3⟩,rfl⟩;exact ⟨(39 - v) / 2,by omega,by omega,h3⟩
 unfold au
 rw [← h,List.reverse_reverse]
set_option maxHeartbeats 1000000 in
theorem qj (v : Value) (g : Pa) (w : World) (hP : IsP w v g) : Calls Try.prog 23 #[v] w (d5 w (au g)):=by
 obtain ⟨_,_,_,rfl,⟨s1,n1,c1,rfl,h1⟩,⟨s2,n2,c2,rfl,h2⟩,⟨s3,n3,c3,rfl,h3⟩⟩:=hP
 go_enter Try.func23,Try.ntmps23
 go_wp2
 generalize hqw1 : w.alloc (.cells #[.slice s1 n1 c1,.slice s2 n2 c2,.slice s3 n3 c3] 33) = w1
 have hbw : Below w.heap.size w w1:=by rw [← hqw1];exact (by repeat' (first|(with_reducible exact Below.refl _ _)|(with_reducible apply Below.alloc)|(with_reducible apply Below.drew)|(with_reducible apply ah)|omega|(simp only [World.size_alloc,World.size_setCell,World.size_drew];omega)))
 have hew1:=Lib.hid (show w1.heap.size = w.heap.size + 1 by rw [← hqw1];simp)
 have hsw : w.heap.size + 1 ≤ w1.heap.size:=by rw [← hqw1];simp only [World.size_alloc];omega
 have hswa : w.heap.size < w1.heap.size:=by omega
 have HQw1_0 : Blk w1 (w.heap.size) [.slice s1 n1 c1,.slice s2 n2 c2,.slice s3 n3 c3] 33:=by rw [← hqw1];have hnew:=cF w [.slice s1 n1 c1,.slice s2 n2 c2,.slice s3 n3 c3] 33;(try simp only [World.size_alloc] at hnew);exact hnew
 have b0_0 : w1.cell? ⟨w.heap.size,0,none⟩ = some (.slice s1 n1 c1):=HQw1_0.cell 0 rfl
 have b0_1 : w1.cell? ⟨w.heap.size,1,none⟩ = some (.slice s2 n2 c2):=HQw1_0.cell 1 rfl
 have b0_2 : w1.cell? ⟨w.heap.size,2,none⟩ = some (.slice s3 n3 c3):=HQw1_0.cell 2 rfl
 have HRw1:=Lib.hid HQw1_0
 clear HQw1_0
 clear hqw1
 go_loopw [3,4] (fun v i wr=>∃ (j n c : Nat) (sa : Option Addr),j ≤ 20 ∧ i = .int .i64 (39 - 2 * (j : Int)) ∧ v = .slice sa n c ∧ aA w1.heap.size wr.heap.size wr (.slice sa n c) (cn g j) ∧ Below w1.heap.size w1 wr) (fun _ i _=>(intOf i).toNat)
 case atStart=>exact ⟨0,0,0,_,by omega,by simp,rfl,by rw [← hew1.out];exact ew _ _ 0 (Nat.le_refl _),ao _ _⟩
 case round =>
  obtain ⟨j,n,c,sa,hj,rfl,rfl,ho,hb⟩:=hrel
  have hBwr : Below w1.heap.size w1 (wr):=(by repeat' (first|(with_reducible exact Below.refl _ _)|(with_reducible assumption)|(with_reducible apply ak)|(with_reducible apply Below.alloc)|(with_reducible apply Below.drew)|(with_reducible apply ah)|(with_reducible refine Below.trans ?_ (Below.mono (by assumption) ?_))|omega|(simp only [World.size_alloc,World.size_setCell,World.size_drew];omega)))
  replace b0_2:=al b0_2 hBwr
  replace hbw : Below w.heap.size w (wr):=hbw.trans (hBwr.mono hbw.size)
  clear hBwr
  have hol:=ho.len
  have hnl:=kI g j
  by_cases hlt : j < 20
  · have HO:=Lib.hid hol
    clear hol
    generalize hp : 39 - 2 * (j : Int) = p at *
    have HP:=Lib.hid hp
    have p0 : 0 < p:=by omega
    have p1 : p ≤ 39:=by omega
    clear hp
    rcases m9 (p ∈ g.prio) with ⟨k1,x1⟩|⟨k1,x1⟩
    · have HS:=Lib.hid (dQ (g:=g) (j:=j) (by rw [HP.out];exact x1.out))
      go_wp2_with fail
      refine (fX _ _ _ _ _ _ (h3.below hbw)).mono ?_
      rw [k1.out]
      rintro e w2 ⟨rfl,rfl⟩
      go_wp2_with (at_builtin;refine fg rfl _ _ rfl rfl (aA.alloc ho _) p _ _ rfl (by simp) (by omega) (by have:=hb.size;simp;omega) ?_;intro sa' c' w3 ho3 hO3)
      go_roundw
      case rel=>exact ⟨j + 1,_,c',sa',by omega,by congr 1;have:=HP.out;omega,rfl,by rw [HS.out,HP.out];exact ho3,gj hb hO3⟩
      case measure=>simp [intOf];omega
    · have HS:=Lib.hid (eB (g:=g) (j:=j) (by rw [HP.out];exact x1.out))
      go_wp2_with fail
      refine (fX _ _ _ _ _ _ (h3.below hbw)).mono ?_
      rw [k1.out]
      rintro e w2 ⟨rfl,rfl⟩
      go_wp2_with fail
      go_roundw
      case rel=>exact ⟨j + 1,_,c,sa,by omega,by congr 1;have:=HP.out;omega,rfl,by rw [HS.out];exact ho,hb⟩
      case measure=>simp [intOf];omega
  · have e : j = 20:=by omega
    subst e
    go_wp2
    go_ret
    exact ⟨_,_,_,rfl,by rw [← gL];exact ho.mono (by omega) (Nat.le_refl _),hbw⟩
end Go.Proofs.Ytceonklhlpkfgaa
namespace Go.Proofs.Ytceonklhlpkfgaa
set_option linter.unusedVariables false
set_option linter.unusedSimpArgs false
open Go.RowKit
attribute [local go_sem ↓] Go.wp_at_zero Go.wp_at_succ
set_option maxHeartbeats 1000000 in
theorem mf (v u : Value) (g : Pa) (xs : List Int) (w : World) (hP : IsP w v g) (hx : IsI w u xs) (hB : Bnd xs g.prio.length) (hg : PaOk g) (h0 : 0 < xs.length) (hl : xs.length ≤ 1048576) :
  Calls Try.prog 66 #[v,u] w (d5 w (prs g xs)):=by
 obtain ⟨_,_,_,rfl,⟨s1,n1,c1,rfl,h1⟩,⟨s2,n2,c2,rfl,h2⟩,⟨s3,n3,c3,rfl,h3⟩⟩:=hP
 obtain ⟨s4,n4,c4,rfl,h4⟩:=hx
 have hm4:=h4.max
 have hm3:=h3.max
 obtain rfl:=h4.1
 have H3:=Lib.hid h3.1
 have HB:=Lib.hid hB
 have G:=Lib.hid hg
 have H0:=Lib.hid h0
 clear hB hg h0
 go_enter Try.func66,Try.ntmps66
 go_wp2
 generalize hqw1 : w.alloc (.cells #[.slice s1 n1 c1,.slice s2 n2 c2,.slice s3 n3 c3] 33) = w1
 have hbw : Below w.heap.size w w1:=by rw [← hqw1];exact (by repeat' (first|(with_reducible exact Below.refl _ _)|(with_reducible apply Below.alloc)|(with_reducible apply Below.drew)|(with_reducible apply ah)|omega|(simp only [World.size_alloc,World.size_setCell,World.size_drew];omega)))
 have hew1:=Lib.hid (show w1.heap.size = w.heap.size + 1 by rw [← hqw1];simp)
 have hsw : w.heap.size + 1 ≤ w1.heap.size:=by rw [← hqw1];simp only [World.size_alloc];omega
 have hswa : w.heap.size < w1.heap.size:=by omega
 have HQw1_0 : Blk w1 (w.heap.size) [.slice s1 n1 c1,.slice s2 n2 c2,.slice s3 n3 c3] 33:=by rw [← hqw1];have hnew:=cF w [.slice s1 n1 c1,.slice s2 n2 c2,.slice s3 n3 c3] 33;(try simp only [World.size_alloc] at hnew);exact hnew
 have b0_0 : w1.cell? ⟨w.heap.size,0,none⟩ = some (.slice s1 n1 c1):=HQw1_0.cell 0 rfl
 have b0_1 : w1.cell? ⟨w.heap.size,1,none⟩ = some (.slice s2 n2 c2):=HQw1_0.cell 1 rfl
 have b0_2 : w1.cell? ⟨w.heap.size,2,none⟩ = some (.slice s3 n3 c3):=HQw1_0.cell 2 rfl
 have HRw1:=Lib.hid HQw1_0
 clear HQw1_0
 clear hqw1
 go_loopw [5,11] (fun v i wr=>∃ (k c : Nat) (sa : Option Addr),k ≤ xs.length ∧ i = .int .i64 k ∧ v = .slice sa k c ∧ aA w1.heap.size wr.heap.size wr (.slice sa k c) (tab k fun j=>gi g.prio (gi xs j).toNat) ∧ Below w1.heap.size w1 wr) (fun _ i _=>xs.length - (intOf i).toNat)
 case atStart=>exact ⟨0,0,_,by omega,rfl,rfl,by rw [← hew1.out];exact ew _ _ 0 (Nat.le_refl _),ao _ _⟩
 case round =>
  obtain ⟨k,c,sa,hk,rfl,rfl,ho,hb⟩:=hrel
  have hBwr : Below w1.heap.size w1 (wr):=(by repeat' (first|(with_reducible exact Below.refl _ _)|(with_reducible assumption)|(with_reducible apply ak)|(with_reducible apply Below.alloc)|(with_reducible apply Below.drew)|(with_reducible apply ah)|(with_reducible refine Below.trans ?_ (Below.mono (by assumption) ?_))|omega|(simp only [World.size_alloc,World.size_setCell,World.size_drew];omega)))
  replace b0_2:=al b0_2 hBwr
  replace hbw : Below w.heap.size w (wr):=hbw.trans (hBwr.mono hbw.size)
  clear hBwr
  by_cases hlt : k < xs.length
  · obtain ⟨b,o,rfl,hbl,hc⟩:=(h4.below hbw).get hlt
    have hck:=hc k hlt
    clear hc
    obtain ⟨hb0,hb1⟩:=HB.out k hlt
    have hb2 : (gi xs k).toNat < n3:=by have:=H3.out;omega
    obtain ⟨b3,o3,rfl,hbl3,hc3⟩:=(h3.below hbw).get hb2
    have hck3:=hc3 _ hb2
    have hb1' : gi xs k < n3:=by have:=H3.out;omega
    clear hc3 hb1
    go_wp2_with (at_builtin;refine fg rfl _ _ rfl rfl (aA.alloc ho _) (gi g.prio (gi xs k).toNat) _ _ rfl (by simp) (by simp;omega) (by have:=hb.size;simp;omega) ?_;intro sa' c' w2 ho2 hO2)
    go_roundw
    case rel =>
     rw [bM] at *
     exact ⟨k + 1,c',sa',by omega,by go_num,rfl,by rwa [← gH (f:=fun j=>gi g.prio (gi xs j).toNat)] at ho2,gj hb hO2⟩
    case measure=>simp [intOf];omega
  · have e : k = xs.length:=by omega
    subst e
    have hsz:=hb.size
    go_wp2_with fail
    refine (nh ho (by omega)).mono ?_
    rintro e w2 ⟨rfl,ho2,hg2⟩
    have hO2:=cG ho hg2
    have hz2:=hO2.size
    go_wp2_with fail
    refine (jR ho2 (by omega) H0.out).mono ?_
    rintro e w3 ⟨k3,rfl,ho3,hg3⟩
    have hO3:=cG ho2 hg3
    have hz3:=hO3.size
    go_wp2_with fail
    go_ret
    refine ⟨_,_,_,rfl,?_,((hbw.trans (hO2.below (by omega))).trans (hO3.below (by omega)))⟩
    have e4 : iz (srt (tab xs.length fun j=>gi g.prio (gi xs j).toNat)) = prs g xs:=by
     rw [me (n:=41) (fun x hx=>?_)]
     · refine fI fun p _=>?_
       rw [cU,bM]
       constructor
       · rintro ⟨j,h1,h2⟩;rw [ca _ h1] at h2;exact ⟨j,h1,h2⟩
       · rintro ⟨j,h1,h2⟩;exact ⟨j,h1,by rw [ca _ h1];exact h2⟩
     · obtain ⟨j,h1,h2⟩:=kA hx
       rw [bM] at h1
       rw [ca _ h1] at h2
       have h3':=HB.out j h1
       have:=G.out.prio (gi xs j).toNat (by omega)
       omega
    rw [← e4]
    exact ho3.top.mono (by omega) (Nat.le_refl _)
set_option maxRecDepth 100000 in
set_option maxHeartbeats 2000000 in
theorem nk (v : Value) (g : Pa) (w : World) (hP : IsP w v g) (hg : PaOk g) : Calls Try.prog 55 #[v] w (d5 w (au g)):=by
 have hP0:=hP
 obtain ⟨_,_,_,rfl,⟨s1,n1,c1,rfl,h1⟩,⟨s2,n2,c2,rfl,h2⟩,⟨s3,n3,c3,rfl,h3⟩⟩:=hP
 have hA : IsA w (.agg #[.slice s1 n1 c1,.slice s2 n2 c2]) g.ar:=⟨_,_,rfl,h1.is,h2.is⟩
 have HN:=Lib.hid hg.ar.le
 have HL:=Lib.hid hg.len
 have HP:=Lib.hid hg.ar.pos
 have G:=Lib.hid hg
 have hBt : Bnd (tab g.ar.own.length fun v=>(v : Int)) g.prio.length:=fun k hk=>by rw [bM] at hk;rw [ca _ hk];have:=hg.len;omega
 have BN:=Lib.hid hBt
 clear hg hBt h1 h2 h3
 go_enter Try.func55,Try.ntmps55
 go_wp2
 generalize hqw1 : w.alloc (.cells #[.slice s1 n1 c1,.slice s2 n2 c2,.slice s3 n3 c3] 33) = w1
 have hbw : Below w.heap.size w w1:=by rw [← hqw1];exact (by repeat' (first|(with_reducible exact Below.refl _ _)|(with_reducible apply Below.alloc)|(with_reducible apply Below.drew)|(with_reducible apply ah)|omega|(simp only [World.size_alloc,World.size_setCell,World.size_drew];omega)))
 have hew1:=Lib.hid (show w1.heap.size = w.heap.size + 1 by rw [← hqw1];simp)
 have hsw : w.heap.size + 1 ≤ w1.heap.size:=by rw [← hqw1];simp only [World.size_alloc];omega
 have hswa : w.heap.size < w1.heap.size:=by omega
 have HQw1_0 : Blk w1 (w.heap.size) [.slice s1 n1 c1,.slice s2 n2 c2,.slice s3 n3 c3] 33:=by rw [← hqw1];have hnew:=cF w [.slice s1 n1 c1,.slice s2 n2 c2,.slice s3 n3 c3] 33;(try simp only [World.size_alloc] at hnew);exact hnew
 have b0_0 : w1.cell? ⟨w.heap.size,0,none⟩ = some (.slice s1 n1 c1):=HQw1_0.cell 0 rfl
 have b0_1 : w1.cell? ⟨w.heap.size,1,none⟩ = some (.slice s2 n2 c2):=HQw1_0.cell 1 rfl
 have b0_2 : w1.cell? ⟨w.heap.size,2,none⟩ = some (.slice s3 n3 c3):=HQw1_0.cell 2 rfl
 have HRw1:=Lib.hid HQw1_0
 clear HQw1_0
 clear hqw1
 have hes : aA w1.heap.size (w1.alloc (.cells #[] 2)).heap.size (w1.alloc (.cells #[] 2)) (.slice (some ⟨w.heap.size + 1,0,none⟩) 0 0) []:=by rw [← hew1.out];exact ew _ _ 0 (Nat.le_refl _)
 generalize hq2 : w1.alloc (.cells #[] 2) = w2 at *
 have hb12 : Below w1.heap.size w1 w2:=by rw [← hq2];exact ao _ _
 have hz12 : w1.heap.size < w2.heap.size:=by rw [← hq2];simp
 clear hq2
 replace b0_0:=al b0_0 hb12
 replace b0_1:=al b0_1 hb12
 replace b0_2:=al b0_2 hb12
 replace hbw:=hbw.trans (hb12.mono hbw.size)
 go_region_held3 (fun w'=>w'.cell? ⟨w.heap.size,0,none⟩ = some (.slice s1 n1 c1) ∧ w'.cell? ⟨w.heap.size,1,none⟩ = some (.slice s2 n2 c2) ∧ w'.cell? ⟨w.heap.size,2,none⟩ = some (.slice s3 n3 c3)) (first|exact ⟨b0_0,b0_1,b0_2⟩|go_keep)
  (first
   | (go_at_call 67; refine (lC _ _ _ ((hA.below hbw).drew) HN.out).mono ?_; rintro e w4 ⟨s6, n6, c6, rfl, ho6, hbw4⟩; replace hbw4 := gy hbw4; replace b0_0 := al b0_0 hbw4; replace b0_1 := al b0_1 hbw4; replace b0_2 := al b0_2 hbw4; replace hes := hes.below hbw4; replace hbw : Below w.heap.size w w4 := hbw.trans (hbw4.mono hbw.size); have hz4 := hbw4.size)
   | (go_at_call 66; refine (mf _ _ _ _ _ (hP0.below hbw) ho6.is BN.out G.out (by rw [bM]; exact HP.out) (by rw [bM]; have := HN.out; omega)).mono ?_; rintro e w5 ⟨s7, n7, c7, rfl, ho7, hbw5⟩; replace b0_0 := al b0_0 hbw5; replace b0_1 := al b0_1 hbw5; replace b0_2 := al b0_2 hbw5; replace hes := hes.below hbw5; replace hbw : Below w.heap.size w w5 := hbw.trans (hbw5.mono hbw.size); have hz5 := hbw5.size))
 go_wp2_with fail
 have hl7:=ho7.len
 have hI7:=ho7.is.ints
 have hl41 : n7 ≤ 41:=by rw [← hl7];exact lB _ _
 have HL7:=Lib.hid hl7
 clear hl7
 have hL7 : (prs g (tab g.ar.own.length fun v=>(v : Int))).length = n7:=HL7.out
 have hnn : ∀ k,k < n7 → 0 ≤ gi (prs g (tab g.ar.own.length fun v=>(v : Int))) k:=fun k hk=>by
  have hm:=fC (xs:=prs g (tab g.ar.own.length fun v=>(v : Int))) (k:=k) (by rw [hL7];exact hk)
  obtain ⟨v,_,_,e⟩:=dt.1 hm
  omega
 have HNN:=Lib.hid hnn
 clear hnn hL7
 obtain ⟨ps,hps⟩ : ∃ ps,ps = prs g (tab g.ar.own.length fun v=>(v : Int)):=⟨_,rfl⟩
 have HPS:=Lib.hid hps
 rw [← hps] at ho7 hI7 HL7 HNN
 clear hps
 go_loopw [3,13] (fun v i wr=>∃ (k n c : Nat) (sa : Option Addr),k ≤ n7 ∧ i = .int .i64 k ∧ v = .slice sa n c ∧ ia ⟨w.heap.size + 1,0,none⟩ w5.heap.size wr.heap.size wr (.slice sa n c) (dP (fun x=>x % 2 = 1) ps k) ∧ Below w5.heap.size w5 wr) (fun _ i _=>n7 - (intOf i).toNat)
 case atStart=>exact ⟨0,0,0,_,by omega,rfl,rfl,Or.inr ⟨rfl,rfl⟩,Below.refl _ _⟩
 case round =>
  obtain ⟨k,n,c,sa,hk,rfl,rfl,ho,hb⟩:=hrel
  have hsz:=hb.size
  have hfl:=jQ (fun x=>x % 2 = 1) ps k
  have hol:=ho.len
  by_cases hlt : k < n7
  · obtain ⟨b,o,rfl,hbl,hc⟩:=(hI7.below hb).get hlt
    have hck:=hc k hlt
    clear hc
    have hp0:=HNN.out k hlt
    have HOL:=Lib.hid hol
    clear hol
    rcases gz (gi ps k % 2) 1 with ⟨d1,d2,x1⟩|⟨d1,d2,x1⟩
    · have HS:=Lib.hid (dC (p:=fun x=>x % 2 = 1) (xs:=ps) (k:=k) x1.out)
      rcases ho with ho|⟨he,hx⟩
      · go_wp2_with (at_builtin;refine fg rfl _ _ rfl rfl (aA.alloc ho _) (gi ps k) _ _ rfl (by simp) (by omega) (by simp;omega) ?_;intro sa' c' w6 ho6' hO6)
        go_roundw
        case rel=>exact ⟨k + 1,_,c',sa',by omega,by go_num,rfl,Or.inl (by rw [HS.out];exact ho6'),nc hb hO6 (Nat.le_refl _) hsz⟩
        case measure=>simp [intOf];omega
      · injection he with e1 e2 e3
        subst e1 e2 e3
        have HX:=Lib.hid hx
        clear hx
        go_wp2_with (at_builtin;refine l4 rfl _ _ rfl _ rfl (gi ps k) _ _ rfl (by simp) ?_;intro sa' c' w6 ho6' hb6)
        have hz6:=hb6.size
        simp only [World.size_alloc] at hz6 ho6'
        go_roundw
        case rel=>exact ⟨k + 1,_,c',sa',by omega,by go_num,rfl,Or.inl (by rw [HS.out,HX.out];exact ho6'.mono (by omega) (Nat.le_refl _)),(hb.alloc hsz _).trans (hb6.mono (by simp;omega))⟩
        case measure=>simp [intOf];omega
    · have HS:=Lib.hid (eu (p:=fun x=>x % 2 = 1) (xs:=ps) (k:=k) x1.out)
      have HO:=Lib.hid ho
      clear ho
      go_wp2_with fail
      go_roundw
      case rel=>exact ⟨k + 1,_,c,sa,by omega,by go_num,rfl,by rw [HS.out];exact HO.out,hb⟩
      case measure=>simp [intOf];omega
  · have e : k = n7:=by omega
    subst e
    have hfin : aA w1.heap.size wr.heap.size wr (.slice sa n c) (dP (fun x=>x % 2 = 1) ps k):=by
     rcases ho with ho|⟨he,hx⟩
     · exact ho.mono (by omega) (Nat.le_refl _)
     · rw [he,hx];exact ((hes.below hb).top)
    have hn41 : n ≤ 41:=by omega
    clear ho hol
    go_wp2_with fail
    refine (jS hfin (by omega)).mono ?_
    rintro e w6 ⟨rfl,ho6',hg6⟩
    have hO6:=cG hfin hg6
    have hz6:=hO6.size
    go_wp2_with fail
    go_ret
    refine ⟨_,_,_,rfl,?_,((hbw.trans (hb.mono hbw.size)).trans (hO6.below (by omega)))⟩
    have e4 : (dP (fun x=>x % 2 = 1) ps k).reverse = au g:=by
     rw [← HL7.out,HPS.out,← HL.out,oW,nj]
     rfl
    rw [← e4]
    exact ho6'.top.mono (by omega) (Nat.le_refl _)
end Go.Proofs.Ytceonklhlpkfgaa
