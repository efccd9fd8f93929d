/-
  The odds of a game: the program's.
-/
import Derived.Test.YthjamlponejffaaZiShelf2
import Derived.Test.YthjamlponejffaaZiCb
import Derived.Test.YthjamlponejffaaZiSd
namespace Go.Proofs.Ythjamlponejffaa
set_option linter.unusedVariables false
set_option linter.unusedSimpArgs false
open Go.RowKit
attribute [local go_sem ↓] Go.wp_at_zero Go.wp_at_succ
noncomputable def prs (g : Pa) (xs : List Int) : List Int:=lst (fun p=>∃ k,k < xs.length ∧ gi g.prio (gi xs k).toNat = (p : Int)) 41
theorem q8 (g : Pa) : prs g (tab g.prio.length fun v=>(v : Int)) = lst (fun p=>(p : Int) ∈ g.prio) 41:=by
 refine gB fun p _=>?_
 rw [bD,fw]
 constructor
 · rintro ⟨k,h1,h2⟩;rw [bH _ h1] at h2;exact ⟨k,h1,h2⟩
 · rintro ⟨k,h1,h2⟩;exact ⟨k,h1,by rw [bH _ h1];exact h2⟩
end Go.Proofs.Ythjamlponejffaa
namespace Go.Proofs.Ythjamlponejffaa
set_option linter.unusedVariables false
set_option linter.unusedSimpArgs false
open Go.RowKit
attribute [local go_sem ↓] Go.wp_at_zero Go.wp_at_succ
set_option maxHeartbeats 1000000 in
theorem n9 (v u : Value) (g : Pa) (xs : List Int) (w : World) (hP : IsP w v g) (hx : IsI w u xs) (hB : Bnd xs g.prio.length) (hg : PaOk g) (h0 : 0 < xs.length) (hl : xs.length ≤ 1048576) :
  Calls Try.prog 111 #[v,u] w (ox w (prs g xs)):=by
 obtain ⟨_,_,_,rfl,⟨s1,n1,c1,rfl,h1⟩,⟨s2,n2,c2,rfl,h2⟩,⟨s3,n3,c3,rfl,h3⟩⟩:=hP
 obtain ⟨s4,n4,c4,rfl,h4⟩:=hx
 have hm4:=h4.max
 have hm3:=h3.max
 obtain rfl:=h4.1
 have H3:=Lib.hid h3.1
 have HB:=Lib.hid hB
 have G:=Lib.hid hg
 have H0:=Lib.hid h0
 clear hB hg h0
 go_enter Try.func111,Try.ntmps111
 go_wp2
 generalize hqw1 : w.alloc (.cells #[.slice s1 n1 c1,.slice s2 n2 c2,.slice s3 n3 c3] 32) = w1
 have hbw : Below w.heap.size w w1:=by rw [← hqw1];exact (by repeat' (first|(with_reducible exact Below.refl _ _)|(with_reducible apply Below.alloc)|(with_reducible apply Below.drew)|(with_reducible apply al)|omega|(simp only [World.size_alloc,World.size_setCell,World.size_drew];omega)))
 have hew1:=Lib.hid (show w1.heap.size = w.heap.size + 1 by rw [← hqw1];simp)
 have hsw : w.heap.size + 1 ≤ w1.heap.size:=by rw [← hqw1];simp only [World.size_alloc];omega
 have hswa : w.heap.size < w1.heap.size:=by omega
 have HQw1_0 : Blk w1 (w.heap.size) [.slice s1 n1 c1,.slice s2 n2 c2,.slice s3 n3 c3] 32:=by rw [← hqw1];have hnew:=dE w [.slice s1 n1 c1,.slice s2 n2 c2,.slice s3 n3 c3] 32;(try simp only [World.size_alloc] at hnew);exact hnew
 have b0_0 : w1.cell? ⟨w.heap.size,0,none⟩ = some (.slice s1 n1 c1):=HQw1_0.cell 0 rfl
 have b0_1 : w1.cell? ⟨w.heap.size,1,none⟩ = some (.slice s2 n2 c2):=HQw1_0.cell 1 rfl
 have b0_2 : w1.cell? ⟨w.heap.size,2,none⟩ = some (.slice s3 n3 c3):=HQw1_0.cell 2 rfl
 have HRw1:=Lib.hid HQw1_0
 clear HQw1_0
 clear hqw1
 go_loopw [5,11] (fun v i wr=>∃ (k c : Nat) (sa : Option Addr),k ≤ xs.length ∧ i = .int .i64 k ∧ v = .slice sa k c ∧ aM w1.heap.size wr.heap.size wr (.slice sa k c) (tab k fun j=>gi g.prio (gi xs j).toNat) ∧ Below w1.heap.size w1 wr) (fun _ i _=>xs.length - (intOf i).toNat)
 case atStart=>exact ⟨0,0,_,by omega,rfl,rfl,by rw [← hew1.out];exact mH _ _ 0 (Nat.le_refl _),aD _ _⟩
 case round =>
  obtain ⟨k,c,sa,hk,rfl,rfl,ho,hb⟩:=hrel
  have hBwr : Below w1.heap.size w1 (wr):=(by repeat' (first|(with_reducible exact Below.refl _ _)|(with_reducible assumption)|(with_reducible apply ao)|(with_reducible apply Below.alloc)|(with_reducible apply Below.drew)|(with_reducible apply al)|(with_reducible refine Below.trans ?_ (Below.mono (by assumption) ?_))|omega|(simp only [World.size_alloc,World.size_setCell,World.size_drew];omega)))
  replace b0_2:=cg b0_2 hBwr
  replace hbw : Below w.heap.size w (wr):=hbw.trans (hBwr.mono hbw.size)
  clear hBwr
  by_cases hlt : k < xs.length
  · obtain ⟨b,o,rfl,hbl,hc⟩:=(h4.below hbw).get hlt
    have hck:=hc k hlt
    clear hc
    obtain ⟨hb0,hb1⟩:=HB.out k hlt
    have hb2 : (gi xs k).toNat < n3:=by have:=H3.out;omega
    obtain ⟨b3,o3,rfl,hbl3,hc3⟩:=(h3.below hbw).get hb2
    have hck3:=hc3 _ hb2
    have hb1' : gi xs k < n3:=by have:=H3.out;omega
    clear hc3 hb1
    go_wp2_with (at_builtin;refine jM rfl _ _ rfl rfl (aM.alloc ho _) (gi g.prio (gi xs k).toNat) _ _ rfl (by simp) (by simp;omega) (by have:=hb.size;simp;omega) ?_;intro sa' c' w2 ho2 hO2)
    go_roundw
    case rel =>
     rw [bD] at *
     exact ⟨k + 1,c',sa',by omega,by go_num,rfl,by rwa [← fi (f:=fun j=>gi g.prio (gi xs j).toNat)] at ho2,mE hb hO2⟩
    case measure=>simp [intOf];omega
  · have e : k = xs.length:=by omega
    subst e
    have hsz:=hb.size
    go_wp2_with fail
    refine (pV ho (by omega)).mono ?_
    rintro e w2 ⟨rfl,ho2,hg2⟩
    have hO2:=eP ho hg2
    have hz2:=hO2.size
    go_wp2_with fail
    refine (lu ho2 (by omega) H0.out).mono ?_
    rintro e w3 ⟨k3,rfl,ho3,hg3⟩
    have hO3:=eP ho2 hg3
    have hz3:=hO3.size
    go_wp2_with fail
    go_ret
    refine ⟨_,_,_,rfl,?_,((hbw.trans (hO2.below (by omega))).trans (hO3.below (by omega)))⟩
    have e4 : jK (srt (tab xs.length fun j=>gi g.prio (gi xs j).toNat)) = prs g xs:=by
     rw [n8 (n:=41) (fun x hx=>?_)]
     · refine gB fun p _=>?_
       rw [fw,bD]
       constructor
       · rintro ⟨j,h1,h2⟩;rw [bH _ h1] at h2;exact ⟨j,h1,h2⟩
       · rintro ⟨j,h1,h2⟩;exact ⟨j,h1,by rw [bH _ h1];exact h2⟩
     · obtain ⟨j,h1,h2⟩:=dS hx
       rw [bD] at h1
       rw [bH _ h1] at h2
       have h3':=HB.out j h1
       have:=G.out.prio (gi xs j).toNat (by omega)
       omega
    rw [← e4]
    exact ho3.top.mono (by omega) (Nat.le_refl _)
end Go.Proofs.Ythjamlponejffaa
