/-
  The program's copy of an arena and of a game, every list in memory of its own.
-/
import Derived.Test.YthjamlponejffaaZiCb
import Derived.Test.YthjamlponejffaaZiCa
namespace Go.Proofs.Ythjamlponejffaa
set_option linter.unusedVariables false
set_option linter.unusedSimpArgs false
open Go.RowKit
attribute [local go_sem ↓] Go.wp_at_zero Go.wp_at_succ
def u4 (w : World) (n : Nat) (xss : List (List Int)) (e : Ending) (w' : World) : Prop:=∃ sa c vs,e = .returned (.slice sa n c) ∧ bi w.heap.size w'.heap.size w' (.slice sa n c) xss vs ∧ Below w.heap.size w w'
theorem qX {lo hi : Nat} {w : World} {v : Value} {xss : List (List Int)} {vs : List Value} (h : bi lo hi w v xss vs) : ∀ g,g ∈ vs.filterMap blk → g < w.heap.size:=by
 intro g hg'
 obtain ⟨x,hx,e⟩:=List.mem_filterMap.1 hg'
 obtain ⟨j,hj,e2⟩:=List.getElem_of_mem hx
 have:=h.2.2.1 j (by rw [← h.1];exact hj)
 rw [List.getD_eq_getElem?_getD,List.getElem?_eq_getElem hj] at this
 simp only [Option.getD_some,e2] at this
 exact (aE.lt this g e).2.2
set_option maxHeartbeats 1000000 in
theorem lr (sa : Option Addr) (n c : Nat) (xss : List (List Int)) (w : World) (hR : Rws w sa n c xss) (hn : n ≤ 65536) (hl : ∀ k,k < n → 0 < (gr xss k).length ∧ (gr xss k).length ≤ 1048576) :
  Calls Try.prog 115 #[.slice sa n c] w (u4 w n xss):=by
 have hmax:=hR.max
 have HL:=Lib.hid hR.len
 have HN:=Lib.hid hl
 clear hl
 go_enter Try.func115,Try.ntmps115
 go_wp2_with fail
 have h0:=lG w.heap.size w (Nat.le_refl _)
 have hb0 : Below w.heap.size w (w.alloc (.cells #[] 22)):=aD _ _
 generalize w.alloc (.cells #[] 22) = w1 at *
 go_loopw [3,9] (fun v i wr=>∃ (k : Nat) (sv : Option Addr) (cv : Nat) (vs : List Value),k ≤ n ∧ i = .int .i64 k ∧ v = .slice sv k cv ∧ bi w.heap.size wr.heap.size wr (.slice sv k cv) (xss.take k) vs ∧ Below w.heap.size w wr) (fun _ i _=>n - (intOf i).toNat)
 case atStart=>exact ⟨0,_,0,[],by omega,rfl,rfl,h0,hb0⟩
 case round =>
  clear h0 hb0
  obtain ⟨k,sv,cv,vs,hk,rfl,rfl,ho,hb⟩:=hrel
  by_cases hlt : k < n
  · obtain ⟨b,o,rfl,hbl,A,L,C,hc⟩:=hR.get hlt
    have hck:=(ik hb).1 b (o + k) hbl
    obtain ⟨hc1,hc2⟩:=hc k hlt
    rw [hc1] at hck
    have hL:=HN.out k hlt
    rw [hc2.1] at hL
    have hI:=hc2.below hb
    clear hc hc1
    have hmem : ∀ g,g ∈ vs.filterMap blk → g < wr.heap.size:=qX ho
    have hle:=ho.len
    go_wp2_with (first
     | (refine ng (by rfl) _ _ (by rfl) _ (by rfl) (by rfl) (hI.below (by repeat' (first | (with_reducible exact Below.refl _ _) | (with_reducible assumption) | (with_reducible apply ao) | (with_reducible apply Below.alloc) | (with_reducible apply Below.drew) | (with_reducible apply al) | (with_reducible refine Below.trans ?_ (Below.mono (by assumption) ?_)) | omega | (simp only [World.size_alloc, World.size_setCell, World.size_drew]; omega)))) hL.1 hL.2 ?_; intro s2 c2 w2 ho2 hb2; have hB2 : Below wr.heap.size wr w2 := (by repeat' (first | (with_reducible exact Below.refl _ _) | (with_reducible assumption) | (with_reducible apply ao) | (with_reducible apply Below.alloc) | (with_reducible apply Below.drew) | (with_reducible apply al) | (with_reducible refine Below.trans ?_ (Below.mono (by assumption) ?_)) | omega | (simp only [World.size_alloc, World.size_setCell, World.size_drew]; omega))); have hz2 := hB2.size)
     | (refine p8 (by rfl) _ _ (by rfl) (by rfl) (bi.below (bi.below ho hB2) (aD _ _)) (su := s2) (nu := L k) (cu := c2) (row := gr xss k) (((ho2.mono (by have := hb.size; simp; omega) (Nat.le_refl _)).below (aD _ _)).top) (fun g hg hg' => by have h1 := (aE.lt ho2 g hg).1; have h2 := hmem g hg'; simp at h1; omega) _ _ (by rfl) (by simp) (by omega) (by have := hb.size; simp; omega) ?_; intro s5 c5 w5 ho5 g5; have hz5 := g5.size))
    go_roundw
    case rel =>
     have hbA : Below w.heap.size w (w2.alloc (.cells #[.slice s2 (L k) c2] 22)):=(hb.trans (hB2.mono hb.size)).alloc (by have:=hb.size;omega) _
     rw [← mF (by have:=HL.out;omega),hle] at ho5
     refine ⟨k + 1,s5,c5,_,by omega,by go_num,rfl,ho5,hbA.grown g5 (by have:=hb.size;simp;omega) fun g hg=>(aE.lt ho.2.1 g hg).1⟩
    case measure=>simp [intOf];omega
  · have e : k = n:=by omega
    subst e
    go_wp2_with fail
    go_ret
    refine ⟨sv,cv,vs,rfl,?_,hb⟩
    rw [show xss.take k = xss from List.take_of_length_le (by have:=HL.out;omega)] at ho
    exact ho.top
end Go.Proofs.Ythjamlponejffaa
namespace Go.Proofs.Ythjamlponejffaa
set_option linter.unusedVariables false
set_option linter.unusedSimpArgs false
open Go.RowKit
attribute [local go_sem ↓] Go.wp_at_zero Go.wp_at_succ
theorem qY {lo hi : Nat} {w : World} {v : Value} {xss : List (List Int)} {vs : List Value} (h : bi lo hi w v xss vs) : ∀ g,g ∈ vs.filterMap blk → lo ≤ g:=by
 intro g hg'
 obtain ⟨x,hx,e⟩:=List.mem_filterMap.1 hg'
 obtain ⟨j,hj,e2⟩:=List.getElem_of_mem hx
 have:=h.2.2.1 j (by rw [← h.1];exact hj)
 rw [List.getD_eq_getElem?_getD,List.getElem?_eq_getElem hj] at this
 simp only [Option.getD_some,e2] at this
 exact (aE.lt this g e).1
set_option maxRecDepth 100000 in
set_option maxHeartbeats 4000000 in
theorem ls (v : Value) (a : Ar) (w : World) (hA : IsA w v a) (h1 : 0 < a.own.length ∧ a.own.length ≤ 1048576) (hn : a.nxt.length ≤ 65536) (hl : ∀ k,k < a.nxt.length → 0 < (gr a.nxt k).length ∧ (gr a.nxt k).length ≤ 1048576) : Calls Try.prog 80 #[v] w (tS w a):=by
 obtain ⟨_,_,rfl,⟨s1,n1,c1,rfl,hI⟩,⟨s2,n2,c2,rfl,hR⟩⟩:=hA
 have e1:=hI.1
 have e2:=hR.len
 have hl1 : 0 < n1 ∧ n1 ≤ 1048576:=by omega
 have hn2 : n2 ≤ 65536:=by omega
 rw [e2] at hl
 have HL:=Lib.hid hl
 clear hl
 go_enter Try.func80,Try.ntmps80
 go_wp2_with fail
 generalize hqw1 : (w.alloc (.cells #[.slice s1 n1 c1,.slice s2 n2 c2] 30)).alloc (.cells #[.slice none 0 0,.slice none 0 0] 30) = w1
 have hbw : Below w.heap.size w w1:=by rw [← hqw1];exact (by repeat' (first|(with_reducible exact Below.refl _ _)|(with_reducible apply Below.alloc)|(with_reducible apply Below.drew)|(with_reducible apply al)|omega|(simp only [World.size_alloc,World.size_setCell,World.size_drew];omega)))
 have hew1:=Lib.hid (show w1.heap.size = w.heap.size + 1 + 1 by rw [← hqw1];simp)
 have hsw : w.heap.size + 2 ≤ w1.heap.size:=by rw [← hqw1];simp only [World.size_alloc];omega
 have hswa : w.heap.size < w1.heap.size:=by omega
 have hswb : w.heap.size + 1 < w1.heap.size:=by omega
 have HQw1_0 : Blk w1 (w.heap.size) [.slice s1 n1 c1,.slice s2 n2 c2] 30:=by rw [← hqw1];have hnew:=dE w [.slice s1 n1 c1,.slice s2 n2 c2] 30;(try simp only [World.size_alloc] at hnew);exact (Blk.alloc hnew _)
 have b0_0 : w1.cell? ⟨w.heap.size,0,none⟩ = some (.slice s1 n1 c1):=HQw1_0.cell 0 rfl
 have b0_1 : w1.cell? ⟨w.heap.size,1,none⟩ = some (.slice s2 n2 c2):=HQw1_0.cell 1 rfl
 clear HQw1_0
 have HQw1_1 : Blk w1 (w.heap.size + 1) [.slice none 0 0,.slice none 0 0] 30:=by rw [← hqw1];have hnew:=dE (w.alloc (.cells #[.slice s1 n1 c1,.slice s2 n2 c2] 30)) [.slice none 0 0,.slice none 0 0] 30;(try simp only [World.size_alloc] at hnew);exact hnew
 have b1_0 : w1.cell? ⟨w.heap.size + 1,0,none⟩ = some (.slice none 0 0):=HQw1_1.cell 0 rfl
 have b1_1 : w1.cell? ⟨w.heap.size + 1,1,none⟩ = some (.slice none 0 0):=HQw1_1.cell 1 rfl
 have HRw1:=Lib.hid HQw1_1
 clear HQw1_1
 clear hqw1
 have hB : Blk w1 (w.heap.size + 1) [.slice none 0 0,.slice none 0 0] 30:=HRw1.out
 clear HRw1 b1_0 b1_1
 go_region_held3 (fun w'=>w'.cell? ⟨w.heap.size,0,none⟩ = some (.slice s1 n1 c1) ∧ w'.cell? ⟨w.heap.size,1,none⟩ = some (.slice s2 n2 c2)) (first|exact ⟨b0_0,b0_1⟩|exact ⟨cg (cg b0_0 (bJ _)) (aD _ _),cg (cg b0_1 (bJ _)) (aD _ _)⟩|exact ⟨g4_b0_0,g4_b0_1⟩|exact ⟨cg g4_b0_0 (aD _ _),cg g4_b0_1 (aD _ _)⟩|exact ⟨g7_b0_0,g7_b0_1⟩|exact ⟨cg g7_b0_0 (aD _ _),cg g7_b0_1 (aD _ _)⟩|go_keep)
  (first
   | (go_at_call 115; refine (lr _ _ _ _ _ (hR.below (by repeat' (first | (with_reducible exact Below.refl _ _) | (with_reducible assumption) | (with_reducible apply ao) | (with_reducible apply Below.alloc) | (with_reducible apply Below.drew) | (with_reducible apply al) | (with_reducible refine Below.trans ?_ (Below.mono (by assumption) ?_)) | omega | (simp only [World.size_alloc, World.size_setCell, World.size_drew]; omega)))) hn2 HL.out).mono ?_; rintro e w4 ⟨s6, c6, vs, rfl, ho6, hb4⟩; have hq4 : Below w1.heap.size w1 w4 := (by repeat' (first | (with_reducible exact Below.refl _ _) | (with_reducible assumption) | (with_reducible apply ao) | (with_reducible apply Below.alloc) | (with_reducible apply Below.drew) | (with_reducible apply al) | (with_reducible refine Below.trans ?_ (Below.mono (by assumption) ?_)) | omega | (simp only [World.size_alloc, World.size_setCell, World.size_drew]; omega))); have hz4 := hq4.size; (try simp only [World.size_alloc, World.size_setCell, World.size_drew] at hz4); have hw4 := hbw.trans (hq4.mono hbw.size); have g4_b0_0 := fQ b0_0 hq4 (by omega); have g4_b0_1 := fQ b0_1 hq4 (by omega); have hR4 := hB.bel hq4 (by omega); have r4_0 := hR4.cell 0 rfl; have y4_0 := hR4.free 0; have r4_1 := hR4.cell 1 rfl; have y4_1 := hR4.free 1)
   | ((refine io (by rfl) _ _ (by rfl) _ (by rfl) (by rfl) (hI.below (by repeat' (first | (with_reducible exact Below.refl _ _) | (with_reducible assumption) | (with_reducible apply ao) | (with_reducible apply Below.alloc) | (with_reducible apply Below.drew) | (with_reducible apply al) | (with_reducible refine Below.trans ?_ (Below.mono (by assumption) ?_)) | omega | (simp only [World.size_alloc, World.size_setCell, World.size_drew]; omega)))) hl1.1 hl1.2 ?_; intro s7 c7 w7 ho7 hb7; have hq7 : Below w1.heap.size w1 w7 := (by repeat' (first | (with_reducible exact Below.refl _ _) | (with_reducible assumption) | (with_reducible apply ao) | (with_reducible apply Below.alloc) | (with_reducible apply Below.drew) | (with_reducible apply al) | (with_reducible refine Below.trans ?_ (Below.mono (by assumption) ?_)) | omega | (simp only [World.size_alloc, World.size_setCell, World.size_drew]; omega))); have hz7 := hq7.size; (try simp only [World.size_alloc, World.size_setCell, World.size_drew] at hz7); have hw7 := hbw.trans (hq7.mono hbw.size); have g7_b0_0 := fQ b0_0 hq7 (by omega); have g7_b0_1 := fQ b0_1 hq7 (by omega); have hR7 := hB.bel hq7 (by omega); have r7_0 := hR7.cell 0 rfl; have y7_0 := hR7.free 0; have r7_1 := hR7.cell 1 rfl; have y7_1 := hR7.free 1)))
 all_goals
  go_wp2_with fail
  refine bodyPost_ret (v:=.agg #[.slice s7 n1 c7,.slice s6 n2 c6]) (by simp [results,Try.results80,go_sem,r4_0,r4_1,y4_0,y4_1]) rfl ?_
  have k6:=ho6
  have k7:=ho7
  refine ⟨_,_,_,_,_,_,rfl,⟨_,_,vs,rfl,?_,?_,?_⟩,?_⟩
  · clear hw7 hw4 hq7 hq4 hbw
    exact ho7.final (by repeat' (first|(with_reducible exact bQ.refl _ _ _)|(with_reducible apply bQ.set)|(with_reducible apply bQ.alloc)|(with_reducible apply bQ.drew)|(with_reducible apply bQ.drewN)|(with_reducible refine bQ.below ?_ (by assumption))|omega|(simp only [World.size_alloc,World.size_setCell,World.size_drew];omega))) (by first|omega|(simp only [World.size_alloc,World.size_setCell,World.size_drew];omega))
  · clear hw7 hw4 hq7 hq4 hbw
    exact ho6.final (by repeat' (first|(with_reducible exact bQ.refl _ _ _)|(with_reducible apply bQ.set)|(with_reducible apply bQ.alloc)|(with_reducible apply bQ.drew)|(with_reducible apply bQ.drewN)|(with_reducible refine bQ.below ?_ (by assumption))|omega|(simp only [World.size_alloc,World.size_setCell,World.size_drew];omega))) (by first|omega|(simp only [World.size_alloc,World.size_setCell,World.size_drew];omega))
  · exact nodup_cons (m:=w7.heap.size) (lo:=0) (hi:=0) (fun g hg=>(aE.lt k7 g hg).2.2) (qY k6) k6.2.2.2
  · exact (by repeat' (first|(with_reducible exact Below.refl _ _)|(with_reducible assumption)|(with_reducible apply ao)|(with_reducible apply Below.alloc)|(with_reducible apply Below.drew)|(with_reducible apply al)|(with_reducible refine Below.trans ?_ (Below.mono (by assumption) ?_))|omega|(simp only [World.size_alloc,World.size_setCell,World.size_drew];omega)))
end Go.Proofs.Ythjamlponejffaa
