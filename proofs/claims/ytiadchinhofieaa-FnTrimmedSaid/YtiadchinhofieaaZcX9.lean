/-
  The program's copy of an arena and of a game, every list in memory of its own.
-/
import Derived.Test.YtiadchinhofieaaZcX8
import Derived.Test.YtiadchinhofieaaZcCa
namespace Go.Proofs.Ytiadchinhofieaa
set_option linter.unusedVariables false
set_option linter.unusedSimpArgs false
open Go.RowKit
attribute [local go_sem ↓] Go.wp_at_zero Go.wp_at_succ
theorem rH {lo hi : Nat} {w : World} {v : Value} {xss : List (List Int)} {vs : List Value} (h : bi lo hi w v xss vs) : ∀ g,g ∈ vs.filterMap blk → lo ≤ g:=by
 intro g hg'
 obtain ⟨x,hx,e⟩:=List.mem_filterMap.1 hg'
 obtain ⟨j,hj,e2⟩:=List.getElem_of_mem hx
 have:=h.2.2.1 j (by rw [← h.1];exact hj)
 rw [List.getD_eq_getElem?_getD,List.getElem?_eq_getElem hj] at this
 simp only [Option.getD_some,e2] at this
 exact (aI.lt this g e).1
set_option maxRecDepth 100000 in
set_option maxHeartbeats 4000000 in
theorem lV (v : Value) (a : Ar) (w : World) (hA : IsA w v a) (h1 : 0 < a.own.length ∧ a.own.length ≤ 1048576) (hn : a.nxt.length ≤ 65536) (hl : ∀ k,k < a.nxt.length → 0 < (gr a.nxt k).length ∧ (gr a.nxt k).length ≤ 1048576) : Calls Try.prog 117 #[v] w (uL w a):=by
 obtain ⟨_,_,rfl,⟨s1,n1,c1,rfl,hI⟩,⟨s2,n2,c2,rfl,hR⟩⟩:=hA
 have e1:=hI.1
 have e2:=hR.len
 have hl1 : 0 < n1 ∧ n1 ≤ 1048576:=by omega
 have hn2 : n2 ≤ 65536:=by omega
 rw [e2] at hl
 have HL:=Lib.hid hl
 clear hl
 go_enter Try.func117,Try.ntmps117
 go_wp2_with fail
 generalize hqw1 : (w.alloc (.cells #[.slice s1 n1 c1,.slice s2 n2 c2] 30)).alloc (.cells #[.slice none 0 0,.slice none 0 0] 30) = w1
 have hbw : Below w.heap.size w w1:=by rw [← hqw1];exact (by repeat' (first|(with_reducible exact Below.refl _ _)|(with_reducible apply Below.alloc)|(with_reducible apply Below.drew)|(with_reducible apply aj)|omega|(simp only [World.size_alloc,World.size_setCell,World.size_drew];omega)))
 have hew1:=Lib.hid (show w1.heap.size = w.heap.size + 1 + 1 by rw [← hqw1];simp)
 have hsw : w.heap.size + 2 ≤ w1.heap.size:=by rw [← hqw1];simp only [World.size_alloc];omega
 have hswa : w.heap.size < w1.heap.size:=by omega
 have hswb : w.heap.size + 1 < w1.heap.size:=by omega
 have HQw1_0 : Blk w1 (w.heap.size) [.slice s1 n1 c1,.slice s2 n2 c2] 30:=by rw [← hqw1];have hnew:=bM w [.slice s1 n1 c1,.slice s2 n2 c2] 30;(try simp only [World.size_alloc] at hnew);exact (Blk.alloc hnew _)
 have b0_0 : w1.cell? ⟨w.heap.size,0,none⟩ = some (.slice s1 n1 c1):=HQw1_0.cell 0 rfl
 have b0_1 : w1.cell? ⟨w.heap.size,1,none⟩ = some (.slice s2 n2 c2):=HQw1_0.cell 1 rfl
 clear HQw1_0
 have HQw1_1 : Blk w1 (w.heap.size + 1) [.slice none 0 0,.slice none 0 0] 30:=by rw [← hqw1];have hnew:=bM (w.alloc (.cells #[.slice s1 n1 c1,.slice s2 n2 c2] 30)) [.slice none 0 0,.slice none 0 0] 30;(try simp only [World.size_alloc] at hnew);exact hnew
 have b1_0 : w1.cell? ⟨w.heap.size + 1,0,none⟩ = some (.slice none 0 0):=HQw1_1.cell 0 rfl
 have b1_1 : w1.cell? ⟨w.heap.size + 1,1,none⟩ = some (.slice none 0 0):=HQw1_1.cell 1 rfl
 have HRw1:=Lib.hid HQw1_1
 clear HQw1_1
 clear hqw1
 have hB : Blk w1 (w.heap.size + 1) [.slice none 0 0,.slice none 0 0] 30:=HRw1.out
 clear HRw1 b1_0 b1_1
 go_region_held3 (fun w'=>w'.cell? ⟨w.heap.size,0,none⟩ = some (.slice s1 n1 c1) ∧ w'.cell? ⟨w.heap.size,1,none⟩ = some (.slice s2 n2 c2)) (first|exact ⟨b0_0,b0_1⟩|exact ⟨ah (ah b0_0 (bj _)) (ay _ _),ah (ah b0_1 (bj _)) (ay _ _)⟩|exact ⟨g4_b0_0,g4_b0_1⟩|exact ⟨ah g4_b0_0 (ay _ _),ah g4_b0_1 (ay _ _)⟩|exact ⟨g7_b0_0,g7_b0_1⟩|exact ⟨ah g7_b0_0 (ay _ _),ah g7_b0_1 (ay _ _)⟩|go_keep)
  (first
   | (go_at_call 142; refine (lU _ _ _ _ _ (hR.below (by repeat' (first | (with_reducible exact Below.refl _ _) | (with_reducible assumption) | (with_reducible apply ap) | (with_reducible apply Below.alloc) | (with_reducible apply Below.drew) | (with_reducible apply aj) | (with_reducible refine Below.trans ?_ (Below.mono (by assumption) ?_)) | omega | (simp only [World.size_alloc, World.size_setCell, World.size_drew]; omega)))) hn2 HL.out).mono ?_; rintro e w4 ⟨s6, c6, vs, rfl, ho6, hb4⟩; have hq4 : Below w1.heap.size w1 w4 := (by repeat' (first | (with_reducible exact Below.refl _ _) | (with_reducible assumption) | (with_reducible apply ap) | (with_reducible apply Below.alloc) | (with_reducible apply Below.drew) | (with_reducible apply aj) | (with_reducible refine Below.trans ?_ (Below.mono (by assumption) ?_)) | omega | (simp only [World.size_alloc, World.size_setCell, World.size_drew]; omega))); have hz4 := hq4.size; (try simp only [World.size_alloc, World.size_setCell, World.size_drew] at hz4); have hw4 := hbw.trans (hq4.mono hbw.size); have g4_b0_0 := dE b0_0 hq4 (by omega); have g4_b0_1 := dE b0_1 hq4 (by omega); have hR4 := hB.bel hq4 (by omega); have r4_0 := hR4.cell 0 rfl; have y4_0 := hR4.free 0; have r4_1 := hR4.cell 1 rfl; have y4_1 := hR4.free 1)
   | ((refine fK (by rfl) _ _ (by rfl) _ (by rfl) (by rfl) (hI.below (by repeat' (first | (with_reducible exact Below.refl _ _) | (with_reducible assumption) | (with_reducible apply ap) | (with_reducible apply Below.alloc) | (with_reducible apply Below.drew) | (with_reducible apply aj) | (with_reducible refine Below.trans ?_ (Below.mono (by assumption) ?_)) | omega | (simp only [World.size_alloc, World.size_setCell, World.size_drew]; omega)))) hl1.1 hl1.2 ?_; intro s7 c7 w7 ho7 hb7; have hq7 : Below w1.heap.size w1 w7 := (by repeat' (first | (with_reducible exact Below.refl _ _) | (with_reducible assumption) | (with_reducible apply ap) | (with_reducible apply Below.alloc) | (with_reducible apply Below.drew) | (with_reducible apply aj) | (with_reducible refine Below.trans ?_ (Below.mono (by assumption) ?_)) | omega | (simp only [World.size_alloc, World.size_setCell, World.size_drew]; omega))); have hz7 := hq7.size; (try simp only [World.size_alloc, World.size_setCell, World.size_drew] at hz7); have hw7 := hbw.trans (hq7.mono hbw.size); have g7_b0_0 := dE b0_0 hq7 (by omega); have g7_b0_1 := dE b0_1 hq7 (by omega); have hR7 := hB.bel hq7 (by omega); have r7_0 := hR7.cell 0 rfl; have y7_0 := hR7.free 0; have r7_1 := hR7.cell 1 rfl; have y7_1 := hR7.free 1)))
 all_goals
  go_wp2_with fail
  refine bodyPost_ret (v:=.agg #[.slice s7 n1 c7,.slice s6 n2 c6]) (by simp [results,Try.results117,go_sem,r4_0,r4_1,y4_0,y4_1]) rfl ?_
  have k6:=ho6
  have k7:=ho7
  refine ⟨_,_,_,_,_,_,rfl,⟨_,_,vs,rfl,?_,?_,?_⟩,?_⟩
  · clear hw7 hw4 hq7 hq4 hbw
    exact ho7.final (by repeat' (first|(with_reducible exact bd.refl _ _ _)|(with_reducible apply bd.set)|(with_reducible apply bd.alloc)|(with_reducible apply bd.drew)|(with_reducible apply bd.drewN)|(with_reducible refine bd.below ?_ (by assumption))|omega|(simp only [World.size_alloc,World.size_setCell,World.size_drew];omega))) (by first|omega|(simp only [World.size_alloc,World.size_setCell,World.size_drew];omega))
  · clear hw7 hw4 hq7 hq4 hbw
    exact ho6.final (by repeat' (first|(with_reducible exact bd.refl _ _ _)|(with_reducible apply bd.set)|(with_reducible apply bd.alloc)|(with_reducible apply bd.drew)|(with_reducible apply bd.drewN)|(with_reducible refine bd.below ?_ (by assumption))|omega|(simp only [World.size_alloc,World.size_setCell,World.size_drew];omega))) (by first|omega|(simp only [World.size_alloc,World.size_setCell,World.size_drew];omega))
  · exact nodup_cons (m:=w7.heap.size) (lo:=0) (hi:=0) (fun g hg=>(aI.lt k7 g hg).2.2) (rH k6) k6.2.2.2
  · exact (by repeat' (first|(with_reducible exact Below.refl _ _)|(with_reducible assumption)|(with_reducible apply ap)|(with_reducible apply Below.alloc)|(with_reducible apply Below.drew)|(with_reducible apply aj)|(with_reducible refine Below.trans ?_ (Below.mono (by assumption) ?_))|omega|(simp only [World.size_alloc,World.size_setCell,World.size_drew];omega)))
set_option maxRecDepth 100000 in
set_option maxHeartbeats 4000000 in
theorem hZ (v : Value) (g : Pa) (w : World) (hP : IsP w v g) (hg : PaOk g) : Calls Try.prog 72 #[v] w (rC w g):=by
 obtain ⟨_,_,_,rfl,⟨s1,n1,c1,rfl,h1⟩,⟨s2,n2,c2,rfl,h2⟩,⟨s3,n3,c3,rfl,h3⟩⟩:=hP
 have hA : IsA w (.agg #[.slice s1 n1 c1,.slice s2 n2 c2]) g.ar:=⟨_,_,rfl,h1.is,h2.is⟩
 have hn1 : 0 < g.ar.own.length ∧ g.ar.own.length ≤ 1048576:=⟨hg.ar.pos,by have:=hg.ar.le;omega⟩
 have hn2 : g.ar.nxt.length ≤ 65536:=by have:=hg.ar.le;have:=hg.ar.len;omega
 have hl : ∀ k,k < g.ar.nxt.length → 0 < (gr g.ar.nxt k).length ∧ (gr g.ar.nxt k).length ≤ 1048576:=fun k hk=>by
  have h:=hg.ar.vert k (by have:=hg.ar.len;omega)
  exact ⟨by omega,by omega⟩
 have hl3 : 0 < n3 ∧ n3 ≤ 1048576:=by have:=h3.1;have:=hg.len;omega
 have HL:=Lib.hid hl
 clear hl
 go_enter Try.func72,Try.ntmps72
 go_wp2_with fail
 generalize hqw1 : (w.alloc (.cells #[.slice s1 n1 c1,.slice s2 n2 c2,.slice s3 n3 c3] 32)).alloc (.cells #[.slice none 0 0,.slice none 0 0,.slice none 0 0] 32) = w1
 have hbw : Below w.heap.size w w1:=by rw [← hqw1];exact (by repeat' (first|(with_reducible exact Below.refl _ _)|(with_reducible apply Below.alloc)|(with_reducible apply Below.drew)|(with_reducible apply aj)|omega|(simp only [World.size_alloc,World.size_setCell,World.size_drew];omega)))
 have hew1:=Lib.hid (show w1.heap.size = w.heap.size + 1 + 1 by rw [← hqw1];simp)
 have hsw : w.heap.size + 2 ≤ w1.heap.size:=by rw [← hqw1];simp only [World.size_alloc];omega
 have hswa : w.heap.size < w1.heap.size:=by omega
 have hswb : w.heap.size + 1 < w1.heap.size:=by omega
 have HQw1_0 : Blk w1 (w.heap.size) [.slice s1 n1 c1,.slice s2 n2 c2,.slice s3 n3 c3] 32:=by rw [← hqw1];have hnew:=bM w [.slice s1 n1 c1,.slice s2 n2 c2,.slice s3 n3 c3] 32;(try simp only [World.size_alloc] at hnew);exact (Blk.alloc hnew _)
 have b0_0 : w1.cell? ⟨w.heap.size,0,none⟩ = some (.slice s1 n1 c1):=HQw1_0.cell 0 rfl
 have b0_1 : w1.cell? ⟨w.heap.size,1,none⟩ = some (.slice s2 n2 c2):=HQw1_0.cell 1 rfl
 have b0_2 : w1.cell? ⟨w.heap.size,2,none⟩ = some (.slice s3 n3 c3):=HQw1_0.cell 2 rfl
 clear HQw1_0
 have HQw1_1 : Blk w1 (w.heap.size + 1) [.slice none 0 0,.slice none 0 0,.slice none 0 0] 32:=by rw [← hqw1];have hnew:=bM (w.alloc (.cells #[.slice s1 n1 c1,.slice s2 n2 c2,.slice s3 n3 c3] 32)) [.slice none 0 0,.slice none 0 0,.slice none 0 0] 32;(try simp only [World.size_alloc] at hnew);exact hnew
 have b1_0 : w1.cell? ⟨w.heap.size + 1,0,none⟩ = some (.slice none 0 0):=HQw1_1.cell 0 rfl
 have b1_1 : w1.cell? ⟨w.heap.size + 1,1,none⟩ = some (.slice none 0 0):=HQw1_1.cell 1 rfl
 have b1_2 : w1.cell? ⟨w.heap.size + 1,2,none⟩ = some (.slice none 0 0):=HQw1_1.cell 2 rfl
 have HRw1:=Lib.hid HQw1_1
 clear HQw1_1
 clear hqw1
 have hB : Blk w1 (w.heap.size + 1) [.slice none 0 0,.slice none 0 0,.slice none 0 0] 32:=HRw1.out
 clear HRw1 b1_0 b1_1 b1_2
 go_region_held3 (fun w'=>w'.cell? ⟨w.heap.size,0,none⟩ = some (.slice s1 n1 c1) ∧ w'.cell? ⟨w.heap.size,1,none⟩ = some (.slice s2 n2 c2) ∧ w'.cell? ⟨w.heap.size,2,none⟩ = some (.slice s3 n3 c3)) (first|exact ⟨b0_0,b0_1,b0_2⟩|exact ⟨ah (ah b0_0 (bj _)) (ay _ _),ah (ah b0_1 (bj _)) (ay _ _),ah (ah b0_2 (bj _)) (ay _ _)⟩|exact ⟨g4_b0_0,g4_b0_1,g4_b0_2⟩|exact ⟨ah g4_b0_0 (ay _ _),ah g4_b0_1 (ay _ _),ah g4_b0_2 (ay _ _)⟩|exact ⟨g7_b0_0,g7_b0_1,g7_b0_2⟩|exact ⟨ah g7_b0_0 (ay _ _),ah g7_b0_1 (ay _ _),ah g7_b0_2 (ay _ _)⟩|go_keep)
  (first
   | (go_at_call 117; refine (lV _ _ _ (hA.below (by repeat' (first | (with_reducible exact Below.refl _ _) | (with_reducible assumption) | (with_reducible apply ap) | (with_reducible apply Below.alloc) | (with_reducible apply Below.drew) | (with_reducible apply aj) | (with_reducible refine Below.trans ?_ (Below.mono (by assumption) ?_)) | omega | (simp only [World.size_alloc, World.size_setCell, World.size_drew]; omega)))) hn1 hn2 HL.out).mono ?_; rintro e w4 ⟨t1, m1, d1, t2, m2, d2, rfl, ho4, hb4⟩; have hq4 : Below w1.heap.size w1 w4 := (by repeat' (first | (with_reducible exact Below.refl _ _) | (with_reducible assumption) | (with_reducible apply ap) | (with_reducible apply Below.alloc) | (with_reducible apply Below.drew) | (with_reducible apply aj) | (with_reducible refine Below.trans ?_ (Below.mono (by assumption) ?_)) | omega | (simp only [World.size_alloc, World.size_setCell, World.size_drew]; omega))); have hz4 := hq4.size; (try simp only [World.size_alloc, World.size_setCell, World.size_drew] at hz4); have hw4 := hbw.trans (hq4.mono hbw.size); have g4_b0_0 := dE b0_0 hq4 (by omega); have g4_b0_1 := dE b0_1 hq4 (by omega); have g4_b0_2 := dE b0_2 hq4 (by omega); have hR4 := hB.bel hq4 (by omega); have r4_0 := hR4.cell 0 rfl; have y4_0 := hR4.free 0; have r4_1 := hR4.cell 1 rfl; have y4_1 := hR4.free 1; have r4_2 := hR4.cell 2 rfl; have y4_2 := hR4.free 2)
   | ((refine fK (by rfl) _ _ (by rfl) _ (by rfl) (by rfl) (h3.below (by repeat' (first | (with_reducible exact Below.refl _ _) | (with_reducible assumption) | (with_reducible apply ap) | (with_reducible apply Below.alloc) | (with_reducible apply Below.drew) | (with_reducible apply aj) | (with_reducible refine Below.trans ?_ (Below.mono (by assumption) ?_)) | omega | (simp only [World.size_alloc, World.size_setCell, World.size_drew]; omega)))) hl3.1 hl3.2 ?_; intro s7 c7 w7 ho7 hb7; have hq7 : Below w1.heap.size w1 w7 := (by repeat' (first | (with_reducible exact Below.refl _ _) | (with_reducible assumption) | (with_reducible apply ap) | (with_reducible apply Below.alloc) | (with_reducible apply Below.drew) | (with_reducible apply aj) | (with_reducible refine Below.trans ?_ (Below.mono (by assumption) ?_)) | omega | (simp only [World.size_alloc, World.size_setCell, World.size_drew]; omega))); have hz7 := hq7.size; (try simp only [World.size_alloc, World.size_setCell, World.size_drew] at hz7); have hw7 := hbw.trans (hq7.mono hbw.size); have g7_b0_0 := dE b0_0 hq7 (by omega); have g7_b0_1 := dE b0_1 hq7 (by omega); have g7_b0_2 := dE b0_2 hq7 (by omega); have hR7 := hB.bel hq7 (by omega); have r7_0 := hR7.cell 0 rfl; have y7_0 := hR7.free 0; have r7_1 := hR7.cell 1 rfl; have y7_1 := hR7.free 1; have r7_2 := hR7.cell 2 rfl; have y7_2 := hR7.free 2)))
 all_goals
  go_wp2_with fail
  refine bodyPost_ret (v:=.agg #[.slice t1 m1 d1,.slice t2 m2 d2,.slice s7 n3 c7]) (by simp [results,Try.results72,go_sem,r7_0,r7_1,r7_2,y7_0,y7_1,y7_2]) rfl ?_
  obtain ⟨_,_,vs,e,ha,hb,hd⟩:=ho4
  simp only [Value.agg.injEq,Array.mk.injEq,List.cons.injEq,and_true] at e
  obtain ⟨rfl,rfl⟩:=e
  have k7:=ho7
  have ka:=ha
  have kb:=hb
  clear hw7 hw4 hq7 hq4
  refine ⟨_,_,_,_,_,_,_,_,_,rfl,⟨_,_,_,vs,rfl,?_,?_,?_,?_⟩,?_⟩
  · clear hbw
    exact ha.final (by repeat' (first|(with_reducible exact bd.refl _ _ _)|(with_reducible apply bd.set)|(with_reducible apply bd.alloc)|(with_reducible apply bd.drew)|(with_reducible apply bd.drewN)|(with_reducible refine bd.below ?_ (by assumption))|omega|(simp only [World.size_alloc,World.size_setCell,World.size_drew];omega))) (by first|omega|(simp only [World.size_alloc,World.size_setCell,World.size_drew];omega))
  · clear hbw
    exact hb.final (by repeat' (first|(with_reducible exact bd.refl _ _ _)|(with_reducible apply bd.set)|(with_reducible apply bd.alloc)|(with_reducible apply bd.drew)|(with_reducible apply bd.drewN)|(with_reducible refine bd.below ?_ (by assumption))|omega|(simp only [World.size_alloc,World.size_setCell,World.size_drew];omega))) (by first|omega|(simp only [World.size_alloc,World.size_setCell,World.size_drew];omega))
  · clear hbw
    exact ho7.final (by repeat' (first|(with_reducible exact bd.refl _ _ _)|(with_reducible apply bd.set)|(with_reducible apply bd.alloc)|(with_reducible apply bd.drew)|(with_reducible apply bd.drewN)|(with_reducible refine bd.below ?_ (by assumption))|omega|(simp only [World.size_alloc,World.size_setCell,World.size_drew];omega))) (by first|omega|(simp only [World.size_alloc,World.size_setCell,World.size_drew];omega))
  · have:=iR (m:=w4.heap.size) (u:=.slice s7 n3 c7) (vs:=.slice t1 m1 d1 :: vs) (fun g hg=>by have:=(aI.lt k7 g hg).1;(try simp only [World.size_alloc,World.size_setCell,World.size_drew] at this);omega) (fun g hg=>by
     rcases List.mem_filterMap.1 hg with ⟨u,hu,e⟩
     rcases List.mem_cons.1 hu with rfl|hu
     · exact (aI.lt ka g e).2.2
     · exact nV kb g (List.mem_filterMap.2 ⟨u,hu,e⟩)) hd
    exact this.perm (List.Perm.filterMap _ (List.Perm.swap _ _ _))
  · exact (by repeat' (first|(with_reducible exact Below.refl _ _)|(with_reducible assumption)|(with_reducible apply ap)|(with_reducible apply Below.alloc)|(with_reducible apply Below.drew)|(with_reducible apply aj)|(with_reducible refine Below.trans ?_ (Below.mono (by assumption) ?_))|omega|(simp only [World.size_alloc,World.size_setCell,World.size_drew];omega)))
end Go.Proofs.Ytiadchinhofieaa
