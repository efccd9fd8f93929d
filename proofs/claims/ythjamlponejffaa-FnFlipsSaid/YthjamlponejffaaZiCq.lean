/-
  l7Of.
-/
import Derived.Test.YthjamlponejffaaZiCg
import Derived.Deep.RegionLaw
import Derived.Deep.OwnRows
import Derived.Test.YthjamlponejffaaZiCe
namespace Go.Proofs.Ythjamlponejffaa
set_option linter.unusedVariables false
set_option linter.unusedSimpArgs false
open Go.RowKit
attribute [local go_sem ↓] Go.wp_at_zero Go.wp_at_succ
def u3 (v : Value) (w : World) (g : Gm) (e : Ending) (w' : World) : Prop:=∃ vo vp vn vq vk vs,e = .returned (.agg #[vo,vp,vn,vq,vk]) ∧ v = .agg #[vo,vn,vp] ∧ IsI w' vo g.own ∧ IsI w' vp g.prio ∧ dT w' vn g.nxt ∧ bi w.heap.size w'.heap.size w' vq g.prev vs ∧ aM w.heap.size w'.heap.size w' vk g.pick ∧ (∀ b,blk vk = some b → ¬ b ∈ vs.filterMap blk) ∧ Below w.heap.size w w'
set_option maxRecDepth 100000 in
set_option maxHeartbeats 4000000 in
theorem sd (v : Value) (g : Pa) (w : World) (hP : IsP w v g) (hg : PaOk g) : Calls Try.prog 47 #[v] w (u3 v w (c9 g)):=by
 have hP0:=hP
 obtain ⟨_,_,_,rfl,⟨s1,n1,c1,rfl,h1⟩,⟨s2,n2,c2,rfl,h2⟩,⟨s3,n3,c3,rfl,h3⟩⟩:=hP
 have hm3:=h3.max
 obtain rfl:=h3.1
 have hn : g.prio.length ≤ 256:=by have:=hg.ar.le;have:=hg.len;omega
 have HN:=Lib.hid hn
 have HG:=Lib.hid hg
 clear hg
 go_enter Try.func47,Try.ntmps47
 go_wp2_with fail
 generalize hqw1 : (w.alloc (.cells #[.slice s1 n1 c1,.slice s2 n2 c2,.slice s3 g.prio.length c3] 32)).alloc (.cells #[.slice none 0 0,.slice none 0 0,.slice none 0 0,.slice none 0 0,.slice none 0 0] 72) = w1
 have hbw : Below w.heap.size w w1:=by rw [← hqw1];exact (by repeat' (first|(with_reducible exact Below.refl _ _)|(with_reducible apply Below.alloc)|(with_reducible apply Below.drew)|(with_reducible apply al)|omega|(simp only [World.size_alloc,World.size_setCell,World.size_drew];omega)))
 have hew1:=Lib.hid (show w1.heap.size = w.heap.size + 1 + 1 by rw [← hqw1];simp)
 have hsw : w.heap.size + 2 ≤ w1.heap.size:=by rw [← hqw1];simp only [World.size_alloc];omega
 have hswa : w.heap.size < w1.heap.size:=by omega
 have hswb : w.heap.size + 1 < w1.heap.size:=by omega
 have HQw1_0 : Blk w1 (w.heap.size) [.slice s1 n1 c1,.slice s2 n2 c2,.slice s3 g.prio.length c3] 32:=by rw [← hqw1];have hnew:=dE w [.slice s1 n1 c1,.slice s2 n2 c2,.slice s3 g.prio.length c3] 32;(try simp only [World.size_alloc] at hnew);exact (Blk.alloc hnew _)
 have b0_0 : w1.cell? ⟨w.heap.size,0,none⟩ = some (.slice s1 n1 c1):=HQw1_0.cell 0 rfl
 have b0_1 : w1.cell? ⟨w.heap.size,1,none⟩ = some (.slice s2 n2 c2):=HQw1_0.cell 1 rfl
 have b0_2 : w1.cell? ⟨w.heap.size,2,none⟩ = some (.slice s3 g.prio.length c3):=HQw1_0.cell 2 rfl
 clear HQw1_0
 have HQw1_1 : Blk w1 (w.heap.size + 1) [.slice none 0 0,.slice none 0 0,.slice none 0 0,.slice none 0 0,.slice none 0 0] 72:=by rw [← hqw1];have hnew:=dE (w.alloc (.cells #[.slice s1 n1 c1,.slice s2 n2 c2,.slice s3 g.prio.length c3] 32)) [.slice none 0 0,.slice none 0 0,.slice none 0 0,.slice none 0 0,.slice none 0 0] 72;(try simp only [World.size_alloc] at hnew);exact hnew
 have b1_0 : w1.cell? ⟨w.heap.size + 1,0,none⟩ = some (.slice none 0 0):=HQw1_1.cell 0 rfl
 have b1_1 : w1.cell? ⟨w.heap.size + 1,1,none⟩ = some (.slice none 0 0):=HQw1_1.cell 1 rfl
 have b1_2 : w1.cell? ⟨w.heap.size + 1,2,none⟩ = some (.slice none 0 0):=HQw1_1.cell 2 rfl
 have b1_3 : w1.cell? ⟨w.heap.size + 1,3,none⟩ = some (.slice none 0 0):=HQw1_1.cell 3 rfl
 have b1_4 : w1.cell? ⟨w.heap.size + 1,4,none⟩ = some (.slice none 0 0):=HQw1_1.cell 4 rfl
 have HRw1:=Lib.hid HQw1_1
 clear HQw1_1
 clear hqw1
 have hR : Blk w1 (w.heap.size + 1) [.slice none 0 0,.slice none 0 0,.slice none 0 0,.slice none 0 0,.slice none 0 0] 72:=HRw1.out
 clear HRw1 b1_0 b1_1 b1_2 b1_3 b1_4
 obtain ⟨L,hL⟩ : ∃ L,L = w1.heap.size:=⟨_,rfl⟩
 have hmk1:=run_make_row' (P:=Try.prog) 22 2 (.int .i64 0) 8 Try.underlying22 Try.infoI rfl .i64 .i64 g.prio.length (by omega) (by omega)
 have hmk2:=run_make_row' (P:=Try.prog) 23 22 (.slice none 0 0) 24 Try.underlying23 Try.infoS rfl .i64 .i64 g.prio.length (by omega) (by omega)
 go_region_held3 (fun w'=>w'.cell? ⟨w.heap.size,0,none⟩ = some (.slice s1 n1 c1) ∧ w'.cell? ⟨w.heap.size,1,none⟩ = some (.slice s2 n2 c2) ∧ w'.cell? ⟨w.heap.size,2,none⟩ = some (.slice s3 g.prio.length c3)) (exact ⟨cg b0_0 (by repeat' (first|(with_reducible exact Below.refl _ _)|(with_reducible assumption)|(with_reducible apply ao)|(with_reducible apply Below.alloc)|(with_reducible apply Below.drew)|(with_reducible apply al)|(with_reducible refine Below.trans ?_ (Below.mono (by assumption) ?_))|omega|(simp only [World.size_alloc,World.size_setCell,World.size_drew];omega))),cg b0_1 (by repeat' (first|(with_reducible exact Below.refl _ _)|(with_reducible assumption)|(with_reducible apply ao)|(with_reducible apply Below.alloc)|(with_reducible apply Below.drew)|(with_reducible apply al)|(with_reducible refine Below.trans ?_ (Below.mono (by assumption) ?_))|omega|(simp only [World.size_alloc,World.size_setCell,World.size_drew];omega))),cg b0_2 (by repeat' (first|(with_reducible exact Below.refl _ _)|(with_reducible assumption)|(with_reducible apply ao)|(with_reducible apply Below.alloc)|(with_reducible apply Below.drew)|(with_reducible apply al)|(with_reducible refine Below.trans ?_ (Below.mono (by assumption) ?_))|omega|(simp only [World.size_alloc,World.size_setCell,World.size_drew];omega)))⟩) (fail)
 all_goals clear hmk1 hmk2
 all_goals
  first
  | (refine dO (F := fun W => Mk L (fun gq gk => [.slice s1 n1 c1, .slice s3 g.prio.length c3, .slice s2 n2 c2, .slice (some ⟨gq, 0, none⟩) g.prio.length g.prio.length, .slice (some ⟨gk, 0, none⟩) g.prio.length g.prio.length]) g.prio.length (w1.heap.size) (w1.heap.size + 1) (w1.heap.size + 1 + 1) (dB g.prio.length fun u => bK g.ar.nxt u 0) (tab g.prio.length fun j => if j < 0 then -1 else 0) (List.replicate g.prio.length (.slice none 0 0)) W ∧ Below L w1 W) ?_ ?_
     · refine ⟨⟨?_,?_,?_,?_,?_,?_,?_,?_,?_,?_,?_⟩,?_⟩
       · first|exact (bT (by simp)).drew|exact ((bT (by simp)).alloc _).drew|exact (((bT (by simp)).alloc _).alloc _).drew
       · first|exact (bi.drew (bV (by simp) (by omega) (by omega))).top|exact (bi.drew (bi.alloc (bV (by simp) (by omega) (by omega)) _)).top|exact (bi.drew (bi.alloc (bi.alloc (bV (by simp) (by omega) (by omega)) _) _)).top
       · rw [ci (g:=fun _=>(0 : Int)) (fun j hj=>if_neg (by omega))];first|exact aM.top (aE.drew (bU (by simp) (by omega) (by omega)))|exact aM.top (aE.drew (aE.alloc (bU (by simp) (by omega) (by omega)) _))|exact aM.top (aE.drew (aE.alloc (aE.alloc (bU (by simp) (by omega) (by omega)) _) _))
       · rw [dP];intro g hg;cases hg
       · omega
       · omega
       · omega
       · omega
       · omega
       · omega
       · exact (by first|omega|(simp only [World.size_alloc,World.size_setCell,World.size_drew];omega))
       · exact (by repeat' (first|(with_reducible exact Below.refl _ _)|(with_reducible assumption)|(with_reducible apply ao)|(with_reducible apply Below.alloc)|(with_reducible apply Below.drew)|(with_reducible apply al)|(with_reducible refine Below.trans ?_ (Below.mono (by assumption) ?_))|omega|(simp only [World.size_alloc,World.size_setCell,World.size_drew];omega)))
     intro W;generalize w1.heap.size + 1 + 1 = gk;generalize w1.heap.size + 1 = gq;generalize w1.heap.size = p4;rintro ⟨hM,hb⟩)
  | (refine dO (F := fun W => Mk L (fun gq gk => [.slice s1 n1 c1, .slice s3 g.prio.length c3, .slice s2 n2 c2, .slice (some ⟨gq, 0, none⟩) g.prio.length g.prio.length, .slice (some ⟨gk, 0, none⟩) g.prio.length g.prio.length]) g.prio.length (w1.heap.size) (w1.heap.size + 1 + 1) (w1.heap.size + 1) (dB g.prio.length fun u => bK g.ar.nxt u 0) (tab g.prio.length fun j => if j < 0 then -1 else 0) (List.replicate g.prio.length (.slice none 0 0)) W ∧ Below L w1 W) ?_ ?_
     · refine ⟨⟨?_,?_,?_,?_,?_,?_,?_,?_,?_,?_,?_⟩,?_⟩
       · first|exact (bT (by simp)).drew|exact ((bT (by simp)).alloc _).drew|exact (((bT (by simp)).alloc _).alloc _).drew
       · first|exact (bi.drew (bV (by simp) (by omega) (by omega))).top|exact (bi.drew (bi.alloc (bV (by simp) (by omega) (by omega)) _)).top|exact (bi.drew (bi.alloc (bi.alloc (bV (by simp) (by omega) (by omega)) _) _)).top
       · rw [ci (g:=fun _=>(0 : Int)) (fun j hj=>if_neg (by omega))];first|exact aM.top (aE.drew (bU (by simp) (by omega) (by omega)))|exact aM.top (aE.drew (aE.alloc (bU (by simp) (by omega) (by omega)) _))|exact aM.top (aE.drew (aE.alloc (aE.alloc (bU (by simp) (by omega) (by omega)) _) _))
       · rw [dP];intro g hg;cases hg
       · omega
       · omega
       · omega
       · omega
       · omega
       · omega
       · exact (by first|omega|(simp only [World.size_alloc,World.size_setCell,World.size_drew];omega))
       · exact (by repeat' (first|(with_reducible exact Below.refl _ _)|(with_reducible assumption)|(with_reducible apply ao)|(with_reducible apply Below.alloc)|(with_reducible apply Below.drew)|(with_reducible apply al)|(with_reducible refine Below.trans ?_ (Below.mono (by assumption) ?_))|omega|(simp only [World.size_alloc,World.size_setCell,World.size_drew];omega)))
     intro W;generalize w1.heap.size + 1 + 1 = gq;generalize w1.heap.size + 1 = gk;generalize w1.heap.size = p4;rintro ⟨hM,hb⟩)
  | (refine dO (F := fun W => Mk L (fun gq gk => [.slice s1 n1 c1, .slice s3 g.prio.length c3, .slice s2 n2 c2, .slice (some ⟨gq, 0, none⟩) g.prio.length g.prio.length, .slice (some ⟨gk, 0, none⟩) g.prio.length g.prio.length]) g.prio.length (w1.heap.size + 1) (w1.heap.size) (w1.heap.size + 1 + 1) (dB g.prio.length fun u => bK g.ar.nxt u 0) (tab g.prio.length fun j => if j < 0 then -1 else 0) (List.replicate g.prio.length (.slice none 0 0)) W ∧ Below L w1 W) ?_ ?_
     · refine ⟨⟨?_,?_,?_,?_,?_,?_,?_,?_,?_,?_,?_⟩,?_⟩
       · first|exact (bT (by simp)).drew|exact ((bT (by simp)).alloc _).drew|exact (((bT (by simp)).alloc _).alloc _).drew
       · first|exact (bi.drew (bV (by simp) (by omega) (by omega))).top|exact (bi.drew (bi.alloc (bV (by simp) (by omega) (by omega)) _)).top|exact (bi.drew (bi.alloc (bi.alloc (bV (by simp) (by omega) (by omega)) _) _)).top
       · rw [ci (g:=fun _=>(0 : Int)) (fun j hj=>if_neg (by omega))];first|exact aM.top (aE.drew (bU (by simp) (by omega) (by omega)))|exact aM.top (aE.drew (aE.alloc (bU (by simp) (by omega) (by omega)) _))|exact aM.top (aE.drew (aE.alloc (aE.alloc (bU (by simp) (by omega) (by omega)) _) _))
       · rw [dP];intro g hg;cases hg
       · omega
       · omega
       · omega
       · omega
       · omega
       · omega
       · exact (by first|omega|(simp only [World.size_alloc,World.size_setCell,World.size_drew];omega))
       · exact (by repeat' (first|(with_reducible exact Below.refl _ _)|(with_reducible assumption)|(with_reducible apply ao)|(with_reducible apply Below.alloc)|(with_reducible apply Below.drew)|(with_reducible apply al)|(with_reducible refine Below.trans ?_ (Below.mono (by assumption) ?_))|omega|(simp only [World.size_alloc,World.size_setCell,World.size_drew];omega)))
     intro W;generalize w1.heap.size + 1 + 1 = gk;generalize w1.heap.size + 1 = p4;generalize w1.heap.size = gq;rintro ⟨hM,hb⟩)
  | (refine dO (F := fun W => Mk L (fun gq gk => [.slice s1 n1 c1, .slice s3 g.prio.length c3, .slice s2 n2 c2, .slice (some ⟨gq, 0, none⟩) g.prio.length g.prio.length, .slice (some ⟨gk, 0, none⟩) g.prio.length g.prio.length]) g.prio.length (w1.heap.size + 1 + 1) (w1.heap.size) (w1.heap.size + 1) (dB g.prio.length fun u => bK g.ar.nxt u 0) (tab g.prio.length fun j => if j < 0 then -1 else 0) (List.replicate g.prio.length (.slice none 0 0)) W ∧ Below L w1 W) ?_ ?_
     · refine ⟨⟨?_,?_,?_,?_,?_,?_,?_,?_,?_,?_,?_⟩,?_⟩
       · first|exact (bT (by simp)).drew|exact ((bT (by simp)).alloc _).drew|exact (((bT (by simp)).alloc _).alloc _).drew
       · first|exact (bi.drew (bV (by simp) (by omega) (by omega))).top|exact (bi.drew (bi.alloc (bV (by simp) (by omega) (by omega)) _)).top|exact (bi.drew (bi.alloc (bi.alloc (bV (by simp) (by omega) (by omega)) _) _)).top
       · rw [ci (g:=fun _=>(0 : Int)) (fun j hj=>if_neg (by omega))];first|exact aM.top (aE.drew (bU (by simp) (by omega) (by omega)))|exact aM.top (aE.drew (aE.alloc (bU (by simp) (by omega) (by omega)) _))|exact aM.top (aE.drew (aE.alloc (aE.alloc (bU (by simp) (by omega) (by omega)) _) _))
       · rw [dP];intro g hg;cases hg
       · omega
       · omega
       · omega
       · omega
       · omega
       · omega
       · exact (by first|omega|(simp only [World.size_alloc,World.size_setCell,World.size_drew];omega))
       · exact (by repeat' (first|(with_reducible exact Below.refl _ _)|(with_reducible assumption)|(with_reducible apply ao)|(with_reducible apply Below.alloc)|(with_reducible apply Below.drew)|(with_reducible apply al)|(with_reducible refine Below.trans ?_ (Below.mono (by assumption) ?_))|omega|(simp only [World.size_alloc,World.size_setCell,World.size_drew];omega)))
     intro W;generalize w1.heap.size + 1 + 1 = p4;generalize w1.heap.size + 1 = gk;generalize w1.heap.size = gq;rintro ⟨hM,hb⟩)
  | (refine dO (F := fun W => Mk L (fun gq gk => [.slice s1 n1 c1, .slice s3 g.prio.length c3, .slice s2 n2 c2, .slice (some ⟨gq, 0, none⟩) g.prio.length g.prio.length, .slice (some ⟨gk, 0, none⟩) g.prio.length g.prio.length]) g.prio.length (w1.heap.size + 1) (w1.heap.size + 1 + 1) (w1.heap.size) (dB g.prio.length fun u => bK g.ar.nxt u 0) (tab g.prio.length fun j => if j < 0 then -1 else 0) (List.replicate g.prio.length (.slice none 0 0)) W ∧ Below L w1 W) ?_ ?_
     · refine ⟨⟨?_,?_,?_,?_,?_,?_,?_,?_,?_,?_,?_⟩,?_⟩
       · first|exact (bT (by simp)).drew|exact ((bT (by simp)).alloc _).drew|exact (((bT (by simp)).alloc _).alloc _).drew
       · first|exact (bi.drew (bV (by simp) (by omega) (by omega))).top|exact (bi.drew (bi.alloc (bV (by simp) (by omega) (by omega)) _)).top|exact (bi.drew (bi.alloc (bi.alloc (bV (by simp) (by omega) (by omega)) _) _)).top
       · rw [ci (g:=fun _=>(0 : Int)) (fun j hj=>if_neg (by omega))];first|exact aM.top (aE.drew (bU (by simp) (by omega) (by omega)))|exact aM.top (aE.drew (aE.alloc (bU (by simp) (by omega) (by omega)) _))|exact aM.top (aE.drew (aE.alloc (aE.alloc (bU (by simp) (by omega) (by omega)) _) _))
       · rw [dP];intro g hg;cases hg
       · omega
       · omega
       · omega
       · omega
       · omega
       · omega
       · exact (by first|omega|(simp only [World.size_alloc,World.size_setCell,World.size_drew];omega))
       · exact (by repeat' (first|(with_reducible exact Below.refl _ _)|(with_reducible assumption)|(with_reducible apply ao)|(with_reducible apply Below.alloc)|(with_reducible apply Below.drew)|(with_reducible apply al)|(with_reducible refine Below.trans ?_ (Below.mono (by assumption) ?_))|omega|(simp only [World.size_alloc,World.size_setCell,World.size_drew];omega)))
     intro W;generalize w1.heap.size + 1 + 1 = gq;generalize w1.heap.size + 1 = p4;generalize w1.heap.size = gk;rintro ⟨hM,hb⟩)
  | (refine dO (F := fun W => Mk L (fun gq gk => [.slice s1 n1 c1, .slice s3 g.prio.length c3, .slice s2 n2 c2, .slice (some ⟨gq, 0, none⟩) g.prio.length g.prio.length, .slice (some ⟨gk, 0, none⟩) g.prio.length g.prio.length]) g.prio.length (w1.heap.size + 1 + 1) (w1.heap.size + 1) (w1.heap.size) (dB g.prio.length fun u => bK g.ar.nxt u 0) (tab g.prio.length fun j => if j < 0 then -1 else 0) (List.replicate g.prio.length (.slice none 0 0)) W ∧ Below L w1 W) ?_ ?_
     · refine ⟨⟨?_,?_,?_,?_,?_,?_,?_,?_,?_,?_,?_⟩,?_⟩
       · first|exact (bT (by simp)).drew|exact ((bT (by simp)).alloc _).drew|exact (((bT (by simp)).alloc _).alloc _).drew
       · first|exact (bi.drew (bV (by simp) (by omega) (by omega))).top|exact (bi.drew (bi.alloc (bV (by simp) (by omega) (by omega)) _)).top|exact (bi.drew (bi.alloc (bi.alloc (bV (by simp) (by omega) (by omega)) _) _)).top
       · rw [ci (g:=fun _=>(0 : Int)) (fun j hj=>if_neg (by omega))];first|exact aM.top (aE.drew (bU (by simp) (by omega) (by omega)))|exact aM.top (aE.drew (aE.alloc (bU (by simp) (by omega) (by omega)) _))|exact aM.top (aE.drew (aE.alloc (aE.alloc (bU (by simp) (by omega) (by omega)) _) _))
       · rw [dP];intro g hg;cases hg
       · omega
       · omega
       · omega
       · omega
       · omega
       · omega
       · exact (by first|omega|(simp only [World.size_alloc,World.size_setCell,World.size_drew];omega))
       · exact (by repeat' (first|(with_reducible exact Below.refl _ _)|(with_reducible assumption)|(with_reducible apply ao)|(with_reducible apply Below.alloc)|(with_reducible apply Below.drew)|(with_reducible apply al)|(with_reducible refine Below.trans ?_ (Below.mono (by assumption) ?_))|omega|(simp only [World.size_alloc,World.size_setCell,World.size_drew];omega)))
     intro W;generalize w1.heap.size + 1 + 1 = p4;generalize w1.heap.size + 1 = gq;generalize w1.heap.size = gk;rintro ⟨hM,hb⟩)
  go_wp2_with fail
  go_loopw [5,6,7] (fun v5 _ _ wr=>∃ (k : Nat) (vs : List Value),k ≤ g.prio.length ∧ v5 = .int .i64 k ∧ Mk L (fun gq gk=>[.slice s1 n1 c1,.slice s3 g.prio.length c3,.slice s2 n2 c2,.slice (some ⟨gq,0,none⟩) g.prio.length g.prio.length,.slice (some ⟨gk,0,none⟩) g.prio.length g.prio.length]) g.prio.length p4 gq gk (dB g.prio.length fun u=>bK g.ar.nxt u k) (tab g.prio.length fun j=>if j < k then -1 else 0) vs wr ∧ Below L w1 wr) (fun v5 _ _ _=>g.prio.length - (intOf v5).toNat)
  case atStart=>exact ⟨0,_,by omega,rfl,hM,hb⟩
  case round =>
   clear hM hb
   obtain ⟨k,vs,hk,rfl,hM,hb⟩:=hrel
   have c0_0:=b0_0
   replace b0_0:=cg b0_0 (by rw [hL] at hb;exact hb)
   have c0_1:=b0_1
   replace b0_1:=cg b0_1 (by rw [hL] at hb;exact hb)
   have c0_2:=b0_2
   replace b0_2:=cg b0_2 (by rw [hL] at hb;exact hb)
   have f0:=hM.blk.cell 0 rfl
   have f1:=hM.blk.cell 1 rfl
   have f2:=hM.blk.cell 2 rfl
   have f3:=hM.blk.cell 3 rfl
   have f4:=hM.blk.cell 4 rfl
   replace hR:=hR.bel hb (by omega)
   by_cases hlt : k < g.prio.length
   · obtain ⟨q1,q2,q3,q4⟩:=hM.pick.cell hlt
     have hlk : k < g.ar.own.length:=by rw [← HG.out.len];exact hlt
     obtain ⟨_,_,hr1,hr2,hr3⟩:=HG.out.ar.vert k hlk
     have hlt2 : k < n2:=by have:=h2.1;have:=HG.out.ar.len;omega
     obtain ⟨bb,ob,rfl,hbb,A,La,C,hcb⟩:=h2.get hlt2
     obtain ⟨hcb1,hIr⟩:=hcb k hlt2
     clear hcb
     have hM2:=(hM.setPick k (-1)).cast (xss':=dB g.prio.length fun u=>bK g.ar.nxt u k ++ bY (gr g.ar.nxt k) k u 0) (pk':=tab g.prio.length fun j=>if j < k + 1 then -1 else 0) (fZ fun u _=>by simp [bY]) (by rw [mD hlt];exact ci fun j _=>by by_cases e : j = k <;> by_cases e2 : j < k <;> simp [e,e2] <;> omega)
     have hb2 : Below L w1 (wr.setCell ⟨gk,k,none⟩ (.int .i64 (-1))):=ao hb hM.bk.1 _
     go_wp2_with fail
     have hLk:=hIr.1
     go_loopw [6,7] (fun v6 _ wr=>∃ (i : Nat) (vs : List Value),i ≤ La k ∧ v6 = .int .i64 i ∧ Mk L (fun gq gk=>[.slice s1 n1 c1,.slice s3 g.prio.length c3,.slice (some ⟨bb,ob,none⟩) n2 c2,.slice (some ⟨gq,0,none⟩) g.prio.length g.prio.length,.slice (some ⟨gk,0,none⟩) g.prio.length g.prio.length]) g.prio.length p4 gq gk (dB g.prio.length fun u=>bK g.ar.nxt u k ++ bY (gr g.ar.nxt k) k u i) (tab g.prio.length fun j=>if j < k + 1 then -1 else 0) vs wr ∧ Below L w1 wr) (fun v6 _ _=>La k - (intOf v6).toNat)
     case atStart=>exact ⟨0,_,by omega,rfl,hM2,hb2⟩
     case round =>
      clear hM2 hb2 f0 f1 f2 f3 f4 hM
      obtain ⟨i,vs,hi,rfl,hM,hb'⟩:=hrel
      have hsz:=hb.size
      have hbq : Below w.heap.size w wr:=hbw.trans (hb'.mono (by omega))
      have B0:=fQ c0_0 hb' (by omega)
      have B1:=fQ c0_1 hb' (by omega)
      have B2:=fQ c0_2 hb' (by omega)
      have f0:=hM.blk.cell 0 rfl
      have f3:=hM.blk.cell 3 rfl
      have hck:=cg hcb1 hbq
      by_cases hil : i < La k
      · obtain ⟨b5,o5,e5,hb5,hc5⟩:=(hIr.below hbq).get hil
        have hc5i:=hc5 i hil
        clear hc5
        rw [e5] at hck
        obtain ⟨hu0,hu1,_⟩:=hr3 i (by omega)
        have hu : (gi (gr g.ar.nxt k) i).toNat < g.prio.length:=by have:=HG.out.len;omega
        have hu1' : gi (gr g.ar.nxt k) i < (g.prio.length : Int):=by have:=HG.out.len;omega
        have hux : (gi (gr g.ar.nxt k) i).toNat < (dB g.prio.length fun u=>bK g.ar.nxt u k ++ bY (gr g.ar.nxt k) k u i).length:=by rw [iN];exact hu
        obtain ⟨x1,x2,x3⟩:=hM.cell hux
        have hf3 : ∀ o,(wr.alloc o).cell? ⟨p4,3,none⟩ = some (.slice (some ⟨gq,0,none⟩) g.prio.length g.prio.length):=fun o=>cg f3 (aD _ _)
        have hx1 : ∀ o,(wr.alloc o).cell? ⟨gq,(gi (gr g.ar.nxt k) i).toNat,none⟩ = some (vs.getD (gi (gr g.ar.nxt k) i).toNat (.slice none 0 0)):=fun o=>cg x1 (aD _ _)
        have hRow:=hM.own.2.2.1 _ hux
        have hlen : (gr (dB g.prio.length fun u=>bK g.ar.nxt u k ++ bY (gr g.ar.nxt k) k u i) (gi (gr g.ar.nxt k) i).toNat).length ≤ 1048576:=by
         rw [dK _ hu,List.length_append]
         have p1:=iO (nxt:=g.ar.nxt) (m:=16) (gi (gr g.ar.nxt k) i).toNat k (fun j hj=>(HG.out.ar.vert j (by omega)).2.2.2.1)
         have p2:=gX (gr g.ar.nxt k) k (gi (gr g.ar.nxt k) i).toNat i
         omega
        have HGR:=Lib.hid hlen
        have hszL:=hM.sz
        obtain ⟨hbq1,hbq2⟩:=hM.bq
        have hszL' : L ≤ wr.heap.size:=by omega
        clear hlen
        go_wp2_with fail
        go_region_law (refine kk (by rfl) _ _ (by rfl) (by rfl) (aE.below hRow (by repeat' (first|(with_reducible exact Below.refl _ _)|(with_reducible assumption)|(with_reducible apply ao)|(with_reducible apply Below.alloc)|(with_reducible apply Below.drew)|(with_reducible apply al)|(with_reducible refine Below.trans ?_ (Below.mono (by assumption) ?_))|omega|(simp only [World.size_alloc,World.size_setCell,World.size_drew];omega)))) (k : Int) _ _ (by rfl) (by simp) HGR.out (by simp;have:=hM.sz;omega) ?_;intro sa c' w5 h5 g5 f5;have hsz5:=g5.size;obtain ⟨m1,m2,m3⟩:=(hM.below (by repeat' (first|(with_reducible exact Below.refl _ _)|(with_reducible assumption)|(with_reducible apply ao)|(with_reducible apply Below.alloc)|(with_reducible apply Below.drew)|(with_reducible apply al)|(with_reducible refine Below.trans ?_ (Below.mono (by assumption) ?_))|omega|(simp only [World.size_alloc,World.size_setCell,World.size_drew];omega)))).mid hux g5;have hA5:=(hM.below (by repeat' (first|(with_reducible exact Below.refl _ _)|(with_reducible assumption)|(with_reducible apply ao)|(with_reducible apply Below.alloc)|(with_reducible apply Below.drew)|(with_reducible apply al)|(with_reducible refine Below.trans ?_ (Below.mono (by assumption) ?_))|omega|(simp only [World.size_alloc,World.size_setCell,World.size_drew];omega)))).app hux h5 g5 f5;obtain ⟨z1,z2,z3⟩:=Mk.cell2 m2 (u:=(gi (gr g.ar.nxt k) i).toNat) (by rw [hM.own.1];exact hux);have z4 : w5.cell? ⟨p4,3,none⟩ = some (.slice (some ⟨gq,0,none⟩) g.prio.length g.prio.length):=m1.cell 3 rfl;have hb6 : Below L w1 w5:=Below.grown (by exact (by repeat' (first|(with_reducible exact Below.refl _ _)|(with_reducible assumption)|(with_reducible apply ao)|(with_reducible apply Below.alloc)|(with_reducible apply Below.drew)|(with_reducible apply al)|(with_reducible refine Below.trans ?_ (Below.mono (by assumption) ?_))|omega|(simp only [World.size_alloc,World.size_setCell,World.size_drew];omega)))) g5 (by simp;have:=hM.sz;omega) (fun x hx=>(aM.blks hRow x hx).1))
        all_goals
         go_wp2_with fail
         go_roundw
        all_goals (first|(case rel=>exact ⟨i + 1,_,by omega,by go_num,(Mk.below hA5 (by repeat' (first|(with_reducible exact Below.refl _ _)|(with_reducible assumption)|(with_reducible apply ao)|(with_reducible apply Below.alloc)|(with_reducible apply Below.drew)|(with_reducible apply al)|(with_reducible refine Below.trans ?_ (Below.mono (by assumption) ?_))|omega|(simp only [World.size_alloc,World.size_setCell,World.size_drew];omega)))).cast (jF hu) rfl,(by repeat' (first|(with_reducible exact Below.refl _ _)|(with_reducible assumption)|(with_reducible apply ao)|(with_reducible apply Below.alloc)|(with_reducible apply Below.drew)|(with_reducible apply al)|(with_reducible refine Below.trans ?_ (Below.mono (by assumption) ?_))|omega|(simp only [World.size_alloc,World.size_setCell,World.size_drew];omega)))⟩)|(case measure=>simp [intOf];omega)|skip)
        all_goals (first|(case rel=>exact ⟨i + 1,_,by omega,by go_num,(Mk.below hA5 (by repeat' (first|(with_reducible exact Below.refl _ _)|(with_reducible assumption)|(with_reducible apply ao)|(with_reducible apply Below.alloc)|(with_reducible apply Below.drew)|(with_reducible apply al)|(with_reducible refine Below.trans ?_ (Below.mono (by assumption) ?_))|omega|(simp only [World.size_alloc,World.size_setCell,World.size_drew];omega)))).cast (jF hu) rfl,(by repeat' (first|(with_reducible exact Below.refl _ _)|(with_reducible assumption)|(with_reducible apply ao)|(with_reducible apply Below.alloc)|(with_reducible apply Below.drew)|(with_reducible apply al)|(with_reducible refine Below.trans ?_ (Below.mono (by assumption) ?_))|omega|(simp only [World.size_alloc,World.size_setCell,World.size_drew];omega)))⟩)|(case measure=>simp [intOf];omega)|skip)
      · have ei : i = La k:=by omega
        go_wp2_with fail
        go_roundw
        case rel=>exact ⟨k + 1,vs,by omega,by go_num,hM.cast (fZ fun u _=>by rw [ei,← hLk];rfl) rfl,hb'⟩
        case measure=>simp [intOf];omega
   · have r0:=hR.cell 0 rfl
     have r1:=hR.cell 1 rfl
     have r2:=hR.cell 2 rfl
     have r3:=hR.cell 3 rfl
     have r4:=hR.cell 4 rfl
     have y0:=hR.free 0
     have y1:=hR.free 1
     have y2:=hR.free 2
     have y3:=hR.free 3
     have y4:=hR.free 4
     have e : k = g.prio.length:=by omega
     have hMe:=hM.cast (xss':=(c9 g).prev) (pk':=(c9 g).pick) (by rw [e];rfl) (ci fun j hj=>if_pos (by omega))
     have hsz:=hb.size
     go_wp2_with fail
     refine bodyPost_ret (v:=.agg #[.slice s1 n1 c1,.slice s3 g.prio.length c3,.slice s2 n2 c2,.slice (some ⟨gq,0,none⟩) g.prio.length g.prio.length,.slice (some ⟨gk,0,none⟩) g.prio.length g.prio.length]) (by simp [results,Try.results47,go_sem,r0,r1,r2,r3,r4,y0,y1,y2,y3,y4]) rfl ?_
     have hbl:=hM.bk
     refine ⟨_,_,_,_,_,vs,rfl,rfl,h1.is.below (by repeat' (first|(with_reducible exact Below.refl _ _)|(with_reducible assumption)|(with_reducible apply ao)|(with_reducible apply Below.alloc)|(with_reducible apply Below.drew)|(with_reducible apply al)|(with_reducible refine Below.trans ?_ (Below.mono (by assumption) ?_))|omega|(simp only [World.size_alloc,World.size_setCell,World.size_drew];omega))),h3.is.below (by repeat' (first|(with_reducible exact Below.refl _ _)|(with_reducible assumption)|(with_reducible apply ao)|(with_reducible apply Below.alloc)|(with_reducible apply Below.drew)|(with_reducible apply al)|(with_reducible refine Below.trans ?_ (Below.mono (by assumption) ?_))|omega|(simp only [World.size_alloc,World.size_setCell,World.size_drew];omega))),h2.is.below (by repeat' (first|(with_reducible exact Below.refl _ _)|(with_reducible assumption)|(with_reducible apply ao)|(with_reducible apply Below.alloc)|(with_reducible apply Below.drew)|(with_reducible apply al)|(with_reducible refine Below.trans ?_ (Below.mono (by assumption) ?_))|omega|(simp only [World.size_alloc,World.size_setCell,World.size_drew];omega))),hMe.own.final (by repeat' (first|(with_reducible exact bQ.refl _ _ _)|(with_reducible apply bQ.set)|(with_reducible apply bQ.alloc)|(with_reducible apply bQ.drew)|(with_reducible apply bQ.drewN)|(with_reducible refine bQ.below ?_ (by assumption))|omega|(simp only [World.size_alloc,World.size_setCell,World.size_drew];omega))) (by omega),aM.final hMe.pick (by repeat' (first|(with_reducible exact bQ.refl _ _ _)|(with_reducible apply bQ.set)|(with_reducible apply bQ.alloc)|(with_reducible apply bQ.drew)|(with_reducible apply bQ.drewN)|(with_reducible refine bQ.below ?_ (by assumption))|omega|(simp only [World.size_alloc,World.size_setCell,World.size_drew];omega))) (by omega),fun b hb'=>hMe.far (by simp [blk,Value.ownBlock] at hb';omega),(by repeat' (first|(with_reducible exact Below.refl _ _)|(with_reducible assumption)|(with_reducible apply ao)|(with_reducible apply Below.alloc)|(with_reducible apply Below.drew)|(with_reducible apply al)|(with_reducible refine Below.trans ?_ (Below.mono (by assumption) ?_))|omega|(simp only [World.size_alloc,World.size_setCell,World.size_drew];omega)))⟩
end Go.Proofs.Ythjamlponejffaa
namespace Go.Proofs.Ythjamlponejffaa
set_option linter.unusedVariables false
set_option linter.unusedSimpArgs false
open Go.RowKit
attribute [local irreducible] ap b9 Aw Le
theorem se (g : Pa) (hg : PaOk g) : ap Try.prog 47 [paA g] [] (fun _=>gmA (c9 g)):=by
 unfold ap
 refine ⟨⟨_,Try.func47,rfl,rfl⟩,fun φ0 hp0 w vs hX H hl hv=>?_⟩
 obtain ⟨v,rfl,ha⟩:=px (AVs.of hl hv)
 refine (sd v g w (qJ ha) hg).mono fun e w' ⟨vo,vp,vn,vq,vk,us,he,hv',h1,h2,h3,h4,h5,h6,hbw⟩=>⟨_,he,?_⟩
 intro ν hl hn hf
 have : ν = []:=List.eq_nil_of_length_eq_zero hl
 subst this
 have hE : Evo φ0 hp0 w φ0 (bt (aI hp0 []) [] []) w':=⟨fun ν e he=>⟨e,he,.inr ⟨rfl,rfl⟩⟩,fun b hb ho=>⟨hbw.block b hb,ho⟩,hbw.size,fun b hb _=>hbw.block b hb⟩
 refine ⟨φ0,⟨hbw,hbw.size,H.fin,fun ν e he=>?_,H.sep,fun ν b hm hb'=>H.lo ν b hm hb'⟩,hE,?_⟩
 · exact (H.ent ν e he).evo hE fun hk b hb'=>hbw.block b (H.lt ⟨e,he,hk⟩ hb')
 · have ha':=ha.evo hE
   subst hv'
   obtain ⟨xs,ex,hx⟩:=ke ha'
   have e3 : xs = [vo,vn,vp]:=by simpa using (congrArg Array.toList (Value.agg.inj ex)).symm
   subst e3
   match hx with
   | .cons a1 (.cons a2 (.cons a3 .nil)) =>
     have own : ∀ b,w.heap.size ≤ b → ¬ Own φ0 hp0 b:=fun b hb ho=>by have:=H.own_lt ho;omega
     refine mV (vs:=[vo,vp,vn,vq,vk]) (.cons a1 (.cons a3 (.cons a2 (.cons (.c ?_) (.cons (.c ?_) .nil)))))
     · exact mc (.slice none 0 0) h4.2.1 own rfl h4.1.symm rfl rfl fun i hi=>gt (h4.2.2.1 i (by rw [← h4.1];exact hi)) own
     · exact gt h5 own
theorem pJ {g : Pa} (v u : Int) (h0 : 0 ≤ v) (h1 : v < g.prio.length) : edg (c9 g) v u = true:=by
 have : gi (c9 g).pick v.toNat = -1:=bH _ (by omega)
 simp [edg,this]
theorem nT {g : Pa} {inn : List Bool} {v : Int} (h0 : 0 ≤ v) (h1 : v < g.prio.length) : ∀ k,eg (c9 g) inn v k = 0 ↔ ∀ i,i < k → gb inn (gi (gr g.ar.nxt v.toNat) i).toNat = false:=by
 intro k
 induction k with
 | zero => exact ⟨fun _ i hi => by omega, fun _ => rfl⟩
 | succ k ih =>
   rw [eg,pJ v _ h0 h1,Bool.and_true]
   show eg (c9 g) inn v k + (if gb inn (gi (gr g.ar.nxt v.toNat) k).toNat = true then 1 else 0) = 0 ↔ _
   constructor
   · intro h i hi
     rcases Nat.lt_or_ge i k with h'|h'
     · exact ih.1 (by omega) i h'
     · have : i = k:=by omega
       subst this
       cases hb : gb inn (gi (gr g.ar.nxt v.toNat) i).toNat with
       | false => rfl
       | true => rw [hb, if_pos rfl] at h; omega
   · intro h
     rw [ih.2 fun i hi=>h i (by omega),h k (by omega)]
     rfl
theorem pK {g : Pa} (hg : PaOk g) {xs : List Int} {v : Int} (h0 : 0 ≤ v) (h1 : v < g.prio.length) : deg (c9 g) (mks g.prio.length fun v=>(v : Int) ∈ xs) v = 0 ↔ ∀ i,i < (gr g.ar.nxt v.toNat).length → ¬ gi (gr g.ar.nxt v.toNat) i ∈ xs:=by
 have hx:=(dL hg).nx v.toNat (by omega)
 have e : ∀ i,i < (gr g.ar.nxt v.toNat).length → gb (mks g.prio.length fun v=>(v : Int) ∈ xs) (gi (gr g.ar.nxt v.toNat) i).toNat = tf (gi (gr g.ar.nxt v.toNat) i ∈ xs):=fun i hi=>r9 (hx.2 i hi).1 (hx.2 i hi).2
 unfold deg
 refine (nT h0 h1 _).trans ⟨fun h i hi=>?_,fun h i hi=>?_⟩
 · have:=h i hi;rw [e i hi] at this;exact om.1 this
 · rw [e i hi];exact aH (h i hi)
end Go.Proofs.Ythjamlponejffaa
namespace Go.Proofs.Ythjamlponejffaa
set_option linter.unusedVariables false
set_option linter.unusedSimpArgs false
open Go.RowKit
end Go.Proofs.Ythjamlponejffaa
