/-
  The program's cut of one edge: a copy of the game, the row of the vertex made shorter in place.
-/
import Derived.Test.YtiadchinhofieaaZcShelf2
import Derived.Test.YtiadchinhofieaaZcX9
import Derived.Test.YtiadchinhofieaaZcCb
import Derived.Outline
namespace Go.Proofs.Ytiadchinhofieaa
set_option linter.unusedVariables false
set_option linter.unusedSimpArgs false
open Go.RowKit Go.Sort Go.Shelf Go.Lib
def Try.delL_ren : Go.Shelf.Ren:=⟨fun | 45=>110|n=>n,fun | 22=>22 | 23=>2 | 3=>3 | 4=>4 | 0=>0|n=>n,fun|n=>n⟩
theorem Try.delL : Go.Proofs.SlLaysE.n45 Try.prog Try.delL_ren:={
  mixed:=by kernel_rfl
  f45:=⟨Try.f110.name,by decide,Try.func110.trans (congrArg some (by kernel_rfl))⟩
  t0:=Try.underlying0
  a0:=Try.isAgg0
  z0:=Try.sizeOf0
  v0:=Try.zeroValue0
  t3:=Try.underlying3
  a3:=Try.isAgg3
  z3:=Try.sizeOf3
  v3:=Try.zeroValue3
  t4:=Try.underlying4
  a4:=Try.isAgg4
  z4:=Try.sizeOf4
  v4:=Try.zeroValue4
  t22:=Try.underlying22
  a22:=Try.isAgg22
  z22:=Try.sizeOf22
  v22:=Try.zeroValue22
  a23:=Try.isAgg2
  z23:=Try.sizeOf2 }
theorem mR {lo hi : Nat} {w : World} {sa : Option Addr} {n c : Nat} {xs : List Int} (h : a9 lo hi w (.slice sa n c) xs) (hn : n ≤ 1048576) {i : Nat} (hi' : i < n) :
  Calls Try.prog 110 #[.slice sa n c,.int .i64 i,.int .i64 ((i + 1 : Nat) : Int)] w fun e w'=>e = .returned (.slice sa (n - 1) c) ∧ a9 lo hi w' (.slice sa (n - 1) c) (xs.eraseIdx i) ∧ w.grownBy w' (blk (.slice sa n c)):=by
 have hl:=h.len
 obtain ⟨g,cap,e,_,_,hg,_⟩:=h.at (k:=0) (by omega)
 injection e with e1 e2 e3
 subst e1 e3
 have hcap : n ≤ c ∧ c ≤ maxLen:=by
  rcases h with ⟨e,_⟩|⟨g',cap',cur,e,_,_,_,h3,h4,_⟩
  · cases e
  · injection e with q1 q2 q3
    rw [List.length_map] at h3
    exact ⟨by omega,by omega⟩
 obtain ⟨i0,hi0,hz0⟩ : ∃ i0,Try.prog.info? 2 = some i0 ∧ i0.size = 1:=by
  have h : (Try.prog.info? 2).any (fun i=>i.size == 1) = true:=by kernel_rfl
  cases hh : Try.prog.info? 2 with
  | none => rw [hh] at h; cases h
  | some i => rw [hh] at h; exact ⟨i, rfl, by simpa using h⟩
 have hc:=AnyE.slices_Delete Try.delL (Value.int .i64) (fun _=>rfl) 0 Try.zeroValue2 i0 hi0 hz0 g 0 c i (i + 1) xs.toArray w (oK h) (by simp;omega) (by have:=hcap.2;unfold maxLen at this;omega) (by omega) (by simp;omega)
 change Calls Try.prog 110 _ _ _ at hc
 rw [show xs.toArray.size = n by simp [hl],show i + 1 - i = 1 by omega] at hc
 refine hc.mono fun e w' ⟨he,q,hw⟩=>⟨he,?_⟩
 have hp:=rI h (xs.take i ++ xs.drop (i + 1) ++ List.replicate 1 0) (by rw [List.length_append,List.length_append,List.length_take,List.length_drop,List.length_replicate];omega) q #[] (n - 1) (by omega)
 have hlen : (xs.take i ++ xs.drop (i + 1)).length = n - 1:=by rw [List.length_append,List.length_take,List.length_drop];omega
 have htk : (xs.take i ++ xs.drop (i + 1) ++ List.replicate 1 0).take (n - 1) = xs.eraseIdx i:=by
  rw [← hlen,List.take_left,List.eraseIdx_eq_take_drop_succ]
 rw [grow_empty,htk] at hp
 rw [hw]
 exact hp
end Go.Proofs.Ytiadchinhofieaa
namespace Go.Proofs.Ytiadchinhofieaa
set_option linter.unusedVariables false
set_option linter.unusedSimpArgs false
open Go.RowKit
attribute [local go_sem ↓] Go.wp_at_zero Go.wp_at_succ
def lW (w : World) (g : Pa) (b : Bool) (e : Ending) (w' : World) : Prop:=∃ s1 n1 c1 s2 n2 c2 s3 n3 c3,e = .returned (.tuple #[.agg #[.slice s1 n1 c1,.slice s2 n2 c2,.slice s3 n3 c3],.bool b]) ∧ cI w.heap.size w'.heap.size w' (.agg #[.slice s1 n1 c1,.slice s2 n2 c2,.slice s3 n3 c3]) g ∧ Below w.heap.size w w'
theorem tD {vs : List Value} {k : Nat} {u : Value} (hk : k < vs.length) (hf : blk u = blk (vs.getD k (.slice none 0 0))) : (vs.set k u).filterMap blk = vs.filterMap blk:=by
 have e : ∀ l : List Value,l.filterMap blk = (l.map blk).filterMap id:=fun l=>by rw [List.filterMap_map];rfl
 rw [e,e,List.map_set]
 congr 1
 refine List.ext_getElem (by simp) fun i h1 h2=>?_
 rw [List.getElem_set]
 by_cases c : k = i
 · subst c
   rw [if_pos rfl,hf,List.getD_eq_getElem?_getD,List.getElem?_eq_getElem hk,List.getElem_map];rfl
 · rw [if_neg c]
theorem rJ {lo hi : Nat} {w w' : World} {vo vp u : Value} {own prio ys : List Int} {gv nv cv : Nat} {xss : List (List Int)} {vs : List Value} (ho : a9 lo hi w vo own) (hb : bi lo hi w (.slice (some ⟨gv,0,none⟩) nv cv) xss vs) (hp : a9 lo hi w vp prio) (hnd : ((vo :: vp :: vs).filterMap blk).Nodup)
  {k : Nat} (hk : k < xss.length) (hu : a9 lo w'.heap.size w' u ys) (hg : w.grownBy w' (blk (vs.getD k (.slice none 0 0)))) (hf : blk u = blk (vs.getD k (.slice none 0 0))) :
  cI lo w'.heap.size (w'.setCell ⟨gv,k,none⟩ u) (.agg #[vo,.slice (some ⟨gv,0,none⟩) nv cv,vp]) ⟨⟨own,xss.set k ys⟩,prio⟩:=by
 have hkv : k < vs.length:=by rw [hb.1];exact hk
 have hmem : vs.getD k (.slice none 0 0) ∈ vs:=by rw [List.getD_eq_getElem?_getD,List.getElem?_eq_getElem hkv];exact List.getElem_mem _
 have key : ∀ (x : Value) (xs : List Int),a9 lo hi w x xs → (∀ g,blk x = some g → blk (vs.getD k (.slice none 0 0)) ≠ some g) → a9 lo w'.heap.size (w'.setCell ⟨gv,k,none⟩ u) x xs:=by
  intro x xs hx hne
  have h1 : a9 lo w'.heap.size w' x xs:=aI.top (aI.keep hx (w':=w') fun g hg'=>hg.block g (aI.lt hx g hg').2.2 (fun e=>hne g hg' e.symm))
  exact aI.other h1 (eQ hb.2.1 hx (by decide) gv rfl) k u
 have hn1 : ∀ g,blk vo = some g → blk (vs.getD k (.slice none 0 0)) ≠ some g:=fun g h1 h2=>by
  rw [List.filterMap_cons_some h1] at hnd
  exact (List.nodup_cons.1 hnd).1 (List.mem_filterMap.2 ⟨_,List.mem_cons_of_mem _ hmem,h2⟩)
 have hn2 : ∀ g,blk vp = some g → blk (vs.getD k (.slice none 0 0)) ≠ some g:=fun g h1 h2=>by
  have hnd' : ((vp :: vs).filterMap blk).Nodup:=hnd.sublist ((List.sublist_cons_self vo (vp :: vs)).filterMap blk)
  rw [List.filterMap_cons_some h1] at hnd'
  exact (List.nodup_cons.1 hnd').1 (List.mem_filterMap.2 ⟨_,hmem,h2⟩)
 refine ⟨_,_,_,vs.set k u,rfl,key _ _ ho hn1,hb.put hk hu hg (fun g h=>.inl (by rw [← hf];exact h)),key _ _ hp hn2,?_⟩
 have e : ∀ a b : Value,(a :: b :: vs.set k u).filterMap blk = (a :: b :: vs).filterMap blk:=fun a b=>by
  simp only [List.filterMap_cons,tD hkv hf]
 rw [e];exact hnd
theorem tE {w w' : World} {r : Option Nat} {b o : Nat} {x : Value} (h : w.cell? ⟨b,o,none⟩ = some x) (hg : w.grownBy w' r) (hb : b < w.heap.size) (hr : r ≠ some b) : w'.cell? ⟨b,o,none⟩ = some x:=by
 rw [World.cell?_of_block (a:=⟨b,o,none⟩) (hg.block b hb fun e=>hr e.symm)];exact h
theorem tF {w w' : World} {r : Option Nat} {b o : Nat} {x : Bool} (h : w.frozen? ⟨b,o,none⟩ = x) (hg : w.grownBy w' r) (hb : b < w.heap.size) (hr : r ≠ some b) : w'.frozen? ⟨b,o,none⟩ = x:=by
 rw [World.frozen?_of_block (a:=⟨b,o,none⟩) (hg.block b hb fun e=>hr e.symm)];exact h
theorem tc {w w' : World} {r : Option Nat} {B : Nat} {cs : List Value} {T : TypeId} (h : Blk w B cs T) (hg : w.grownBy w' r) (hr : r ≠ some B) : Blk w' B cs T:=(hg.block B h.lt fun e=>hr e.symm).trans h
theorem rK (s : Option Addr) (n m c : Nat) : blk (.slice s n c) = blk (.slice s m c):=by cases s <;> rfl
theorem oL {lo hi : Nat} {w : World} {sa : Option Addr} {n c : Nat} {xs : List Int} (h : a9 lo hi w (.slice sa n c) xs) (hn : n ≤ 1048576) {i : Nat} (hi' : i < n) {x : Int} (hx : x = ((i + 1 : Nat) : Int)) :
  Calls Try.prog 110 #[.slice sa n c,.int .i64 i,.int .i64 x] w fun e w'=>e = .returned (.slice sa (n - 1) c) ∧ a9 lo hi w' (.slice sa (n - 1) c) (xs.eraseIdx i) ∧ w.grownBy w' (blk (.slice sa n c)):=by
 subst hx;exact mR h hn hi'
set_option maxRecDepth 100000 in
set_option maxHeartbeats 400000 in
theorem fL (x : Value) (g : Pa) (w : World) (hP : IsP w x g) (hg : PaOk g) (v : Nat) (hv : v < g.prio.length) (u : Int) (k : Nat) (hk : k < (gr g.ar.nxt v).length) (ei : idx (gr g.ar.nxt v) u = k) (h2l : 2 ≤ (gr g.ar.nxt v).length) : Calls Try.prog 67 #[x,.int .i64 v,.int .i64 u] w (lW w ⟨⟨g.ar.own,g.ar.nxt.set v ((gr g.ar.nxt v).eraseIdx k)⟩,g.prio⟩ true):=by
 have hP0:=hP
 obtain ⟨_,_,_,rfl,⟨s1,n1,c1,rfl,h1⟩,⟨s2,n2,c2,rfl,h2⟩,⟨s3,n3,c3,rfl,h3⟩⟩:=hP
 have e2:=h2.len
 have hvn : v < n2:=by have:=hg.ar.len;have:=hg.len;omega
 have hr16 : (gr g.ar.nxt v).length ≤ 16:=(hg.ar.vert v (by have:=hg.ar.len;have:=hg.len;omega)).2.2.2.1
 obtain ⟨b,o,rfl,hbl,A,L,C,hc⟩:=h2.get hvn
 obtain ⟨hc1,hc2⟩:=hc v hvn
 have hLv : L v = (gr g.ar.nxt v).length:=hc2.1.symm
 clear hc
 have HG:=Lib.hid hg
 have HE:=Lib.hid ei
 have HL:=Lib.hid hLv
 have H2:=Lib.hid e2
 have H2l:=Lib.hid h2l
 have hcond : ¬ ((k : Int) < 0 ∨ (((L v : Nat) : Int) == 1) = true):=fun h=>h.elim (fun h=>by omega) (fun h=>by have:=eq_of_beq h;omega)
 clear ei hLv e2 h2l
 have hmax:=h2.max
 clear hg
 go_enter Try.func67,Try.ntmps67
 go_wp2_with fail
 generalize hqw1 : (w.alloc (.cells #[.slice s1 n1 c1,.slice (some ⟨b,o,none⟩) n2 c2,.slice s3 n3 c3] 32)).alloc (.cells #[.slice none 0 0,.slice none 0 0,.slice none 0 0] 32) = w1
 have hbw : Below w.heap.size w w1:=by rw [← hqw1];exact (by repeat' (first|(with_reducible exact Below.refl _ _)|(with_reducible apply Below.alloc)|(with_reducible apply Below.drew)|(with_reducible apply aj)|omega|(simp only [World.size_alloc,World.size_setCell,World.size_drew];omega)))
 have hew1:=Lib.hid (show w1.heap.size = w.heap.size + 1 + 1 by rw [← hqw1];simp)
 have hsw : w.heap.size + 2 ≤ w1.heap.size:=by rw [← hqw1];simp only [World.size_alloc];omega
 have hswa : w.heap.size < w1.heap.size:=by omega
 have hswb : w.heap.size + 1 < w1.heap.size:=by omega
 have HQw1_0 : Blk w1 (w.heap.size) [.slice s1 n1 c1,.slice (some ⟨b,o,none⟩) n2 c2,.slice s3 n3 c3] 32:=by rw [← hqw1];have hnew:=bM w [.slice s1 n1 c1,.slice (some ⟨b,o,none⟩) n2 c2,.slice s3 n3 c3] 32;(try simp only [World.size_alloc] at hnew);exact (Blk.alloc hnew _)
 have b0_0 : w1.cell? ⟨w.heap.size,0,none⟩ = some (.slice s1 n1 c1):=HQw1_0.cell 0 rfl
 have b0_1 : w1.cell? ⟨w.heap.size,1,none⟩ = some (.slice (some ⟨b,o,none⟩) n2 c2):=HQw1_0.cell 1 rfl
 have b0_2 : w1.cell? ⟨w.heap.size,2,none⟩ = some (.slice s3 n3 c3):=HQw1_0.cell 2 rfl
 clear HQw1_0
 have HQw1_1 : Blk w1 (w.heap.size + 1) [.slice none 0 0,.slice none 0 0,.slice none 0 0] 32:=by rw [← hqw1];have hnew:=bM (w.alloc (.cells #[.slice s1 n1 c1,.slice (some ⟨b,o,none⟩) n2 c2,.slice s3 n3 c3] 32)) [.slice none 0 0,.slice none 0 0,.slice none 0 0] 32;(try simp only [World.size_alloc] at hnew);exact hnew
 have b1_0 : w1.cell? ⟨w.heap.size + 1,0,none⟩ = some (.slice none 0 0):=HQw1_1.cell 0 rfl
 have b1_1 : w1.cell? ⟨w.heap.size + 1,1,none⟩ = some (.slice none 0 0):=HQw1_1.cell 1 rfl
 have b1_2 : w1.cell? ⟨w.heap.size + 1,2,none⟩ = some (.slice none 0 0):=HQw1_1.cell 2 rfl
 have HRw1:=Lib.hid HQw1_1
 clear HQw1_1
 clear hqw1
 have hR:=HRw1.out
 have hrow:=(di hbw).1 b (o + v) hbl
 rw [hc1] at hrow
 have hI:=hc2.below hbw
 go_wp2_with (first
  | (go_at_call 105; refine (kf _ _ _ _ _ _ hI).mono ?_; rw [HE.out]; rintro e w2 ⟨rfl, rfl⟩)
  | (go_at_call 72; refine (hZ _ _ _ (hP0.below hbw) HG.out).mono ?_; rintro e w3 ⟨t1, m1, d1, t2, m2, d2, t3, m3, d3, rfl, ho3, hbw3⟩; replace b0_0 := ah b0_0 hbw3; replace b0_1 := ah b0_1 hbw3; replace b0_2 := ah b0_2 hbw3; replace hR := hR.below hbw3; replace hbw : Below w.heap.size w w3 := hbw.trans (hbw3.mono hbw.size); have hz3 := hbw3.size))
 obtain ⟨_,_,_,vs,e,ha,hb,hp,hnd⟩:=ho3
 simp only [Value.agg.injEq,Array.mk.injEq,List.cons.injEq,and_true] at e
 obtain ⟨rfl,rfl,rfl⟩:=e
 have hm2 : m2 = n2:=by have:=hb.len;have:=H2.out;omega
 subst hm2
 obtain ⟨gN,s',n',c',rfl,hrc,hvs,hrI,hn'⟩:=hb.row hvn
 subst hn'
 have hbA:=ay w3 (.cells #[.slice t1 m1 d1,.slice (some ⟨gN,0,none⟩) m2 d2,.slice t3 m3 d3] 32)
 have hB9 : Blk (w3.alloc (.cells #[.slice t1 m1 d1,.slice (some ⟨gN,0,none⟩) m2 d2,.slice t3 m3 d3] 32)) w3.heap.size [.slice t1 m1 d1,.slice (some ⟨gN,0,none⟩) m2 d2,.slice t3 m3 d3] 32:=bM _ _ _
 have hz4 : (w3.alloc (.cells #[.slice t1 m1 d1,.slice (some ⟨gN,0,none⟩) m2 d2,.slice t3 m3 d3] 32)).heap.size = w3.heap.size + 1:=by simp
 generalize w3.alloc (.cells #[.slice t1 m1 d1,.slice (some ⟨gN,0,none⟩) m2 d2,.slice t3 m3 d3] 32) = w4 at *
 replace ha:=ha.below hbA
 replace hb:=hb.below hbA
 replace hp:=hp.below hbA
 replace hrI:=hrI.below hbA
 replace hrc:=ah hrc hbA
 replace hR:=hR.below hbA
 replace hbw : Below w.heap.size w w4:=hbw.trans (hbA.mono (by omega))
 have c0:=hB9.cell 0 rfl
 have c1':=hB9.cell 1 rfl
 have c2':=hB9.cell 2 rfl
 obtain ⟨gN',_,eN,hN1,hN2,hN3,_,hN4⟩:=hb.2.1.at (k:=v) (.slice none 0 0) (by rw [hb.1];exact (by have:=H2.out;omega))
 obtain ⟨rfl,-,-⟩ : gN = gN' ∧ True ∧ True:=by simp only [Value.slice.injEq,Option.some.injEq,Addr.mk.injEq,and_true] at eN;exact ⟨eN.1,trivial,trivial⟩
 clear eN
 have hfz:=hN4 v
 clear hN1 hN2 hN3 hN4
 have hwk : ((k + 1 : Nat) : Int) = IntKind.i64.wrap ((k : Int) + 1):=by rw [IntKind.wrap_i64];omega
 have HW:=Lib.hid hwk
 clear hwk
 have hgNl : gN < w4.heap.size:=(aI.lt hb.2.1 gN rfl).2.2
 have hneN : blk (.slice s' (gr g.ar.nxt v).length c') ≠ some gN:=eQ hb.2.1 hrI (by decide) gN rfl
 have hne9 : blk (.slice s' (gr g.ar.nxt v).length c') ≠ some w3.heap.size:=fun e=>by have:=(hrI.blks _ e).2;omega
 have hneR : blk (.slice s' (gr g.ar.nxt v).length c') ≠ some (w.heap.size + 1):=fun e=>by have:=(hrI.blks _ e).1;omega
 have hgl:=(aI.lt hb.2.1 gN rfl).1
 have hgh:=(aI.lt hb.2.1 gN rfl).2.1
 have hgR : gN ≠ w.heap.size + 1:=by omega
 have hg9 : gN ≠ w3.heap.size:=by omega
 go_region_law (go_simp;go_at_call 110;refine (oL (hrI.below (by repeat' (first|(with_reducible exact Below.refl _ _)|(with_reducible assumption)|(with_reducible apply ap)|(with_reducible apply Below.alloc)|(with_reducible apply Below.drew)|(with_reducible apply aj)|(with_reducible refine Below.trans ?_ (Below.mono (by assumption) ?_))|omega|(simp only [World.size_alloc,World.size_setCell,World.size_drew];omega)))) (by omega) hk HW.out.symm).mono ?_;rintro e w5 ⟨rfl,hoD,hgD⟩;have hzD:=hgD.size;have qN:=tE (ah hrc (bj w4)) hgD hgNl hneN;have fN:=tF (((di (bj w4)).2 gN v hgNl).trans hfz) hgD hgNl hneN;have hBD:=tc hB9.drew hgD hne9;have q0:=hBD.cell 0 rfl;have q1:=hBD.cell 1 rfl;have q2:=hBD.cell 2 rfl)
 all_goals
  have hF:=rJ (ha.below (bj w4)) (hb.below (bj w4)) (hp.below (bj w4)) hnd (k:=v) (by have:=H2.out;omega) (aI.top hoD) (by rw [hvs];exact hgD) (by rw [hvs];exact rK _ _ _ _)
  have hR5:=tc hR.drew hgD hneR
  have hR6:=hR5.other hgR v (.slice s' ((gr g.ar.nxt v).length - 1) c')
  have hB6:=hBD.other hg9 v (.slice s' ((gr g.ar.nxt v).length - 1) c')
  have hbw6 : Below w.heap.size w (w5.setCell ⟨gN,v,none⟩ (.slice s' ((gr g.ar.nxt v).length - 1) c')):=ap (Below.grown (hbw.trans ((bj w4).mono (by omega))) hgD (by simp;omega) fun g hg=>by have:=(hrI.blks g hg).1;omega) (by omega) _
  clear qN fN hBD q0 q1 q2 hoD hgD hR5
  have hz6 : (w5.setCell ⟨gN,v,none⟩ (.slice s' ((gr g.ar.nxt v).length - 1) c')).heap.size = w5.heap.size:=by simp
  generalize w5.setCell ⟨gN,v,none⟩ (.slice s' ((gr g.ar.nxt v).length - 1) c') = w6 at *
  have q0:=hB6.cell 0 rfl
  have q1:=hB6.cell 1 rfl
  have q2:=hB6.cell 2 rfl
  have r0:=hR6.cell 0 rfl
  have r1:=hR6.cell 1 rfl
  have r2:=hR6.cell 2 rfl
  have y0:=hR6.free 0
  have y1:=hR6.free 1
  have y2:=hR6.free 2
  go_wp2_with fail
 all_goals
  refine bodyPost_ret (v:=.tuple #[.agg #[.slice t1 m1 d1,.slice (some ⟨gN,0,none⟩) m2 d2,.slice t3 m3 d3],.bool true]) (by simp [results,Try.results67,go_sem,r0,r1,r2,y0,y1,y2]) rfl ?_
  refine ⟨_,_,_,_,_,_,_,_,_,rfl,?_,?_⟩
  · clear hbw6
    exact hF.final (by repeat' (first|(with_reducible exact bd.refl _ _ _)|(with_reducible apply bd.set)|(with_reducible apply bd.alloc)|(with_reducible apply bd.drew)|(with_reducible apply bd.drewN)|(with_reducible refine bd.below ?_ (by assumption))|omega|(simp only [World.size_alloc,World.size_setCell,World.size_drew];omega))) (by first|omega|(simp only [World.size_alloc,World.size_setCell,World.size_drew];omega))
  · exact (by repeat' (first|(with_reducible exact Below.refl _ _)|(with_reducible assumption)|(with_reducible apply ap)|(with_reducible apply Below.alloc)|(with_reducible apply Below.drew)|(with_reducible apply aj)|(with_reducible refine Below.trans ?_ (Below.mono (by assumption) ?_))|omega|(simp only [World.size_alloc,World.size_setCell,World.size_drew];omega)))
end Go.Proofs.Ytiadchinhofieaa
