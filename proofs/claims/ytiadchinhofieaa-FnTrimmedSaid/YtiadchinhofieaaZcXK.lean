/-
  Trimmed of the program, owned.
-/
import Derived.Test.YtiadchinhofieaaZcXD
import Derived.Test.YtiadchinhofieaaZcXI
namespace Go.Proofs.Ytiadchinhofieaa
set_option linter.unusedVariables false
set_option linter.unusedSimpArgs false
open Go.RowKit
attribute [local irreducible] aq ci Aw Le
theorem jV {v : Nat} : ∀ (us : List Int) (g : Pa) (u : Int),eD v (us ++ [u]) g = fi (eD v us g) v u
 | [], g, u => rfl
 | x :: us, g, u => jV us (fi g v x) u
noncomputable def d7 (g : Pa) (k j : Nat) : Pa:=eD k ((gr g.ar.nxt k).take j) (fk g k)
theorem jW {g : Pa} {k j : Nat} (h : j < (gr g.ar.nxt k).length) : d7 g k (j + 1) = fi (d7 g k j) k (gi (gr g.ar.nxt k) j):=by
 unfold d7
 rw [List.take_succ_eq_append_getElem h,jV,c9 h]
theorem kJ {g : Pa} {k j : Nat} (h : (gr g.ar.nxt k).length ≤ j) : d7 g k j = fk g (k + 1):=by
 unfold d7
 rw [List.take_of_length_le h];rfl
theorem rz {g : Pa} (hg : PaOk g) {v : Nat} (hv : v < g.prio.length) (u : Int) : PaOk (fi g v u) ∧ (fi g v u).prio = g.prio:=by
 by_cases h : 2 ≤ (gr g.ar.nxt v).length ∧ bX (cP g v u) = bX g
 · rw [fj h];exact ⟨gf hg hv h.1,rfl⟩
 · rw [gg h];exact ⟨hg,rfl⟩
theorem mI {v : Nat} : ∀ (us : List Int) (g : Pa),PaOk g → v < g.prio.length → PaOk (eD v us g) ∧ (eD v us g).prio = g.prio
 | [], g, hg, hv => ⟨hg, rfl⟩
 | u :: us, g, hg, hv => by
   have h:=rz hg hv u
   have h2:=mI us _ h.1 (by rw [h.2];exact hv)
   exact ⟨h2.1,h2.2.trans h.2⟩
theorem mJ {g : Pa} (hg : PaOk g) {k j : Nat} (hk : k < g.prio.length) : PaOk (d7 g k j) ∧ (d7 g k j).prio = g.prio:=by
 have h:=iy hg k (by omega)
 have h2:=mI ((gr g.ar.nxt k).take j) _ h.ok (by rw [h.prio];exact hk)
 exact ⟨h2.1,h2.2.trans h.prio⟩
theorem rA {g : Pa} (hg : PaOk g) {v : Nat} (hv : v < g.prio.length) {u : Int} (hu : ¬ u ∈ gr g.ar.nxt v) : cP g v u = g:=by
 have hl:=hg.len
 have hln:=hg.ar.len
 have e : d9 (fun x=>¬ x = u) (gr g.ar.nxt v) (gr g.ar.nxt v).length = gr g.ar.nxt v:=by
  have key : ∀ n,n ≤ (gr g.ar.nxt v).length → d9 (fun x=>¬ x = u) (gr g.ar.nxt v) n = (gr g.ar.nxt v).take n:=by
   intro n
   induction n with
   | zero => intro _; rfl
   | succ n ih =>
     intro hn
     rw [dF (p:=fun x=>¬ x = u) (show ¬ gi (gr g.ar.nxt v) n = u from fun h=>hu (by rw [← h];exact cE (by omega))),ih (by omega),List.take_succ_eq_append_getElem (by omega),c9 (by omega)]
  rw [key _ (Nat.le_refl _),List.take_length]
 unfold cP
 rw [e]
 have e2 : g.ar.nxt.set v (gr g.ar.nxt v) = g.ar.nxt:=by
  refine List.ext_getElem (by simp) fun i h1 h2=>?_
  rw [List.getElem_set]
  by_cases c : v = i
  · subst c;rw [if_pos rfl,gr,List.getD_eq_getElem?_getD,List.getElem?_eq_getElem h2];rfl
  · rw [if_neg c]
 rw [e2]
def gS (g : Pa) (v : Nat) (u : Int) : Prop:=u ∈ gr g.ar.nxt v ∧ 2 ≤ (gr g.ar.nxt v).length ∧ bX (cP g v u) = bX g
theorem mK {g : Pa} {v : Nat} {u : Int} (h : gS g v u) : fi g v u = cP g v u:=fj h.2
theorem lI {g : Pa} (hg : PaOk g) {v : Nat} (hv : v < g.prio.length) {u : Int} (h : ¬ gS g v u) : fi g v u = g:=by
 by_cases h2 : 2 ≤ (gr g.ar.nxt v).length ∧ bX (cP g v u) = bX g
 · rw [fj h2]
   exact rA hg hv fun hu=>h ⟨hu,h2⟩
 · exact gg h2
theorem j8 (g : Pa) (hg : PaOk g) (v : Nat) (hv : v < g.prio.length) (u : Int) : aq Try.prog 64 [paA g,.c (.int .i64 v),.c (.int .i64 u)] [] (fun _=>.c (.bool (tf (¬ gS g v u)))):=by
 by_cases hu : u ∈ gr g.ar.nxt v
 · have h:=j7 g hg v hv u hu
   have hr:=(hg.ar.vert v (by have:=hg.len;omega)).2.2.1
   rw [eg (show ((gr g.ar.nxt v).length = 1 ∨ bX (cP g v u) ≠ bX g) ↔ ¬ gS g v u from ⟨fun h h'=>h.elim (fun e=>by have:=h'.2.1;omega) fun e=>e h'.2.2,fun h=>by
    by_cases e : (gr g.ar.nxt v).length = 1
    · exact .inl e
    · exact .inr fun e2=>h ⟨hu,by omega,e2⟩⟩)] at h
   exact h
 · rw [aH fun h : gS g v u=>hu h.1]
   have h4:=g9 g hg v hv u (.inl hu)
   (refine bh aG Try.func64 rfl rfl (by kernel_rfl) fun hp0 ν hX hN=>?_;simp only [cx,Nat.reduceAdd])
   (repeat' (first|(with_reducible first|(apply hK;clear hK K)|refine stZ ?_|refine aM rfl ?_|((first|apply ae|apply af);clear ae X af Y))|(with_reducible refine aP ?_;first|refine aN rfl ?_|refine aO rfl ?_)|(with_reducible refine be ?_;first|refine aK rfl rfl rfl rfl ?_|refine bc rfl rfl rfl ?_|refine bp rfl rfl rfl rfl ?_)|(with_reducible refine bU ?_;first|refine bN rfl rfl rfl rfl ?_|refine cn rfl rfl rfl ?_|refine cQ rfl rfl rfl rfl ?_|refine b8 hN ?_)|((first|(with_reducible first|((first|refine aS ?_|refine b9 ?_|refine aT ?_|refine ca ?_);intro K hK)|(refine az ?_;intro X Y ae af)|refine aA ?_)|(with_reducible refine be ?_;refine aL rfl rfl fun X Y ae af=>?_)|(with_reducible refine bU ?_;refine bO rfl rfl fun X Y ae af=>?_));simp (disch:=first|decide|omega|(simp only [List.length_cons,List.length_nil];omega)) only [go_sem,↓am hN,ao hN,reduceIte,reduceCtorEq,Nat.reduceAdd,Nat.reduceLT,Nat.reduceLeDiff,Nat.reduceEqDiff,Nat.reduceSub])|(with_reducible refine And.intro (fun h=>?_) (fun h=>?_) <;> try (exfalso;omega))|(with_reducible refine aR aG hN ?_)|(with_reducible refine bn aG hN ?_)|(refine cK (h4) ?_ rfl rfl ?_;focus ((repeat' (first|(with_reducible first|exact aV|refine aJ ?_ ?_|exact cF _|refine bv ?_|exact bz _|exact bR _ _|refine bQ ?_|exact bt _)|exact bw hN rfl rfl|(refine bP hN rfl ?_;first|exact aZ _|exact a8 _)|exact bu rfl rfl rfl));done))|(with_reducible first|exact aV|refine aJ ?_ ?_|exact cF _|refine bv ?_|exact bz _|exact bR _ _|refine bQ ?_|exact bt _)|exact bw hN rfl rfl|(refine bP hN rfl ?_;first|exact aZ _|exact a8 _)|exact bu rfl rfl rfl|(simp only [ba,List.map_nil])|(with_reducible refine bo ?_)|(with_reducible refine And.intro ?_ ?_)|(refine ak ?_;omega)|(exact aQ hN (by decide))))
   (refine dd (.inr rfl) (by first|rfl|(simp (disch:=first|decide|omega|(simp only [List.length_cons,List.length_nil];omega)) only [bK,bS,bV,bY,go_sem,beq_self_eq_true,↓au,↓am hN,ao hN,reduceIte,reduceCtorEq,Nat.reduceAdd,Nat.reduceLT,Nat.reduceLeDiff,Nat.reduceEqDiff,Nat.reduceSub];rfl)) ?_)
   all_goals rfl
end Go.Proofs.Ytiadchinhofieaa
namespace Go.Proofs.Ytiadchinhofieaa
set_option linter.unusedVariables false
set_option linter.unusedSimpArgs false
open Go.RowKit
attribute [local go_sem ↓] Go.wp_at_zero Go.wp_at_succ
theorem cI.lo {lo lo' hi hi' : Nat} {w : World} {v : Value} {g : Pa} (h : cI lo hi w v g) (hl : lo' ≤ lo) (hh : hi ≤ hi') : cI lo' hi' w v g:=by
 obtain ⟨vo,vn,vp,vs,rfl,h1,h2,h3,h4⟩:=h
 exact ⟨_,_,_,vs,rfl,h1.mono hl hh,h2.mono hl hh,h3.mono hl hh,h4⟩
structure TrW (w wr : World) (lo B3 : Nat) (c1 c2 c3 : Value) (t : Pa) : Prop where
 own : cI lo wr.heap.size wr (.agg #[c1,c2,c3]) t
 box : Blk wr B3 [c1,c2,c3] 32
 res : Blk wr (w.heap.size + 1) [.slice none 0 0,.slice none 0 0,.slice none 0 0] 32
 bel : Below w.heap.size w wr
 lt : B3 < wr.heap.size
theorem TrW.below {w wr wx : World} {lo B3 : Nat} {c1 c2 c3 : Value} {t : Pa} (h : TrW w wr lo B3 c1 c2 c3 t) (hb : Below wr.heap.size wr wx) : TrW w wx lo B3 c1 c2 c3 t :=
 ⟨(h.own.below hb).top,h.box.below hb,h.res.below hb,h.bel.trans (hb.mono h.bel.size),by have:=hb.size;have:=h.lt;omega⟩
theorem TrW.store {w wr wx : World} {lo B3 : Nat} {c1 c2 c3 d1 d2 d3 : Value} {t t' : Pa} (h : TrW w wr lo B3 c1 c2 c3 t) (hb : Below wr.heap.size wr wx) (ho : cI wr.heap.size wx.heap.size wx (.agg #[d1,d2,d3]) t') (hlo : lo ≤ wr.heap.size) (h3 : w.heap.size + 1 < B3) :
  TrW w (((wx.setCell ⟨B3,0,none⟩ d1).setCell ⟨B3,1,none⟩ d2).setCell ⟨B3,2,none⟩ d3) lo B3 d1 d2 d3 t':=by
 have h':=h.below hb
 have hlt:=h.lt
 have hz:=hb.size
 have hne : B3 ≠ w.heap.size + 1:=by omega
 have k : bd wr.heap.size wx.heap.size wx (((wx.setCell ⟨B3,0,none⟩ d1).setCell ⟨B3,1,none⟩ d2).setCell ⟨B3,2,none⟩ d3):=(by repeat' (first|(with_reducible exact bd.refl _ _ _)|(with_reducible apply bd.set)|(with_reducible apply bd.alloc)|(with_reducible apply bd.drew)|(with_reducible apply bd.drewN)|(with_reducible refine bd.below ?_ (by assumption))|omega|(simp only [World.size_alloc,World.size_setCell,World.size_drew];omega)))
 refine ⟨?_,?_,?_,?_,?_⟩
 · exact ho.final k hlo
 · exact ((h'.box.set 0 d1).set 1 d2).set 2 d3
 · exact ((h'.res.other hne 0 d1).other hne 1 d2).other hne 2 d3
 · exact ap (ap (ap h'.bel (by omega) _) (by omega) _) (by omega) _
 · simp only [World.size_setCell];exact h'.lt
theorem gT (x : Value) (g : Pa) (w : World) (hP : IsP w x g) (hg : PaOk g) (v : Nat) (hv : v < g.prio.length) (u : Int) : Calls Try.prog 64 #[x,.int .i64 v,.int .i64 u] w fun e w'=>e = .returned (.bool (tf (¬ gS g v u))) ∧ Below w.heap.size w w' :=
 ls (vs:=[x,.int .i64 v,.int .i64 u]) (j8 g hg v hv u) (.cons (mo hP) (.cons (lr _ _) (.cons (lr _ _) .nil)))
theorem nN (x : Value) (g : Pa) (w : World) (hP : IsP w x g) (hg : PaOk g) (v : Nat) (hv : v < g.prio.length) (u : Int) (h : gS g v u) : Calls Try.prog 67 #[x,.int .i64 v,.int .i64 u] w (lW w (cP g v u) true):=by
 rcases gn (gr g.ar.nxt v) u with ⟨_,h'⟩|⟨k,hk,ek,_,ei⟩
 · exact absurd h.1 h'
 have hl:=hg.len
 have hfe:=g8 (hg.ar.vert v (by omega)).2.2.2.2 hk ek
 have:=fL x g w hP hg v hv u k hk ei h.2.1
 rwa [hfe] at this
set_option maxRecDepth 100000 in
set_option maxHeartbeats 1000000 in
theorem pG (x : Value) (g : Pa) (w : World) (hP : IsP w x g) (hg : PaOk g) : Calls Try.prog 24 #[x] w (rC w (jR g)):=by
 have hP0:=hP
 obtain ⟨_,_,_,rfl,⟨s1,n1,c1,rfl,h1⟩,⟨s2,n2,c2,rfl,h2⟩,⟨s3,n3,c3,rfl,h3⟩⟩:=hP
 have k1:=Lib.hid (aH hg)
 have HG:=Lib.hid hg
 have hmax:=h2.max
 have H2:=Lib.hid h2.len
 clear hg
 go_enter Try.func24,Try.ntmps24
 go_wp2_with fail
 generalize hqw1 : (w.alloc (.cells #[.slice s1 n1 c1,.slice s2 n2 c2,.slice s3 n3 c3] 32)).alloc (.cells #[.slice none 0 0,.slice none 0 0,.slice none 0 0] 32) = w1
 have hbw : Below w.heap.size w w1:=by rw [← hqw1];exact (by repeat' (first|(with_reducible exact Below.refl _ _)|(with_reducible apply Below.alloc)|(with_reducible apply Below.drew)|(with_reducible apply aj)|omega|(simp only [World.size_alloc,World.size_setCell,World.size_drew];omega)))
 have hew1:=Lib.hid (show w1.heap.size = w.heap.size + 1 + 1 by rw [← hqw1];simp)
 have hsw : w.heap.size + 2 ≤ w1.heap.size:=by rw [← hqw1];simp only [World.size_alloc];omega
 have hswa : w.heap.size < w1.heap.size:=by omega
 have hswb : w.heap.size + 1 < w1.heap.size:=by omega
 have HQw1_0 : Blk w1 (w.heap.size) [.slice s1 n1 c1,.slice s2 n2 c2,.slice s3 n3 c3] 32:=by rw [← hqw1];have hnew:=bM w [.slice s1 n1 c1,.slice s2 n2 c2,.slice s3 n3 c3] 32;(try simp only [World.size_alloc] at hnew);exact (Blk.alloc hnew _)
 have b0_0 : w1.cell? ⟨w.heap.size,0,none⟩ = some (.slice s1 n1 c1):=HQw1_0.cell 0 rfl
 have b0_1 : w1.cell? ⟨w.heap.size,1,none⟩ = some (.slice s2 n2 c2):=HQw1_0.cell 1 rfl
 have b0_2 : w1.cell? ⟨w.heap.size,2,none⟩ = some (.slice s3 n3 c3):=HQw1_0.cell 2 rfl
 clear HQw1_0
 have HQw1_1 : Blk w1 (w.heap.size + 1) [.slice none 0 0,.slice none 0 0,.slice none 0 0] 32:=by rw [← hqw1];have hnew:=bM (w.alloc (.cells #[.slice s1 n1 c1,.slice s2 n2 c2,.slice s3 n3 c3] 32)) [.slice none 0 0,.slice none 0 0,.slice none 0 0] 32;(try simp only [World.size_alloc] at hnew);exact hnew
 have b1_0 : w1.cell? ⟨w.heap.size + 1,0,none⟩ = some (.slice none 0 0):=HQw1_1.cell 0 rfl
 have b1_1 : w1.cell? ⟨w.heap.size + 1,1,none⟩ = some (.slice none 0 0):=HQw1_1.cell 1 rfl
 have b1_2 : w1.cell? ⟨w.heap.size + 1,2,none⟩ = some (.slice none 0 0):=HQw1_1.cell 2 rfl
 have HRw1:=Lib.hid HQw1_1
 clear HQw1_1
 clear hqw1
 have hR:=HRw1.out
 have e0:=hew1.out
 go_wp2_with (go_at_call 61;refine (mG _ _ _ (hP0.below hbw)).mono ?_;rw [k1.out];rintro e w2 ⟨rfl,hbw2⟩;replace b0_0:=ah b0_0 hbw2;replace b0_1:=ah b0_1 hbw2;replace b0_2:=ah b0_2 hbw2;replace hR:=hR.below hbw2;replace hbw : Below w.heap.size w w2:=hbw.trans (hbw2.mono hbw.size);have hz2:=hbw2.size)
 refine (hZ _ _ _ (hP0.below hbw) HG.out).mono ?_
 rintro e w3 ⟨t1,m1,d1,t2,m2,d2,t3,m3,d3,rfl,ho3,hbw3⟩
 have hz3:=hbw3.size
 have hsx : w.heap.size < w3.heap.size:=by omega
 have hsy : w.heap.size + 1 < w3.heap.size:=by omega
 replace b0_0:=ah b0_0 hbw3
 replace b0_1:=ah b0_1 hbw3
 replace b0_2:=ah b0_2 hbw3
 replace hR:=hR.below hbw3
 replace hbw : Below w.heap.size w w3:=hbw.trans (hbw3.mono hbw.size)
 have hsz : w.heap.size ≤ w3.heap.size:=by omega
 clear b1_0 b1_1 b1_2 HRw1 hew1
 go_wp2_with fail
 have hbA:=ay w3 (.cells #[.slice t1 m1 d1,.slice t2 m2 d2,.slice t3 m3 d3] 32)
 have hz4 : (w3.alloc (.cells #[.slice t1 m1 d1,.slice t2 m2 d2,.slice t3 m3 d3] 32)).heap.size = w3.heap.size + 1:=by simp
 have hT : TrW w (w3.alloc (.cells #[.slice t1 m1 d1,.slice t2 m2 d2,.slice t3 m3 d3] 32)) w2.heap.size w3.heap.size (.slice t1 m1 d1) (.slice t2 m2 d2) (.slice t3 m3 d3) (fk g 0) :=
  ⟨(ho3.below hbA).top,bM _ _ _,hR.below hbA,hbw.trans (hbA.mono hsz),by omega⟩
 have hlo : w2.heap.size ≤ w3.heap.size:=hz3
 clear ho3 hbw3 hR hbA hz4 b0_0 b0_1 b0_2 hbw
 generalize w3.alloc (.cells #[.slice t1 m1 d1,.slice t2 m2 d2,.slice t3 m3 d3] 32) = w4 at *
 go_loopw [18] (fun i wr=>∃ (k : Nat) (p1 : Option Addr) (q1 r1 : Nat) (p2 : Option Addr) (q2 r2 : Nat) (p3 : Option Addr) (q3 r3 : Nat),k ≤ n2 ∧ i = .int .i64 k ∧ TrW w wr w2.heap.size w3.heap.size (.slice p1 q1 r1) (.slice p2 q2 r2) (.slice p3 q3 r3) (fk g k)) (fun i _=>n2 - (intOf i).toNat)
 case atStart=>exact ⟨0,_,_,_,_,_,_,_,_,_,by omega,rfl,hT⟩
 case round =>
  clear hT
  obtain ⟨k,p1,q1,r1,p2,q2,r2,p3,q3,r3,hk,rfl,hT⟩:=hrel
  by_cases hlt : k < n2
  · obtain ⟨b,o,rfl,hbl,A,L,C,hc⟩:=h2.get hlt
    have hck:=(di hT.bel).1 b (o + k) hbl
    obtain ⟨hc1,hc2⟩:=hc k hlt
    rw [hc1] at hck
    have hkp : k < g.prio.length:=by have:=HG.out.len;have:=HG.out.ar.len;have:=H2.out;omega
    have HLk:=Lib.hid hc2.1
    clear hc hc1
    generalize A k = sa at *
    generalize L k = nn at *
    generalize C k = cc at *
    have hmx:=hc2.max
    go_wp2_with fail
    go_loopw [25] (fun i wr'=>∃ (j : Nat) (p1 : Option Addr) (q1 r1 : Nat) (p2 : Option Addr) (q2 r2 : Nat) (p3 : Option Addr) (q3 r3 : Nat),j ≤ nn ∧ i = .int .i64 j ∧ TrW w wr' w2.heap.size w3.heap.size (.slice p1 q1 r1) (.slice p2 q2 r2) (.slice p3 q3 r3) (d7 g k j)) (fun i _=>nn - (intOf i).toNat)
    case atStart=>exact ⟨0,_,_,_,_,_,_,_,_,_,by omega,rfl,hT⟩
    case round =>
     clear hT hck
     obtain ⟨j,p1,q1,r1,p2,q2,r2,p3,q3,r3,hj,rfl,hT⟩:=hrel
     by_cases hjl : j < nn
     · obtain ⟨b',o',rfl,hbl',hcl⟩:=hc2.get hjl
       have hce:=(di hT.bel).1 b' (o' + j) hbl'
       rw [hcl j hjl] at hce
       clear hcl
       have hok:=mJ HG.out (k:=k) (j:=j) hkp
       have HO:=Lib.hid hok.1
       have HK:=Lib.hid (show k < (d7 g k j).prio.length by rw [hok.2];exact hkp)
       have HS:=Lib.hid (jW (g:=g) (k:=k) (j:=j) (by have:=HLk.out;omega))
       clear hok
       have z0:=hT.box.cell 0 rfl
       have z1:=hT.box.cell 1 rfl
       have z2:=hT.box.cell 2 rfl
       by_cases hG : gS (d7 g k j) k (gi (gr g.ar.nxt k) j)
       · have k3:=Lib.hid (ax (fun h : ¬ gS (d7 g k j) k (gi (gr g.ar.nxt k) j)=>h hG))
         have HGo:=Lib.hid hG
         have HSy:=Lib.hid (HS.out.trans (mK hG))
         clear hG
         go_wp2_with (first
          | (go_at_call 64; refine (gT _ _ _ hT.own.is HO.out k HK.out _).mono ?_; rw [k3.out]; rintro e w5 ⟨rfl, hb5⟩; have hT5 := hT.below hb5; have x0 := hT5.box.cell 0 rfl; have x1 := hT5.box.cell 1 rfl; have x2 := hT5.box.cell 2 rfl)
          | (go_at_call 67; refine (nN _ _ _ hT5.own.is HO.out k HK.out _ HGo.out).mono ?_; rintro e w6 ⟨f1, f2, f3, f4, f5, f6, f7, f8, f9, rfl, ho6, hb6⟩; have hB6 := hT5.box.below hb6; have v0 := hB6.cell 0 rfl; have v1 := hB6.cell 1 rfl; have v2 := hB6.cell 2 rfl; have y0 := hB6.free 0; have y1 := hB6.free 1; have y2 := hB6.free 2))
         go_roundw
         case rel =>
          refine ⟨j + 1,f1,f2,f3,f4,f5,f6,f7,f8,f9,by omega,by go_num,?_⟩
          rw [HSy.out]
          exact hT5.store hb6 ho6 (by have:=hT5.lt;omega) (by omega)
         case measure=>simp [intOf];omega
       · have k3:=Lib.hid (aH hG)
         have HSn:=Lib.hid (HS.out.trans (lI HO.out HK.out hG))
         clear hG
         go_wp2_with (go_at_call 64;refine (gT _ _ _ hT.own.is HO.out k HK.out _).mono ?_;rw [k3.out];rintro e w5 ⟨rfl,hb5⟩;have hT5:=hT.below hb5)
         go_roundw
         case rel =>
          refine ⟨j + 1,p1,q1,r1,p2,q2,r2,p3,q3,r3,by omega,by go_num,?_⟩
          rw [HSn.out]
          exact hT5
         case measure=>simp [intOf];omega
     · have e : j = nn:=by omega
       go_wp2_with fail
       go_roundw
       case rel =>
        refine ⟨k + 1,p1,q1,r1,p2,q2,r2,p3,q3,r3,by omega,by go_num,?_⟩
        rw [← kJ (g:=g) (k:=k) (j:=j) (by have:=HLk.out;omega)]
        exact hT
       case measure=>simp [intOf];omega
  · have e : k = n2:=by omega
    subst e
    have q0:=hT.box.cell 0 rfl
    have q1':=hT.box.cell 1 rfl
    have q2':=hT.box.cell 2 rfl
    have r0:=hT.res.cell 0 rfl
    have r1':=hT.res.cell 1 rfl
    have r2':=hT.res.cell 2 rfl
    have y0:=hT.res.free 0
    have y1:=hT.res.free 1
    have y2:=hT.res.free 2
    go_wp2_with fail
    have ht : fk g k = jR g:=by unfold jR;rw [show g.prio.length = k by have:=HG.out.len;have:=HG.out.ar.len;have:=H2.out;omega]
    rw [ht] at hT
    have hF:=hT.own
    have hb:=hT.bel
    have hl3:=hT.lt
    clear hT
    refine bodyPost_ret (v:=.agg #[.slice p1 q1 r1,.slice p2 q2 r2,.slice p3 q3 r3]) (by simp [results,Try.results24,go_sem,r0,r1',r2',y0,y1,y2]) rfl ?_
    refine ⟨_,_,_,_,_,_,_,_,_,rfl,?_,?_⟩
    · exact hF.final (by repeat' (first|(with_reducible exact bd.refl _ _ _)|(with_reducible apply bd.set)|(with_reducible apply bd.alloc)|(with_reducible apply bd.drew)|(with_reducible apply bd.drewN)|(with_reducible refine bd.below ?_ (by assumption))|omega|(simp only [World.size_alloc,World.size_setCell,World.size_drew];omega))) (by first|omega|(simp only [World.size_alloc,World.size_setCell,World.size_drew];omega))
    · exact ap (ap (ap hb (by omega) _) (by omega) _) (by omega) _
end Go.Proofs.Ytiadchinhofieaa
