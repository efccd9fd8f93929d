/-
  Right answers: who they tell wins does win, and the solver's answers are right.
-/
import Derived.Test.YtfaefmabjjndeaaZeR3
import Derived.Test.YtfaefmabjjndeaaZeE23
namespace Go.Proofs.Ytfaefmabjjndeaa
set_option linter.unusedVariables false
set_option linter.unusedSimpArgs false
open Go.RowKit
theorem jt {g : Pa} (hg : PaOk g) {v : Nat} (hv : v < g.prio.length) : (pgP g).prio v = gi g.prio v:=iW (iV hg) hv
theorem i7 {g : Pa} (hg : PaOk g) {ps : List Int} {v : Nat} (hv : v < g.prio.length) : gr (dj g ps).ar.nxt v = cS g.ar.nxt ps v:=dM _ (by have:=hg.len;omega)
theorem pm {W : List Int} {i : Int} {v : Nat} : (v : Int) ∈ atL W i ↔ v < W.length ∧ gi W v = i:=by
 rw [i4]
 constructor
 · rintro ⟨u,h1,h2,h3⟩
   have : u = v:=by omega
   subst this;exact ⟨h1,h3⟩
 · rintro ⟨h1,h2⟩;exact ⟨v,h1,rfl,h2⟩
theorem mS {g : Pa} (hg : PaOk g) {v : Nat} (hv : v < g.prio.length) {u : Int} (hu : u ∈ gr g.ar.nxt v) : 0 ≤ u ∧ u < g.prio.length:=by
 obtain ⟨t,ht,e⟩:=cX hu
 have:=ee hg hv ht
 rw [e] at this;exact this
theorem uM {g : Pa} {W P : List Int} (h : AOk g W P) {i : Int} (hi : i = 0 ∨ i = 1) : PG.DomBy (pgP g) i (fD g) (fun v : Nat=>(v : Int) ∈ atL W i) fun v=>(gi P v).toNat:=by
 obtain ⟨⟨hg,⟨hl1,hl2⟩,hf⟩,h0,h1⟩:=h
 have hw : ik g i (atL W i) (da g P i):=by
  rcases hi with e|e
  · rw [e];exact h0
  · rw [e];exact h1
 have hin : ∀ v : Nat,(v : Int) ∈ atL W i → v < g.prio.length ∧ gi W v = i:=fun v hv=>by
  have:=pm.1 hv
  exact ⟨by omega,this.2⟩
 have hcl : ∀ v : Nat,(v : Int) ∈ atL W i → (gi g.ar.own v = i → 0 ≤ gi P v ∧ gi P v ∈ atL W i) ∧ (gi g.ar.own v ≠ i → ∀ t,t < (gr g.ar.nxt v).length → gi (gr g.ar.nxt v) t ∈ atL W i):=fun v hv=>by
  obtain ⟨j,hj,e⟩:=cX hv
  have:=hw.1 j hj
  rw [e] at this
  simp only [kJ,Int.toNat_natCast] at this
  refine ⟨fun ho=>?_,this.2⟩
  have h2:=this.1 ho
  rw [fc (hin v hv).1,if_pos ho] at h2
  exact h2
 have hcn : ∀ v : Nat,(v : Int) ∈ atL W i → gi g.prio v % 2 = i ∨ ¬ iD g (atL W i) (da g P i) v:=fun v hv=>by
  obtain ⟨j,hj,e⟩:=cX hv
  have:=hw.2 j hj
  rw [e] at this
  simpa only [Int.toNat_natCast] using this
 refine ⟨fun v hv=>(hin v hv).1,fun v hv ho=>?_,fun v u hv ho he hu=>?_,PG.wins_of (n:=g.prio.length) (fun v hv=>(hin v hv).1) fun v hv hway=>?_⟩
 · have hv':=hin v hv
   rw [jH hg hv'.1] at ho
   obtain ⟨h2,h3⟩:=(hcl v hv).1 ho
   have h4:=(hf v hv'.1).2.1 (ho.trans hv'.2.symm)
   have h5:=mS hg hv'.1 h4
   obtain ⟨t,ht,e⟩:=cX h4
   rw [Int.toNat_of_nonneg h2]
   exact ⟨(fK _ _).2 ⟨hv'.1,by omega,t,ht,by omega⟩,h3⟩
 · have hv':=hin v hv
   rw [jH hg hv'.1] at ho
   obtain ⟨_,_,t,ht,e⟩:=(fK _ _).1 he
   have:=(hcl v hv).2 ho t ht
   rw [e] at this;exact this
 · have hv':=hin v hv
   rw [jt hg hv'.1]
   refine (hcn v hv).resolve_right fun hb=>hb ?_
   unfold iD
   simp only [Int.toNat_natCast]
   refine hway.mono (Q:=fun v : Nat=>(v : Int) ∈ atL W i) (fun x y hx he=>?_) (fun x hx=>hx.1) (fun x hx=>⟨hx.1,?_⟩) hv
   · have hx':=hin x hx
     obtain ⟨h2,h3,t,ht,e⟩:=(fK _ _).1 he.1
     refine (fK _ _).2 ⟨h2,h3,?_⟩
     rw [i7 hg h2]
     unfold cS
     by_cases ho : gi g.ar.own x = i
     · have h5:=(hcl x hx).1 ho
       rw [fc h2,if_pos ho,if_pos h5.1]
       refine ⟨0,by simp,?_⟩
       have:=he.2 (by rw [jH hg h2];exact ho)
       show gi P x = _
       omega
     · rw [fc h2,if_neg ho,if_neg (by decide)]
       exact ⟨t,ht,e⟩
   · have h3:=hx.2
     rw [jt hg (hin x hx.1).1,jt hg hv'.1] at h3
     exact h3
def kK (g : Pa) (ps : List Int) : Prop:=∀ i,i = 0 ∨ i = 1 → gP g (bT g) i ps
theorem uN {g : Pa} {W : List Int} {v : Nat} {ps : List Int} : ∀ us : List Int,(∀ u,u ∈ us → 0 ≤ u) → (∃ u,u ∈ us ∧ gi W u.toNat = gi W v ∧ gP g W (gi W v) (ps.set v u)) → 0 ≤ eQ g W v ps us:=by
 intro us
 induction us with
 | nil => rintro _ ⟨u, h, _⟩; cases h
 | cons u us ih =>
   rintro h0 ⟨x,hx,h1⟩
   unfold eQ
   by_cases h : gi W u.toNat = gi W v ∧ gP g W (gi W v) (ps.set v u)
   · rw [bV h,sF];exact h0 u List.mem_cons_self
   · rw [aX h,um]
     refine ih (fun u hu=>h0 u (List.mem_cons_of_mem _ hu)) ⟨x,?_,h1⟩
     rcases List.mem_cons.1 hx with e|e
     · subst e;exact absurd h1 h
     · exact e
theorem kL {g : Pa} (hg : PaOk g) {ps : List Int} (h : PickOk g ps) {i : Int} (hi : i = 0 ∨ i = 1) (hG : gP g (bT g) i ps) : ∃ σ,PG.DomBy (pgP (dj g ps)) i (fun v : Nat=>(v : Int) ∈ atL (bT g) i) (fun v : Nat=>(v : Int) ∈ atL (bT g) i) σ:=by
 have hok:=dO hg h.pk
 obtain ⟨⟨σ,d⟩,_⟩:=PG.won_for (G:=pgP (dj g ps)) jF (S:=fun v : Nat=>(v : Int) ∈ atL (bT g) i) (fun v hv=>(ew.1 hv).1) (gO hok (gR hg h i)) hi
 have e : PG.Won (pgP (dj g ps)) i (fun v : Nat=>(v : Int) ∈ atL (bT g) i) = fun v : Nat=>(v : Int) ∈ atL (bT g) i:=funext fun v=>propext ⟨fun h=>PG.won_in (S:=fun v : Nat=>(v : Int) ∈ atL (bT g) i) h,hG v⟩
 rw [e] at d
 exact ⟨σ,d⟩
theorem eR {g : Pa} (hg : PaOk g) {ps : List Int} {v u : Nat} : (pgP (dj g ps)).E v u ↔ v < g.prio.length ∧ u < g.prio.length ∧ (u : Int) ∈ cS g.ar.nxt ps v:=by
 rw [fK]
 constructor
 · rintro ⟨h1,h2,t,ht,e⟩
   rw [i7 hg h1] at ht e
   exact ⟨h1,h2,e ▸ dI ht⟩
 · rintro ⟨h1,h2,h3⟩
   obtain ⟨t,ht,e⟩:=cX h3
   exact ⟨h1,h2,t,by rw [i7 hg h1];exact ht,by rw [i7 hg h1];exact e⟩
theorem ju {g : Pa} {ps : List Int} {v x : Nat} {u : Int} (hv : v < ps.length) (hu : 0 ≤ u) : cS g.ar.nxt (ps.set v u) x = if x = v then [u] else cS g.ar.nxt ps x:=by
 unfold cS
 rw [c8 hv]
 by_cases e : x = v
 · rw [if_pos e,if_pos hu,if_pos e]
 · rw [if_neg e,if_neg e]
theorem rx {g : Pa} (hg : PaOk g) {ps qs : List Int} (h : PickOk g ps) {i : Int} (hi : i = 0 ∨ i = 1) (hG : gP g (bT g) i ps) (hr : ∀ v : Nat,(v : Int) ∈ atL (bT g) i → cS g.ar.nxt qs v = cS g.ar.nxt ps v) : gP g (bT g) i qs:=by
 obtain ⟨σ,d⟩:=kL hg h hi hG
 intro v hv
 refine ⟨_,⟨σ,PG.dom_less (G:=pgP (dj g ps)) rfl rfl (fun v u hv he=>?_) (fun v hv ho=>?_) d⟩,hv⟩
 · have:=(eR hg).1 he
   rw [hr v hv] at this
   exact (eR hg).2 this
 · have:=(eR hg).1 (d.mine v hv ho).1
   rw [← hr v hv] at this
   exact (eR hg).2 this
theorem ry {g : Pa} (hg : PaOk g) {ps : List Int} (h : PickOk g ps) {v : Nat} (hv : v < g.prio.length) (ho : gi g.ar.own v = gi (bT g) v) (hn : gi ps v = -1) (hG : kK g ps) : 0 ≤ eQ g (bT g) v ps (gr g.ar.nxt v) ∧ kK g (ps.set v (eQ g (bT g) v ps (gr g.ar.nxt v))):=by
 have hi:=hZ (g:=g) hv
 have hpl:=h.pk.1
 have hnn : ∀ u,u ∈ gr g.ar.nxt v → 0 ≤ u:=fun u hu=>(mS hg hv hu).1
 have hex : 0 ≤ eQ g (bT g) v ps (gr g.ar.nxt v):=by
  refine uN _ hnn ?_
  obtain ⟨σ,d⟩:=kL hg h hi (hG _ hi)
  have hvr : (v : Int) ∈ atL (bT g) (gi (bT g) v):=ew.2 ⟨hv,rfl⟩
  obtain ⟨m1,m2⟩:=d.mine v hvr (by rw [jH (dO hg h.pk) hv];exact ho)
  obtain ⟨_,m3,m4⟩:=(eR hg).1 m1
  have e0 : cS g.ar.nxt ps v = gr g.ar.nxt v:=if_neg (by omega)
  rw [e0] at m4
  refine ⟨_,m4,(ew.1 m2).2,fun x hx=>⟨_,⟨σ,PG.dom_less (G:=pgP (dj g ps)) rfl rfl (fun y u hy he=>?_) (fun y hy hoy=>?_) d⟩,hx⟩⟩
  · obtain ⟨a1,a2,a3⟩:=(eR hg).1 he
    rw [ju (by omega) (by omega)] at a3
    refine (eR hg).2 ⟨a1,a2,?_⟩
    split at a3
    · rename_i e;subst e
      rw [e0,List.mem_singleton.1 a3];exact m4
    · exact a3
  · obtain ⟨a1,a2,a3⟩:=(eR hg).1 (d.mine y hy hoy).1
    refine (eR hg).2 ⟨a1,a2,?_⟩
    rw [ju (by omega) (by omega)]
    split
    · rename_i e;subst e;exact List.mem_singleton.2 rfl
    · exact a3
 refine ⟨hex,fun i hi'=>?_⟩
 rcases kC g (bT g) v ps (gr g.ar.nxt v) with e|⟨_,_,h3⟩
 · omega
 · by_cases e : i = gi (bT g) v
   · rw [e];exact h3
   · refine rx hg h hi' (hG i hi') fun x hx=>?_
     rw [ju (by omega) hex,if_neg]
     rintro rfl
     exact e (ew.1 hx).2.symm
theorem pn {g : Pa} (hg : PaOk g) {ps : List Int} (h : PickOk g ps) (hG : kK g ps) : ∀ k,k ≤ g.prio.length → kK g (dP g (bT g) ps k) ∧ (∀ v,v < k → gi g.ar.own v = gi (bT g) v → 0 ≤ gi (dP g (bT g) ps k) v) ∧ (∀ v,0 ≤ gi ps v ∨ k ≤ v → gi (dP g (bT g) ps k) v = gi ps v):=by
 intro k
 induction k with
 | zero => exact fun _ => ⟨hG, fun v hv => absurd hv (Nat.not_lt_zero _), fun v _ => rfl⟩
 | succ k ih =>
   intro hk
   obtain ⟨i1,i2,i3⟩:=ih (by omega)
   have hp:=gS hg h k (by omega)
   have hpl:=hp.pk.1
   show kK g (gu g (bT g) (dP g (bT g) ps k) k) ∧ (∀ v,v < k + 1 → gi g.ar.own v = gi (bT g) v → 0 ≤ gi (gu g (bT g) (dP g (bT g) ps k) k) v) ∧ (∀ v,0 ≤ gi ps v ∨ k + 1 ≤ v → gi (gu g (bT g) (dP g (bT g) ps k) k) v = gi ps v)
   unfold gu
   split
   · rename_i hc
     obtain ⟨s1,s2⟩:=ry hg hp (v:=k) (by omega) hc.1 (kE hg hp hc.2) i1
     refine ⟨s2,fun v hv ho=>?_,fun v hv=>?_⟩
     · rw [c8 (by omega)]
       split
       · exact s1
       · exact i2 v (by omega) ho
     · rw [c8 (by omega)]
       split
       · rename_i e
         subst e
         have:=i3 v (.inr (Nat.le_refl _))
         rcases hv with hv|hv <;> omega
       · exact i3 v (hv.imp id (by omega))
   · rename_i hc
     refine ⟨i1,fun v hv ho=>?_,fun v hv=>i3 v (hv.imp id (by omega))⟩
     by_cases e : v = k
     · subst e
       refine Classical.byContradiction fun hn=>hc ⟨ho,by omega⟩
     · exact i2 v (by omega) ho
theorem tD {g : Pa} (hg : PaOk g) {P : List Int} (h : PickOk g P) (hG : kK g P) (hall : ∀ v,v < g.prio.length → gi g.ar.own v = gi (bT g) v → 0 ≤ gi P v) : AOk g (bT g) P:=by
 have hpl:=h.pk.1
 have hneg : ∀ v,v < g.prio.length → gi g.ar.own v ≠ gi (bT g) v → gi P v = -1:=fun v hv ho=>by
  refine kE hg h (Int.not_le.1 fun hc=>ho (h.in' v hv hc).1)
 refine ⟨⟨hg,⟨eb g,hpl⟩,fun v hv=>⟨hZ hv,fun ho=>?_,hneg v hv⟩⟩,?_⟩
 · rcases h.pk.2 v (by omega) with e|e
   · have:=hall v hv ho;omega
   · exact e
 have key : ∀ i,i = 0 ∨ i = 1 → ik g i (atL (bT g) i) (da g P i):=by
  intro i hi
  obtain ⟨σ,d⟩:=kL hg h hi (hG i hi)
  have hR : ∀ j,j < (atL (bT g) i).length → ∃ v : Nat,gi (atL (bT g) i) j = v ∧ (v : Int) ∈ atL (bT g) i ∧ v < g.prio.length ∧ gi (bT g) v = i:=fun j hj=>by
   obtain ⟨v,h1,h2,h3⟩:=i4.1 (dI hj)
   rw [eb] at h1
   exact ⟨v,h2,ew.2 ⟨h1,h3⟩,h1,h3⟩
  refine ⟨fun j hj=>?_,fun j hj=>?_⟩
  · obtain ⟨v,e,_,hv,hw⟩:=hR j hj
    rw [e]
    simp only [kJ,Int.toNat_natCast]
    refine ⟨fun ho=>?_,fun ho t ht=>?_⟩
    · have h0:=hall v hv (by omega)
      rw [fc hv,if_pos ho]
      refine ⟨h0,(gQ h0).2 ⟨?_,by rw [(h.in' v hv h0).2,hw]⟩⟩
      rcases h.pk.2 v (by omega) with e|e
      · omega
      · exact (mS hg hv e).2
    · have h0:=ee hg hv ht
      exact (gQ h0.1).2 ⟨h0.2,by rw [(kA hg hv).2 (by omega) t ht,hw]⟩
  · obtain ⟨v,e,hvr,hv,hw⟩:=hR j hj
    rw [e]
    simp only [iD,Int.toNat_natCast]
    refine Classical.byContradiction fun hc=>?_
    obtain ⟨c1,c2⟩:=not_or.1 hc
    refine c1 ?_
    have hb:=Classical.not_not.1 c2
    have hok:=dO hg h.pk
    have pr : ∀ x,x < g.prio.length → (pgP (dj g P)).prio x = gi g.prio x:=fun x hx=>jt hok hx
    rw [← pr v hv]
    refine PG.not_bad d.wins (E:=(pgP (dj g (da g P i))).E) (fun x y hx he=>?_) hvr (hb.mono (Q:=fun _=>True) (fun _ _ _ h=>h) (fun _ _=>trivial) (fun x hx=>⟨hx.1,?_⟩) trivial)
    · obtain ⟨a1,a2,a3⟩:=(eR hg).1 he
      have hxw:=(ew.1 hx).2
      have ho' : (pgP (dj g P)).own x = gi g.ar.own x:=jH hok a1
      by_cases ho : gi g.ar.own x = i
      · have h0:=hall x a1 (by omega)
        have e1 : cS g.ar.nxt (da g P i) x = [gi P x]:=by unfold cS;rw [fc a1,if_pos ho,if_pos h0]
        have e2 : cS g.ar.nxt P x = [gi P x]:=if_pos h0
        rw [e1] at a3
        refine ⟨(eR hg).2 ⟨a1,a2,by rw [e2];exact a3⟩,fun _=>?_⟩
        obtain ⟨_,_,a4⟩:=(eR hg).1 (d.mine x hx (by rw [ho'];exact ho)).1
        rw [e2] at a4
        have:=List.mem_singleton.1 a3
        have:=List.mem_singleton.1 a4
        omega
      · have e1 : cS g.ar.nxt (da g P i) x = gr g.ar.nxt x:=by unfold cS;rw [fc a1,if_neg ho,if_neg (by decide)]
        have e2 : cS g.ar.nxt P x = gr g.ar.nxt x:=if_neg (by rw [hneg x a1 (by omega)];decide)
        rw [e1,← e2] at a3
        exact ⟨(eR hg).2 ⟨a1,a2,a3⟩,fun h=>absurd (ho'.symm.trans h) ho⟩
    · rw [pr x (ew.1 hx.1).1,pr v hv];exact hx.2
 exact ⟨key 0 (.inl rfl),key 1 (.inr rfl)⟩
theorem rz {g : Pa} {ps : List Int} (h : rs g ps) : kK g ps:=by
 obtain ⟨⟨⟨hg,hp⟩,hw⟩,_⟩:=h
 intro i hi
 have hok:=dO hg hp
 obtain ⟨⟨σ,d⟩,_⟩:=PG.won_for (G:=pgP (dj g ps)) jF uZ (fW hok) hi
 have hiff : ∀ v : Nat,(v : Int) ∈ atL (bT g) i ↔ PG.Won (pgP (dj g ps)) i (fD (dj g ps)) v:=fun v=>by
  rw [← hw];exact uI hok hi v
 intro v hv
 exact ⟨_,⟨σ,PG.dom_part d (fun v hv=>(hiff v).2 hv) fun v u hv ho he hu=>(ew.1 hu).1⟩,(hiff v).1 hv⟩
theorem tE {g : Pa} {ps : List Int} (h : rs g ps) : AOk g (bT g) (dP g (bT g) ps g.prio.length):=by
 have hg:=h.1.1.1
 obtain ⟨h1,h2,_⟩:=pn hg (js h) (rz h) _ (Nat.le_refl _)
 exact tD hg (gS hg (js h) _ (Nat.le_refl _)) h1 h2
noncomputable abbrev tF (g : Pa) : List Int:=dP g (bT g) (noP g.prio.length) g.prio.length
theorem uO {g : Pa} (hg : PaOk g) : AOk g (bT g) (tF g):=tE (nY hg)
end Go.Proofs.Ytfaefmabjjndeaa
