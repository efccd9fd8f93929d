/-
  Right answers: who they tell wins does win, and the solver's answers are right.
-/
import Derived.Test.YtfaefmabjjndeaaZgR3
import Derived.Test.YtfaefmabjjndeaaZgE24
namespace Go.Proofs.Ytfaefmabjjndeaa
set_option linter.unusedVariables false
set_option linter.unusedSimpArgs false
open Go.RowKit
theorem u7 {g : Pa} (hg : PaOk g) {v : Nat} (hv : v < g.prio.length) : (pgP g).prio v = gi g.prio v:=iS (jT hg) hv
theorem kE {g : Pa} (hg : PaOk g) {ps : List Int} {v : Nat} (hv : v < g.prio.length) : gr (cW g ps).ar.nxt v = cQ g.ar.nxt ps v:=dK _ (by have:=hg.len;omega)
theorem oA {g : Pa} (hg : PaOk g) {v : Nat} (hv : v < g.prio.length) {u : Int} (hu : u ∈ gr g.ar.nxt v) : 0 ≤ u ∧ u < g.prio.length:=by
 obtain ⟨t,ht,e⟩:=dc hu
 have:=ep hg hv ht
 rw [e] at this;exact this
def iX (g : Pa) (ps : List Int) : Prop:=∀ i,i = 0 ∨ i = 1 → jG g (bH g) i ps
theorem tR {g : Pa} {W : List Int} {v : Nat} {ps : List Int} : ∀ us : List Int,(∀ u,u ∈ us → 0 ≤ u) → (∃ u,u ∈ us ∧ gi W u.toNat = gi W v ∧ jG g W (gi W v) (ps.set v u)) → 0 ≤ fH g W v ps us:=by
 intro us
 induction us with
 | nil => rintro _ ⟨u, h, _⟩; cases h
 | cons u us ih =>
   rintro h0 ⟨x,hx,h1⟩
   unfold fH
   by_cases h : gi W u.toNat = gi W v ∧ jG g W (gi W v) (ps.set v u)
   · rw [bZ h,tb];exact h0 u List.mem_cons_self
   · rw [aX h,uR]
     refine ih (fun u hu=>h0 u (List.mem_cons_of_mem _ hu)) ⟨x,?_,h1⟩
     rcases List.mem_cons.1 hx with e|e
     · subst e;exact absurd h1 h
     · exact e
theorem iY {g : Pa} (hg : PaOk g) {ps : List Int} (h : PickOk g ps) {i : Int} (hi : i = 0 ∨ i = 1) (hG : jG g (bH g) i ps) : ∃ σ,PG.DomBy (pgP (cW g ps)) i (fun v : Nat=>(v : Int) ∈ atL (bH g) i) (fun v : Nat=>(v : Int) ∈ atL (bH g) i) σ:=by
 have hok:=dO hg h.pk
 obtain ⟨⟨σ,d⟩,_⟩:=PG.won_for (G:=pgP (cW g ps)) kw (S:=fun v : Nat=>(v : Int) ∈ atL (bH g) i) (fun v hv=>(ee.1 hv).1) (kv hok (ky hg h i)) hi
 have e : PG.Won (pgP (cW g ps)) i (fun v : Nat=>(v : Int) ∈ atL (bH g) i) = fun v : Nat=>(v : Int) ∈ atL (bH g) i:=funext fun v=>propext ⟨fun h=>PG.won_in (S:=fun v : Nat=>(v : Int) ∈ atL (bH g) i) h,hG v⟩
 rw [e] at d
 exact ⟨σ,d⟩
theorem eJ {g : Pa} (hg : PaOk g) {ps : List Int} {v u : Nat} : (pgP (cW g ps)).E v u ↔ v < g.prio.length ∧ u < g.prio.length ∧ (u : Int) ∈ cQ g.ar.nxt ps v:=by
 rw [iU]
 constructor
 · rintro ⟨h1,h2,t,ht,e⟩
   rw [kE hg h1] at ht e
   exact ⟨h1,h2,e ▸ dr ht⟩
 · rintro ⟨h1,h2,h3⟩
   obtain ⟨t,ht,e⟩:=dc h3
   exact ⟨h1,h2,t,by rw [kE hg h1];exact ht,by rw [kE hg h1];exact e⟩
theorem jn {g : Pa} {ps : List Int} {v x : Nat} {u : Int} (hv : v < ps.length) (hu : 0 ≤ u) : cQ g.ar.nxt (ps.set v u) x = if x = v then [u] else cQ g.ar.nxt ps x:=by
 unfold cQ
 rw [cU hv]
 by_cases e : x = v
 · rw [if_pos e,if_pos hu,if_pos e]
 · rw [if_neg e,if_neg e]
theorem qw {g : Pa} (hg : PaOk g) {ps qs : List Int} (h : PickOk g ps) {i : Int} (hi : i = 0 ∨ i = 1) (hG : jG g (bH g) i ps) (hr : ∀ v : Nat,(v : Int) ∈ atL (bH g) i → cQ g.ar.nxt qs v = cQ g.ar.nxt ps v) : jG g (bH g) i qs:=by
 obtain ⟨σ,d⟩:=iY hg h hi hG
 intro v hv
 refine ⟨_,⟨σ,PG.dom_less (G:=pgP (cW g ps)) rfl rfl (fun v u hv he=>?_) (fun v hv ho=>?_) d⟩,hv⟩
 · have:=(eJ hg).1 he
   rw [hr v hv] at this
   exact (eJ hg).2 this
 · have:=(eJ hg).1 (d.mine v hv ho).1
   rw [← hr v hv] at this
   exact (eJ hg).2 this
theorem qx {g : Pa} (hg : PaOk g) {ps : List Int} (h : PickOk g ps) {v : Nat} (hv : v < g.prio.length) (ho : gi g.ar.own v = gi (bH g) v) (hn : gi ps v = -1) (hG : iX g ps) : 0 ≤ fH g (bH g) v ps (gr g.ar.nxt v) ∧ iX g (ps.set v (fH g (bH g) v ps (gr g.ar.nxt v))):=by
 have hi:=iW (g:=g) hv
 have hpl:=h.pk.1
 have hnn : ∀ u,u ∈ gr g.ar.nxt v → 0 ≤ u:=fun u hu=>(oA hg hv hu).1
 have hex : 0 ≤ fH g (bH g) v ps (gr g.ar.nxt v):=by
  refine tR _ hnn ?_
  obtain ⟨σ,d⟩:=iY hg h hi (hG _ hi)
  have hvr : (v : Int) ∈ atL (bH g) (gi (bH g) v):=ee.2 ⟨hv,rfl⟩
  obtain ⟨m1,m2⟩:=d.mine v hvr (by rw [np (dO hg h.pk) hv];exact ho)
  obtain ⟨_,m3,m4⟩:=(eJ hg).1 m1
  have e0 : cQ g.ar.nxt ps v = gr g.ar.nxt v:=if_neg (by omega)
  rw [e0] at m4
  refine ⟨_,m4,(ee.1 m2).2,fun x hx=>⟨_,⟨σ,PG.dom_less (G:=pgP (cW g ps)) rfl rfl (fun y u hy he=>?_) (fun y hy hoy=>?_) d⟩,hx⟩⟩
  · obtain ⟨a1,a2,a3⟩:=(eJ hg).1 he
    rw [jn (by omega) (by omega)] at a3
    refine (eJ hg).2 ⟨a1,a2,?_⟩
    split at a3
    · rename_i e;subst e
      rw [e0,List.mem_singleton.1 a3];exact m4
    · exact a3
  · obtain ⟨a1,a2,a3⟩:=(eJ hg).1 (d.mine y hy hoy).1
    refine (eJ hg).2 ⟨a1,a2,?_⟩
    rw [jn (by omega) (by omega)]
    split
    · rename_i e;subst e;exact List.mem_singleton.2 rfl
    · exact a3
 refine ⟨hex,fun i hi'=>?_⟩
 rcases kA g (bH g) v ps (gr g.ar.nxt v) with e|⟨_,_,h3⟩
 · omega
 · by_cases e : i = gi (bH g) v
   · rw [e];exact h3
   · refine qw hg h hi' (hG i hi') fun x hx=>?_
     rw [jn (by omega) hex,if_neg]
     rintro rfl
     exact e (ee.1 hx).2.symm
theorem fv {g : Pa} (hg : PaOk g) {ps : List Int} (h : PickOk g ps) (hG : iX g ps) : ∀ k,k ≤ g.prio.length → iX g (cV g (bH g) ps k) ∧ (∀ v,v < k → gi g.ar.own v = gi (bH g) v → 0 ≤ gi (cV g (bH g) ps k) v) ∧ (∀ v,0 ≤ gi ps v ∨ k ≤ v → gi (cV g (bH g) ps k) v = gi ps v):=by
 intro k
 induction k with
 | zero => exact fun _ => ⟨hG, fun v hv => absurd hv (Nat.not_lt_zero _), fun v _ => rfl⟩
 | succ k ih =>
   intro hk
   obtain ⟨i1,i2,i3⟩:=ih (by omega)
   have hp:=eV hg h k (by omega)
   have hpl:=hp.pk.1
   show iX g (eU g (bH g) (cV g (bH g) ps k) k) ∧ (∀ v,v < k + 1 → gi g.ar.own v = gi (bH g) v → 0 ≤ gi (eU g (bH g) (cV g (bH g) ps k) k) v) ∧ (∀ v,0 ≤ gi ps v ∨ k + 1 ≤ v → gi (eU g (bH g) (cV g (bH g) ps k) k) v = gi ps v)
   unfold eU
   split
   · rename_i hc
     obtain ⟨s1,s2⟩:=qx hg hp (v:=k) (by omega) hc.1 (kC hg hp hc.2) i1
     refine ⟨s2,fun v hv ho=>?_,fun v hv=>?_⟩
     · rw [cU (by omega)]
       split
       · exact s1
       · exact i2 v (by omega) ho
     · rw [cU (by omega)]
       split
       · rename_i e
         subst e
         have:=i3 v (.inr (Nat.le_refl _))
         rcases hv with hv|hv <;> omega
       · exact i3 v (hv.imp id (by omega))
   · rename_i hc
     refine ⟨i1,fun v hv ho=>?_,fun v hv=>i3 v (hv.imp id (by omega))⟩
     by_cases e : v = k
     · subst e
       refine Classical.byContradiction fun hn=>hc ⟨ho,by omega⟩
     · exact i2 v (by omega) ho
theorem sn {g : Pa} (hg : PaOk g) {P : List Int} (h : PickOk g P) (hG : iX g P) (hall : ∀ v,v < g.prio.length → gi g.ar.own v = gi (bH g) v → 0 ≤ gi P v) : AOk g (bH g) P:=by
 have hpl:=h.pk.1
 have hneg : ∀ v,v < g.prio.length → gi g.ar.own v ≠ gi (bH g) v → gi P v = -1:=fun v hv ho=>by
  refine kC hg h (Int.not_le.1 fun hc=>ho (h.in' v hv hc).1)
 refine ⟨⟨hg,⟨dN g,hpl⟩,fun v hv=>⟨iW hv,fun ho=>?_,hneg v hv⟩⟩,?_⟩
 · rcases h.pk.2 v (by omega) with e|e
   · have:=hall v hv ho;omega
   · exact e
 have key : ∀ i,i = 0 ∨ i = 1 → pj g i (atL (bH g) i) (fZ g P i):=by
  intro i hi
  obtain ⟨σ,d⟩:=iY hg h hi (hG i hi)
  have hR : ∀ j,j < (atL (bH g) i).length → ∃ v : Nat,gi (atL (bH g) i) j = v ∧ (v : Int) ∈ atL (bH g) i ∧ v < g.prio.length ∧ gi (bH g) v = i:=fun j hj=>by
   obtain ⟨v,h1,h2,h3⟩:=mq.1 (dr hj)
   rw [dN] at h1
   exact ⟨v,h2,ee.2 ⟨h1,h3⟩,h1,h3⟩
  refine ⟨fun j hj=>?_,fun j hj=>?_⟩
  · obtain ⟨v,e,_,hv,hw⟩:=hR j hj
    rw [e]
    simp only [oB,Int.toNat_natCast]
    refine ⟨fun ho=>?_,fun ho t ht=>?_⟩
    · have h0:=hall v hv (by omega)
      rw [iZ hv,if_pos ho]
      refine ⟨h0,(gX h0).2 ⟨?_,by rw [(h.in' v hv h0).2,hw]⟩⟩
      rcases h.pk.2 v (by omega) with e|e
      · omega
      · exact (oA hg hv e).2
    · have h0:=ep hg hv ht
      exact (gX h0.1).2 ⟨h0.2,by rw [(gW hg hv).2 (by omega) t ht,hw]⟩
  · obtain ⟨v,e,hvr,hv,hw⟩:=hR j hj
    rw [e]
    simp only [mr,Int.toNat_natCast]
    refine Classical.byContradiction fun hc=>?_
    obtain ⟨c1,c2⟩:=not_or.1 hc
    refine c1 ?_
    have hb:=Classical.not_not.1 c2
    have hok:=dO hg h.pk
    have pr : ∀ x,x < g.prio.length → (pgP (cW g P)).prio x = gi g.prio x:=fun x hx=>u7 hok hx
    rw [← pr v hv]
    refine PG.not_bad d.wins (E:=(pgP (cW g (fZ g P i))).E) (fun x y hx he=>?_) hvr (hb.mono (Q:=fun _=>True) (fun _ _ _ h=>h) (fun _ _=>trivial) (fun x hx=>⟨hx.1,?_⟩) trivial)
    · obtain ⟨a1,a2,a3⟩:=(eJ hg).1 he
      have hxw:=(ee.1 hx).2
      have ho' : (pgP (cW g P)).own x = gi g.ar.own x:=np hok a1
      by_cases ho : gi g.ar.own x = i
      · have h0:=hall x a1 (by omega)
        have e1 : cQ g.ar.nxt (fZ g P i) x = [gi P x]:=by unfold cQ;rw [iZ a1,if_pos ho,if_pos h0]
        have e2 : cQ g.ar.nxt P x = [gi P x]:=if_pos h0
        rw [e1] at a3
        refine ⟨(eJ hg).2 ⟨a1,a2,by rw [e2];exact a3⟩,fun _=>?_⟩
        obtain ⟨_,_,a4⟩:=(eJ hg).1 (d.mine x hx (by rw [ho'];exact ho)).1
        rw [e2] at a4
        have:=List.mem_singleton.1 a3
        have:=List.mem_singleton.1 a4
        omega
      · have e1 : cQ g.ar.nxt (fZ g P i) x = gr g.ar.nxt x:=by unfold cQ;rw [iZ a1,if_neg ho,if_neg (by decide)]
        have e2 : cQ g.ar.nxt P x = gr g.ar.nxt x:=if_neg (by rw [hneg x a1 (by omega)];decide)
        rw [e1,← e2] at a3
        exact ⟨(eJ hg).2 ⟨a1,a2,a3⟩,fun h=>absurd (ho'.symm.trans h) ho⟩
    · rw [pr x (ee.1 hx.1).1,pr v hv];exact hx.2
 exact ⟨key 0 (.inl rfl),key 1 (.inr rfl)⟩
theorem f7 {g : Pa} {ps : List Int} (h : jH g ps) : iX g ps:=by
 obtain ⟨⟨⟨hg,hp⟩,hw⟩,_⟩:=h
 intro i hi
 have hok:=dO hg hp
 obtain ⟨⟨σ,d⟩,_⟩:=PG.won_for (G:=pgP (cW g ps)) kw t7 (fV hok) hi
 have hiff : ∀ v : Nat,(v : Int) ∈ atL (bH g) i ↔ PG.Won (pgP (cW g ps)) i (fU (cW g ps)) v:=fun v=>by
  rw [← hw];exact tO hok hi v
 intro v hv
 exact ⟨_,⟨σ,PG.dom_part d (fun v hv=>(hiff v).2 hv) fun v u hv ho he hu=>(ee.1 hu).1⟩,(hiff v).1 hv⟩
theorem so {g : Pa} {ps : List Int} (h : jH g ps) : AOk g (bH g) (cV g (bH g) ps g.prio.length):=by
 have hg:=h.1.1.1
 obtain ⟨h1,h2,_⟩:=fv hg (fY h) (f7 h) _ (Nat.le_refl _)
 exact sn hg (eV hg (fY h) _ (Nat.le_refl _)) h1 h2
noncomputable abbrev sr (g : Pa) : List Int:=cV g (bH g) (noP g.prio.length) g.prio.length
end Go.Proofs.Ytfaefmabjjndeaa
