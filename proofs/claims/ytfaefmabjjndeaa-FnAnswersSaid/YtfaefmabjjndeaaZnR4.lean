/-
  Completing an initial part of the solver's plan yields the plan.
-/
import Derived.Test.YtfaefmabjjndeaaZnR3
import Derived.Test.YtfaefmabjjndeaaZnE23
namespace Go.Proofs.Ytfaefmabjjndeaa
set_option linter.unusedVariables false
set_option linter.unusedSimpArgs false
open Go.RowKit
theorem lI {g : Pa} (hg : PaOk g) {v : Nat} (hv : v < g.prio.length) : (pgP g).prio v = gi g.prio v:=lB (jr hg) hv
theorem iE {g : Pa} (hg : PaOk g) {ps : List Int} {v : Nat} (hv : v < g.prio.length) : gr (dc g ps).ar.nxt v = c9 g.ar.nxt ps v:=dA _ (by have:=hg.len;omega)
theorem rK {W : List Int} {i : Int} {v : Nat} : (v : Int) ∈ atL W i ↔ v < W.length ∧ gi W v = i:=by
 rw [ge]
 constructor
 · rintro ⟨u,h1,h2,h3⟩
   have : u = v:=by omega
   subst this;exact ⟨h1,h3⟩
 · rintro ⟨h1,h2⟩;exact ⟨v,h1,rfl,h2⟩
theorem nW {g : Pa} (hg : PaOk g) {v : Nat} (hv : v < g.prio.length) {u : Int} (hu : u ∈ gr g.ar.nxt v) : 0 ≤ u ∧ u < g.prio.length:=by
 obtain ⟨t,ht,e⟩:=c4 hu
 have:=dR hg hv ht
 rw [e] at this;exact this
theorem s9 {g : Pa} {W P : List Int} (h : AOk g W P) {i : Int} (hi : i = 0 ∨ i = 1) : PG.DomBy (pgP g) i (gG g) (fun v : Nat=>(v : Int) ∈ atL W i) fun v=>(gi P v).toNat:=by
 obtain ⟨⟨hg,⟨hl1,hl2⟩,hf⟩,h0,h1⟩:=h
 have hw : iB g i (atL W i) (eY g P i):=by
  rcases hi with e|e
  · rw [e];exact h0
  · rw [e];exact h1
 have hin : ∀ v : Nat,(v : Int) ∈ atL W i → v < g.prio.length ∧ gi W v = i:=fun v hv=>by
  have:=rK.1 hv
  exact ⟨by omega,this.2⟩
 have hcl : ∀ v : Nat,(v : Int) ∈ atL W i → (gi g.ar.own v = i → 0 ≤ gi P v ∧ gi P v ∈ atL W i) ∧ (gi g.ar.own v ≠ i → ∀ t,t < (gr g.ar.nxt v).length → gi (gr g.ar.nxt v) t ∈ atL W i):=fun v hv=>by
  obtain ⟨j,hj,e⟩:=c4 hv
  have:=hw.1 j hj
  rw [e] at this
  simp only [lE,Int.toNat_natCast] at this
  refine ⟨fun ho=>?_,this.2⟩
  have h2:=this.1 ho
  rw [gc (hin v hv).1,if_pos ho] at h2
  exact h2
 have hcn : ∀ v : Nat,(v : Int) ∈ atL W i → gi g.prio v % 2 = i ∨ ¬ jU g (atL W i) (eY g P i) v:=fun v hv=>by
  obtain ⟨j,hj,e⟩:=c4 hv
  have:=hw.2 j hj
  rw [e] at this
  simpa only [Int.toNat_natCast] using this
 refine ⟨fun v hv=>(hin v hv).1,fun v hv ho=>?_,fun v u hv ho he hu=>?_,PG.wins_of (n:=g.prio.length) (fun v hv=>(hin v hv).1) fun v hv hway=>?_⟩
 · have hv':=hin v hv
   rw [jX hg hv'.1] at ho
   obtain ⟨h2,h3⟩:=(hcl v hv).1 ho
   have h4:=(hf v hv'.1).2.1 (ho.trans hv'.2.symm)
   have h5:=nW hg hv'.1 h4
   obtain ⟨t,ht,e⟩:=c4 h4
   rw [Int.toNat_of_nonneg h2]
   exact ⟨(fG _ _).2 ⟨hv'.1,by omega,t,ht,by omega⟩,h3⟩
 · have hv':=hin v hv
   rw [jX hg hv'.1] at ho
   obtain ⟨_,_,t,ht,e⟩:=(fG _ _).1 he
   have:=(hcl v hv).2 ho t ht
   rw [e] at this;exact this
 · have hv':=hin v hv
   rw [lI hg hv'.1]
   refine (hcn v hv).resolve_right fun hb=>hb ?_
   unfold jU
   simp only [Int.toNat_natCast]
   refine hway.mono (Q:=fun v : Nat=>(v : Int) ∈ atL W i) (fun x y hx he=>?_) (fun x hx=>hx.1) (fun x hx=>⟨hx.1,?_⟩) hv
   · have hx':=hin x hx
     obtain ⟨h2,h3,t,ht,e⟩:=(fG _ _).1 he.1
     refine (fG _ _).2 ⟨h2,h3,?_⟩
     rw [iE hg h2]
     unfold c9
     by_cases ho : gi g.ar.own x = i
     · have h5:=(hcl x hx).1 ho
       rw [gc h2,if_pos ho,if_pos h5.1]
       refine ⟨0,by simp,?_⟩
       have:=he.2 (by rw [jX hg h2];exact ho)
       show gi P x = _
       omega
     · rw [gc h2,if_neg ho,if_neg (by decide)]
       exact ⟨t,ht,e⟩
   · have h3:=hx.2
     rw [lI hg (hin x hx.1).1,lI hg hv'.1] at h3
     exact h3
theorem ta {g : Pa} {W P : List Int} (h : AOk g W P) : W = aX g:=by
 have hl : W.length = g.prio.length:=h.1.2.1.1
 refine (jW (by rw [dw];exact hl)).2 fun v hv=>?_
 have h01:=(h.1.2.2 v (by omega)).1
 exact ((gY h.1.1 (by omega) h01).2 ⟨_,⟨_,s9 h h01⟩,rK.2 ⟨hv,rfl⟩⟩).symm
def j6 (g : Pa) (ps : List Int) : Prop:=∀ i,i = 0 ∨ i = 1 → g0 g (aX g) i ps
theorem tb {g : Pa} {W : List Int} {v : Nat} {ps : List Int} : ∀ us : List Int,(∀ u,u ∈ us → 0 ≤ u) → (∃ u,u ∈ us ∧ gi W u.toNat = gi W v ∧ g0 g W (gi W v) (ps.set v u)) → 0 ≤ eQ g W v ps us:=by
 intro us
 induction us with
 | nil => rintro _ ⟨u, h, _⟩; cases h
 | cons u us ih =>
   rintro h0 ⟨x,hx,h1⟩
   unfold eQ
   by_cases h : gi W u.toNat = gi W v ∧ g0 g W (gi W v) (ps.set v u)
   · rw [bW h,so];exact h0 u List.mem_cons_self
   · rw [aH h,uj]
     refine ih (fun u hu=>h0 u (List.mem_cons_of_mem _ hu)) ⟨x,?_,h1⟩
     rcases List.mem_cons.1 hx with e|e
     · subst e;exact absurd h1 h
     · exact e
theorem j7 {g : Pa} (hg : PaOk g) {ps : List Int} (h : PickOk g ps) {i : Int} (hi : i = 0 ∨ i = 1) (hG : g0 g (aX g) i ps) : ∃ σ,PG.DomBy (pgP (dc g ps)) i (fun v : Nat=>(v : Int) ∈ atL (aX g) i) (fun v : Nat=>(v : Int) ∈ atL (aX g) i) σ:=by
 have hok:=dQ hg h.pk
 obtain ⟨⟨σ,d⟩,_⟩:=PG.won_for (G:=pgP (dc g ps)) mA (S:=fun v : Nat=>(v : Int) ∈ atL (aX g) i) (fun v hv=>(dS.1 hv).1) (jS hok (jZ hg h i)) hi
 have e : PG.Won (pgP (dc g ps)) i (fun v : Nat=>(v : Int) ∈ atL (aX g) i) = fun v : Nat=>(v : Int) ∈ atL (aX g) i:=funext fun v=>propext ⟨fun h=>PG.won_in (S:=fun v : Nat=>(v : Int) ∈ atL (aX g) i) h,hG v⟩
 rw [e] at d
 exact ⟨σ,d⟩
theorem ez {g : Pa} (hg : PaOk g) {ps : List Int} {v u : Nat} : (pgP (dc g ps)).E v u ↔ v < g.prio.length ∧ u < g.prio.length ∧ (u : Int) ∈ c9 g.ar.nxt ps v:=by
 rw [fG]
 constructor
 · rintro ⟨h1,h2,t,ht,e⟩
   rw [iE hg h1] at ht e
   exact ⟨h1,h2,e ▸ du ht⟩
 · rintro ⟨h1,h2,h3⟩
   obtain ⟨t,ht,e⟩:=c4 h3
   exact ⟨h1,h2,t,by rw [iE hg h1];exact ht,by rw [iE hg h1];exact e⟩
theorem iV {g : Pa} {ps : List Int} {v x : Nat} {u : Int} (hv : v < ps.length) (hu : 0 ≤ u) : c9 g.ar.nxt (ps.set v u) x = if x = v then [u] else c9 g.ar.nxt ps x:=by
 unfold c9
 rw [dT hv]
 by_cases e : x = v
 · rw [if_pos e,if_pos hu,if_pos e]
 · rw [if_neg e,if_neg e]
theorem pH {g : Pa} (hg : PaOk g) {ps qs : List Int} (h : PickOk g ps) {i : Int} (hi : i = 0 ∨ i = 1) (hG : g0 g (aX g) i ps) (hr : ∀ v : Nat,(v : Int) ∈ atL (aX g) i → c9 g.ar.nxt qs v = c9 g.ar.nxt ps v) : g0 g (aX g) i qs:=by
 obtain ⟨σ,d⟩:=j7 hg h hi hG
 intro v hv
 refine ⟨_,⟨σ,PG.dom_less (G:=pgP (dc g ps)) rfl rfl (fun v u hv he=>?_) (fun v hv ho=>?_) d⟩,hv⟩
 · have:=(ez hg).1 he
   rw [hr v hv] at this
   exact (ez hg).2 this
 · have:=(ez hg).1 (d.mine v hv ho).1
   rw [← hr v hv] at this
   exact (ez hg).2 this
theorem pI {g : Pa} (hg : PaOk g) {ps : List Int} (h : PickOk g ps) {v : Nat} (hv : v < g.prio.length) (ho : gi g.ar.own v = gi (aX g) v) (hn : gi ps v = -1) (hG : j6 g ps) : 0 ≤ eQ g (aX g) v ps (gr g.ar.nxt v) ∧ j6 g (ps.set v (eQ g (aX g) v ps (gr g.ar.nxt v))):=by
 have hi:=gf (g:=g) hv
 have hpl:=h.pk.1
 have hnn : ∀ u,u ∈ gr g.ar.nxt v → 0 ≤ u:=fun u hu=>(nW hg hv hu).1
 have hex : 0 ≤ eQ g (aX g) v ps (gr g.ar.nxt v):=by
  refine tb _ hnn ?_
  obtain ⟨σ,d⟩:=j7 hg h hi (hG _ hi)
  have hvr : (v : Int) ∈ atL (aX g) (gi (aX g) v):=dS.2 ⟨hv,rfl⟩
  obtain ⟨m1,m2⟩:=d.mine v hvr (by rw [jX (dQ hg h.pk) hv];exact ho)
  obtain ⟨_,m3,m4⟩:=(ez hg).1 m1
  have e0 : c9 g.ar.nxt ps v = gr g.ar.nxt v:=if_neg (by omega)
  rw [e0] at m4
  refine ⟨_,m4,(dS.1 m2).2,fun x hx=>⟨_,⟨σ,PG.dom_less (G:=pgP (dc g ps)) rfl rfl (fun y u hy he=>?_) (fun y hy hoy=>?_) d⟩,hx⟩⟩
  · obtain ⟨a1,a2,a3⟩:=(ez hg).1 he
    rw [iV (by omega) (by omega)] at a3
    refine (ez hg).2 ⟨a1,a2,?_⟩
    split at a3
    · rename_i e;subst e
      rw [e0,List.mem_singleton.1 a3];exact m4
    · exact a3
  · obtain ⟨a1,a2,a3⟩:=(ez hg).1 (d.mine y hy hoy).1
    refine (ez hg).2 ⟨a1,a2,?_⟩
    rw [iV (by omega) (by omega)]
    split
    · rename_i e;subst e;exact List.mem_singleton.2 rfl
    · exact a3
 refine ⟨hex,fun i hi'=>?_⟩
 rcases j1 g (aX g) v ps (gr g.ar.nxt v) with e|⟨_,_,h3⟩
 · omega
 · by_cases e : i = gi (aX g) v
   · rw [e];exact h3
   · refine pH hg h hi' (hG i hi') fun x hx=>?_
     rw [iV (by omega) hex,if_neg]
     rintro rfl
     exact e (dS.1 hx).2.symm
theorem nX {g : Pa} (hg : PaOk g) {ps : List Int} (h : PickOk g ps) (hG : j6 g ps) : ∀ k,k ≤ g.prio.length → j6 g (ep g (aX g) ps k) ∧ (∀ v,v < k → gi g.ar.own v = gi (aX g) v → 0 ≤ gi (ep g (aX g) ps k) v) ∧ (∀ v,0 ≤ gi ps v ∨ k ≤ v → gi (ep g (aX g) ps k) v = gi ps v):=by
 intro k
 induction k with
 | zero => exact fun _ => ⟨hG, fun v hv => absurd hv (Nat.not_lt_zero _), fun v _ => rfl⟩
 | succ k ih =>
   intro hk
   obtain ⟨i1,i2,i3⟩:=ih (by omega)
   have hp:=iC hg h k (by omega)
   have hpl:=hp.pk.1
   show j6 g (jc g (aX g) (ep g (aX g) ps k) k) ∧ (∀ v,v < k + 1 → gi g.ar.own v = gi (aX g) v → 0 ≤ gi (jc g (aX g) (ep g (aX g) ps k) k) v) ∧ (∀ v,0 ≤ gi ps v ∨ k + 1 ≤ v → gi (jc g (aX g) (ep g (aX g) ps k) k) v = gi ps v)
   unfold jc
   split
   · rename_i hc
     obtain ⟨s1,s2⟩:=pI hg hp (v:=k) (by omega) hc.1 (mK hg hp hc.2) i1
     refine ⟨s2,fun v hv ho=>?_,fun v hv=>?_⟩
     · rw [dT (by omega)]
       split
       · exact s1
       · exact i2 v (by omega) ho
     · rw [dT (by omega)]
       split
       · rename_i e
         subst e
         have:=i3 v (.inr (Nat.le_refl _))
         rcases hv with hv|hv <;> omega
       · exact i3 v (hv.imp id (by omega))
   · rename_i hc
     refine ⟨i1,fun v hv ho=>?_,fun v hv=>i3 v (hv.imp id (by omega))⟩
     by_cases e : v = k
     · subst e
       refine Classical.byContradiction fun hn=>hc ⟨ho,by omega⟩
     · exact i2 v (by omega) ho
theorem rL {g : Pa} (hg : PaOk g) {P : List Int} (h : PickOk g P) (hG : j6 g P) (hall : ∀ v,v < g.prio.length → gi g.ar.own v = gi (aX g) v → 0 ≤ gi P v) : AOk g (aX g) P:=by
 have hpl:=h.pk.1
 have hneg : ∀ v,v < g.prio.length → gi g.ar.own v ≠ gi (aX g) v → gi P v = -1:=fun v hv ho=>by
  refine mK hg h (Int.not_le.1 fun hc=>ho (h.in' v hv hc).1)
 refine ⟨⟨hg,⟨dw g,hpl⟩,fun v hv=>⟨gf hv,fun ho=>?_,hneg v hv⟩⟩,?_⟩
 · rcases h.pk.2 v (by omega) with e|e
   · have:=hall v hv ho;omega
   · exact e
 have key : ∀ i,i = 0 ∨ i = 1 → iB g i (atL (aX g) i) (eY g P i):=by
  intro i hi
  obtain ⟨σ,d⟩:=j7 hg h hi (hG i hi)
  have hR : ∀ j,j < (atL (aX g) i).length → ∃ v : Nat,gi (atL (aX g) i) j = v ∧ (v : Int) ∈ atL (aX g) i ∧ v < g.prio.length ∧ gi (aX g) v = i:=fun j hj=>by
   obtain ⟨v,h1,h2,h3⟩:=ge.1 (du hj)
   rw [dw] at h1
   exact ⟨v,h2,dS.2 ⟨h1,h3⟩,h1,h3⟩
  refine ⟨fun j hj=>?_,fun j hj=>?_⟩
  · obtain ⟨v,e,_,hv,hw⟩:=hR j hj
    rw [e]
    simp only [lE,Int.toNat_natCast]
    refine ⟨fun ho=>?_,fun ho t ht=>?_⟩
    · have h0:=hall v hv (by omega)
      rw [gc hv,if_pos ho]
      refine ⟨h0,(gJ h0).2 ⟨?_,by rw [(h.in' v hv h0).2,hw]⟩⟩
      rcases h.pk.2 v (by omega) with e|e
      · omega
      · exact (nW hg hv e).2
    · have h0:=dR hg hv ht
      exact (gJ h0.1).2 ⟨h0.2,by rw [(jY hg hv).2 (by omega) t ht,hw]⟩
  · obtain ⟨v,e,hvr,hv,hw⟩:=hR j hj
    rw [e]
    simp only [jU,Int.toNat_natCast]
    refine Classical.byContradiction fun hc=>?_
    obtain ⟨c1,c2⟩:=not_or.1 hc
    refine c1 ?_
    have hb:=Classical.not_not.1 c2
    have hok:=dQ hg h.pk
    have pr : ∀ x,x < g.prio.length → (pgP (dc g P)).prio x = gi g.prio x:=fun x hx=>lI hok hx
    rw [← pr v hv]
    refine PG.not_bad d.wins (E:=(pgP (dc g (eY g P i))).E) (fun x y hx he=>?_) hvr (hb.mono (Q:=fun _=>True) (fun _ _ _ h=>h) (fun _ _=>trivial) (fun x hx=>⟨hx.1,?_⟩) trivial)
    · obtain ⟨a1,a2,a3⟩:=(ez hg).1 he
      have hxw:=(dS.1 hx).2
      have ho' : (pgP (dc g P)).own x = gi g.ar.own x:=jX hok a1
      by_cases ho : gi g.ar.own x = i
      · have h0:=hall x a1 (by omega)
        have e1 : c9 g.ar.nxt (eY g P i) x = [gi P x]:=by unfold c9;rw [gc a1,if_pos ho,if_pos h0]
        have e2 : c9 g.ar.nxt P x = [gi P x]:=if_pos h0
        rw [e1] at a3
        refine ⟨(ez hg).2 ⟨a1,a2,by rw [e2];exact a3⟩,fun _=>?_⟩
        obtain ⟨_,_,a4⟩:=(ez hg).1 (d.mine x hx (by rw [ho'];exact ho)).1
        rw [e2] at a4
        have:=List.mem_singleton.1 a3
        have:=List.mem_singleton.1 a4
        omega
      · have e1 : c9 g.ar.nxt (eY g P i) x = gr g.ar.nxt x:=by unfold c9;rw [gc a1,if_neg ho,if_neg (by decide)]
        have e2 : c9 g.ar.nxt P x = gr g.ar.nxt x:=if_neg (by rw [hneg x a1 (by omega)];decide)
        rw [e1,← e2] at a3
        exact ⟨(ez hg).2 ⟨a1,a2,a3⟩,fun h=>absurd (ho'.symm.trans h) ho⟩
    · rw [pr x (dS.1 hx.1).1,pr v hv];exact hx.2
 exact ⟨key 0 (.inl rfl),key 1 (.inr rfl)⟩
theorem pJ {g : Pa} {ps : List Int} (h : pD g ps) : j6 g ps:=by
 obtain ⟨⟨⟨hg,hp⟩,hw⟩,_⟩:=h
 intro i hi
 have hok:=dQ hg hp
 obtain ⟨⟨σ,d⟩,_⟩:=PG.won_for (G:=pgP (dc g ps)) mA tv (gW hok) hi
 have hiff : ∀ v : Nat,(v : Int) ∈ atL (aX g) i ↔ PG.Won (pgP (dc g ps)) i (gG (dc g ps)) v:=fun v=>by
  rw [← hw];exact s5 hok hi v
 intro v hv
 exact ⟨_,⟨σ,PG.dom_part d (fun v hv=>(hiff v).2 hv) fun v u hv ho he hu=>(dS.1 hu).1⟩,(hiff v).1 hv⟩
theorem rM {g : Pa} {ps : List Int} (h : pD g ps) : AOk g (aX g) (ep g (aX g) ps g.prio.length):=by
 have hg:=h.1.1.1
 obtain ⟨h1,h2,_⟩:=nX hg (iU h) (pJ h) _ (Nat.le_refl _)
 exact rL hg (iC hg (iU h) _ (Nat.le_refl _)) h1 h2
noncomputable abbrev pK (g : Pa) : List Int:=ep g (aX g) (noP g.prio.length) g.prio.length
theorem tc {g : Pa} (hg : PaOk g) : AOk g (aX g) (pK g):=rM (mL hg)
end Go.Proofs.Ytfaefmabjjndeaa
namespace Go.Proofs.Ytfaefmabjjndeaa
set_option linter.unusedVariables false
set_option linter.unusedSimpArgs false
open Go.RowKit
theorem rN {g : Pa} (hg : PaOk g) : (pK g).length = g.prio.length:=(iC hg (nV hg) _ (Nat.le_refl _)).pk.1
end Go.Proofs.Ytfaefmabjjndeaa
