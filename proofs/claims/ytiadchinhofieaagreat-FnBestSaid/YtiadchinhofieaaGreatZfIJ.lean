/-
  The best plan wins what can be won.
-/
import Derived.Test.YtiadchinhofieaaGreatZfI4
import Derived.Test.YtiadchinhofieaaGreatZfR1
namespace Go.Proofs.YtiadchinhofieaaGreat
set_option linter.unusedVariables false
set_option linter.unusedSimpArgs false
open Go.RowKit
theorem mQ {g : Pa} {f : Nat → Nat} (hn : g.prio.length ≤ 12) (hf : ∀ x,x < g.prio.length → f x < g.prio.length) {m : Nat} {p : Nat → Nat} (h1 : p (m + 1) = p 0) (hp : ∀ k,k ≤ m → p k < g.prio.length ∧ ¬ bX g (wtF g f (f (p k))) (wtF g f (p (k + 1))))
  (he : ∀ k,k ≤ m → EvP g (hdF g f (p k))) (hx : ∀ k,k ≤ m → gi g.prio (p k) ≤ gi g.prio (p 0)) : EvP g (p 0):=by
 have hlt : ∀ k,k % (m + 1) ≤ m:=fun k=>by have:=Nat.mod_lt k (show 0 < m + 1 by omega);omega
 have hnx : ∀ k,p ((k + 1) % (m + 1)) = p (k % (m + 1) + 1):=fun k=>by
  have:=hlt k
  by_cases e : k % (m + 1) = m
  · rw [Nat.add_mod,e]
    by_cases em : m = 0
    · subst em;simp [h1]
    · rw [Nat.mod_eq_of_lt (show 1 < m + 1 by omega),Nat.mod_self,h1]
  · have em : 0 < m:=by omega
    rw [Nat.add_mod,Nat.mod_eq_of_lt (show 1 < m + 1 by omega),Nat.mod_eq_of_lt (show k % (m + 1) + 1 < m + 1 by omega)]
 obtain ⟨j,j1,j2⟩:=uX (g:=g) (fun k=>(p k : Int)) m
 have U : Ups g f (fun k=>p ((j + k) % (m + 1))):=fun k=>by
  have h:=hp _ (hlt (j + k))
  refine ⟨h.1,?_⟩
  show ¬ bX g _ (wtF g f (p ((j + k + 1) % (m + 1))))
  rw [hnx]
  exact h.2
 have e0 : p ((j + 0) % (m + 1)) = p j:=by rw [Nat.add_zero,Nat.mod_eq_of_lt (by omega)]
 have h:=xG hn hf U (p:=m + 1) (by omega) (fun k=>by
  show p ((j + (k + (m + 1))) % (m + 1)) = p ((j + k) % (m + 1))
  rw [← Nat.add_assoc,Nat.add_mod_right]) (fun k=>by
  show ¬ Hv g (p ((j + k) % (m + 1))) (p ((j + 0) % (m + 1)))
  rw [e0]
  exact j2 _ (hlt _))
 change ¬ HR g (hdF g f (p ((j + 0) % (m + 1))) : Nat) (p ((j + 0) % (m + 1)) : Nat) at h
 rw [e0] at h
 have hev : EvP g (p j):=Classical.byContradiction fun hc=>h (.inl ⟨he j j1,hc⟩)
 have h2:=j2 0 (Nat.zero_le _)
 have h3:=hx j j1
 unfold Hv at h2
 rw [Int.toNat_natCast,Int.toNat_natCast] at h2
 unfold EvP at hev ⊢
 rw [Int.toNat_natCast] at hev ⊢
 have : gi g.prio (p 0) = gi g.prio (p j):=by omega
 rw [this];exact hev
section
variable {g : Pa} (hs : dr g) {σ : List Int} (h0 : b9 g.ar 0 σ) (hfix : dK g σ = σ)
include hs h0
theorem vV : PG.Dom (pgP g) 0 (ja g) fun v=>v < g.prio.length ∧ EvP g (WW g σ v).hd:=by
 obtain ⟨k,k1,k2⟩:=nT hs h0
 have hg:=hs.1
 have hR:=cI hg.ar 1 k
 have hF:=fL hs h0 hR
 have hst:=fun x hx=>eT hg h0 hR (x:=x) hx
 have hW : ∀ v,v < g.prio.length → WW g σ v = wtF g (nxP g.ar σ (cZ g.ar 1 k)) v:=fun v hv=>k1 v hv
 have hn0:=fun {v} (e : gi g.ar.own v = 0)=>kt (g:=g) (σ:=σ) (τ:=cZ g.ar 1 k) e
 generalize nxP g.ar σ (cZ g.ar 1 k) = f at *
 have hhd : ∀ v,v < g.prio.length → (WW g σ v).hd = (hdF g f v : Nat):=fun v hv=>by rw [hW v hv];rfl
 refine ⟨fun v=>(gi σ v).toNat,⟨fun v hv=>hv.1,fun v hv ho=>?_,fun v u hv ho he hu=>?_,PG.wins_of (n:=g.prio.length) (fun v hv=>hv.1) fun v hv hw=>?_⟩⟩
 · rw [kp hg hv.1] at ho
   obtain ⟨f1,f2,f3⟩:=f9 hs h0 hv.1 ho
   obtain ⟨t,t1,t2⟩:=cR f1
   refine ⟨(il _ _).2 ⟨hv.1,f3,t,t1,by rw [t2,f2]⟩,f3,?_⟩
   rw [hhd _ f3,← hn0 ho,da hF hv.1,← hhd v hv.1]
   exact hv.2
 · rw [kp hg hv.1] at ho
   have ho1:=(ip hs hv.1).resolve_left ho
   obtain ⟨_,u1,t,t1,t2⟩:=(il _ _).1 he
   refine ⟨u1,Classical.byContradiction fun hc=>?_⟩
   have h:=lN (k2 v hv.1 ho1 u (by rw [← t2];exact cD t1))
   refine h (.inl ⟨?_,hc⟩)
   rw [hhd _ (hF v hv.1),da hF hv.1,← hhd v hv.1]
   exact hv.2
 · obtain ⟨m,p,p0,p1,p2⟩:=hw.path
   have hin : ∀ k,k ≤ m → (p k < g.prio.length ∧ EvP g (WW g σ (p k)).hd) ∧ gi g.prio (p k) ≤ gi g.prio v:=fun k hk=>by
    cases k with
    | zero => rw [p0]; exact ⟨hv, Int.le_refl _⟩
    | succ k =>
      have h:=(p2 k (by omega)).2
      refine ⟨h.1,?_⟩
      have h2:=h.2
      rw [j6 hg h.1.1,j6 hg hv.1] at h2
      exact h2
   have hq:=mQ hs.2 hF (m:=m) (p:=p) (by rw [p1,p0]) (fun k hk=>by
    obtain ⟨⟨q1,q2⟩,_⟩:=hin k hk
    obtain ⟨⟨e1,e2⟩,_⟩:=p2 k hk
    obtain ⟨_,u1,t,t1,t2⟩:=(il _ _).1 e1
    refine ⟨q1,?_⟩
    rw [kp hg q1] at e2
    rcases ip hs q1 with e|e
    · rw [e2 e,← hn0 e];exact cP
    · have h:=k2 _ q1 e (p (k + 1)) (by rw [← t2];exact cD t1)
      rw [hW _ (hF _ q1),hW _ u1] at h
      exact h) (fun k hk=>by
    obtain ⟨⟨q1,q2⟩,_⟩:=hin k hk
    rw [hhd _ q1] at q2
    exact q2) (fun k hk=>by rw [p0];exact (hin k hk).2)
   rw [p0] at hq
   rw [j6 hg hv.1]
   unfold EvP at hq
   rw [Int.toNat_natCast] at hq
   exact hq
include hfix
theorem xu : PG.Dom (pgP g) 1 (ja g) fun v=>v < g.prio.length ∧ ¬ EvP g (WW g σ v).hd:=by
 obtain ⟨k,k1,k2⟩:=nT hs h0
 have hg:=hs.1
 have hR:=cI hg.ar 1 k
 have hF:=fL hs h0 hR
 have hst:=fun x hx=>eT hg h0 hR (x:=x) hx
 have hW : ∀ v,v < g.prio.length → WW g σ v = wtF g (nxP g.ar σ (cZ g.ar 1 k)) v:=fun v hv=>k1 v hv
 have hn0:=fun {v} (e : gi g.ar.own v = 0)=>kt (g:=g) (σ:=σ) (τ:=cZ g.ar 1 k) e
 have hn1:=fun {v} (e : gi g.ar.own v = 1)=>vt (g:=g) (σ:=σ) (τ:=cZ g.ar 1 k) e
 have hopt:=fun v hv ho u hu=>rS hs h0 hfix (v:=v) hv ho (u:=u) hu
 generalize nxP g.ar σ (cZ g.ar 1 k) = f at *
 have hhd : ∀ v,v < g.prio.length → (WW g σ v).hd = (hdF g f v : Nat):=fun v hv=>by rw [hW v hv];rfl
 refine ⟨fun v=>(gi (cZ g.ar 1 k) v).toNat,⟨fun v hv=>hv.1,fun v hv ho=>?_,fun v u hv ho he hu=>?_,PG.wins_of (n:=g.prio.length) (fun v hv=>hv.1) fun v hv hw=>?_⟩⟩
 · rw [kp hg hv.1] at ho
   obtain ⟨s1,s2,s3⟩:=hst v hv.1
   rw [hn1 ho] at s1 s2
   obtain ⟨t,t1,t2⟩:=cR s1
   refine ⟨(il _ _).2 ⟨hv.1,s2,t,t1,t2⟩,s2,?_⟩
   rw [hhd _ s2,← hn1 ho,da hF hv.1,← hhd v hv.1]
   exact hv.2
 · rw [kp hg hv.1] at ho
   have ho1:=(ip hs hv.1).resolve_right ho
   obtain ⟨_,u1,t,t1,t2⟩:=(il _ _).1 he
   refine ⟨u1,fun hc=>?_⟩
   have h:=lN (hopt v hv.1 ho1 u (by rw [← t2];exact cD t1))
   refine h (.inl ⟨hc,?_⟩)
   obtain ⟨_,_,f3⟩:=f9 hs h0 hv.1 ho1
   rw [hhd _ f3,← hn0 ho1,da hF hv.1,← hhd v hv.1]
   exact hv.2
 · obtain ⟨m,p,p0,p1,p2⟩:=hw.path
   have hin : ∀ k,k ≤ m → (p k < g.prio.length ∧ ¬ EvP g (WW g σ (p k)).hd) ∧ gi g.prio (p k) ≤ gi g.prio v:=fun k hk=>by
    cases k with
    | zero => rw [p0]; exact ⟨hv, Int.le_refl _⟩
    | succ k =>
      have h:=(p2 k (by omega)).2
      refine ⟨h.1,?_⟩
      have h2:=h.2
      rw [j6 hg h.1.1,j6 hg hv.1] at h2
      exact h2
   have hq:=mQ (g:=eU g) (f:=f) (by rw [fK];exact hs.2) (by rw [fK];exact hF) (m:=m) (p:=p) (by rw [p1,p0]) (fun k hk=>by
    obtain ⟨⟨q1,q2⟩,_⟩:=hin k hk
    obtain ⟨⟨e1,e2⟩,_⟩:=p2 k hk
    obtain ⟨_,u1,t,t1,t2⟩:=(il _ _).1 e1
    refine ⟨by rw [fK];exact q1,?_⟩
    rw [rM hF (hF _ q1),rM hF u1,vf (fI hF (hF _ q1)) (fI hF u1) rfl rfl]
    rw [kp hg q1] at e2
    rcases ip hs q1 with e|e
    · have h:=hopt _ q1 e (p (k + 1)) (by rw [← t2];exact cD t1)
      obtain ⟨_,_,f3⟩:=f9 hs h0 q1 e
      rw [hW _ u1,hW _ f3,← hn0 e] at h
      exact h
    · rw [e2 e,← hn1 e];exact cP) (fun k hk=>by
    obtain ⟨⟨q1,q2⟩,_⟩:=hin k hk
    rw [xH hF q1,mK (fI hF q1)]
    rw [hhd _ q1] at q2
    exact q2) (fun k hk=>by
    obtain ⟨⟨q1,_⟩,q2⟩:=hin k hk
    rw [pC q1,pC (by rw [p0];exact hv.1),p0]
    omega)
   rw [p0,mK hv.1] at hq
   rw [j6 hg hv.1]
   unfold EvP at hq
   rw [Int.toNat_natCast] at hq
   omega
end
theorem pT {g : Pa} (hs : dr g) {v : Nat} (hv : v < g.prio.length) : gi (bL g) v = gi g.prio (WW g (dL g) v).hd.toNat % 2:=by
 have h0:=fh hs
 by_cases e : EvP g (WW g (dL g) v).hd
 · have h1:=(jB hs.1 hv (.inl rfl)).2 ⟨_,vV hs h0,hv,e⟩
   unfold EvP at e
   omega
 · have h1:=(jB hs.1 hv (.inr rfl)).2 ⟨_,xu hs h0 (pE hs),hv,e⟩
   unfold EvP at e
   omega
end Go.Proofs.YtiadchinhofieaaGreat
