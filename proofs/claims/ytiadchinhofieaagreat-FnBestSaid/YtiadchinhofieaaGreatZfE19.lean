/-
  Solved and PlanFrom: the program's side.
-/
import Derived.Test.YtiadchinhofieaaGreatZfE14
import Derived.Test.YtiadchinhofieaaGreatZfD5
import Derived.Test.YtiadchinhofieaaGreatZfE15
import Derived.Test.YtiadchinhofieaaGreatZfNp
namespace Go.Proofs.YtiadchinhofieaaGreat
set_option linter.unusedVariables false
set_option linter.unusedSimpArgs false
open Go.RowKit
def l4 (g : Pa) (W : List Int) (i : Int) (ps : List Int) : Prop:=∀ v : Nat,(v : Int) ∈ atL W i → PG.Won (pgP (eQ g ps)) i (fun v : Nat=>(v : Int) ∈ atL W i) v
noncomputable def gO (g : Pa) (W : List Int) (v : Nat) (ps : List Int) : List Int → Int
 | [] => -1
 | u :: us => if tf (gi W u.toNat = gi W v ∧ l4 g W (gi W v) (ps.set v u)) then u else gO g W v ps us
noncomputable def rI (g : Pa) (W ps : List Int) (v : Nat) : List Int:=if gi g.ar.own v = gi W v ∧ gi ps v < 0 then ps.set v (gO g W v ps (gr g.ar.nxt v)) else ps
noncomputable def iT (g : Pa) (W ps : List Int) : Nat → List Int
 | 0 => ps
 | k + 1 => rI g W (iT g W ps k) k
structure PickOk (g : Pa) (ps : List Int) : Prop where
 pk : fY g ps
 in' : ∀ v,v < g.prio.length → 0 ≤ gi ps v → gi g.ar.own v = gi (bL g) v ∧ gi (bL g) (gi ps v).toNat = gi (bL g) v
theorem eR {g : Pa} (hg : PaOk g) {v t : Nat} (hv : v < g.prio.length) (ht : t < (gr g.ar.nxt v).length) : 0 ≤ gi (gr g.ar.nxt v) t ∧ gi (gr g.ar.nxt v) t < g.prio.length:=by
 have hl:=hg.len
 have:=(hg.ar.vert v (by omega)).2.2.2.2 t ht
 exact ⟨this.1,by omega⟩
theorem As {g : Pa} (hg : PaOk g) {v t : Nat} (hv : v < g.prio.length) (ht : t < (gr g.ar.nxt v).length) : (pgP g).E v (gi (gr g.ar.nxt v) t).toNat:=by
 have:=eR hg hv ht
 exact (il _ _).2 ⟨hv,by omega,t,ht,by omega⟩
theorem po {g : Pa} (hg : PaOk g) {v : Nat} (hv : v < g.prio.length) : (∃ t,t < (gr g.ar.nxt v).length ∧ gi (bL g) (gi (gr g.ar.nxt v) t).toNat = gi (bL g) v) ∧ (gi g.ar.own v ≠ gi (bL g) v → ∀ t,t < (gr g.ar.nxt v).length → gi (bL g) (gi (gr g.ar.nxt v) t).toNat = gi (bL g) v):=by
 have hl:=hg.len
 have hi:=nI (g:=g) hv
 obtain ⟨⟨σ,d⟩,_⟩:=PG.won_for (G:=pgP g) uv Ap (jY hg) hi
 have hw : PG.Won (pgP g) (gi (bL g) v) (ja g) v:=(jB hg hv hi).1 rfl
 have hall : gi g.ar.own v ≠ gi (bL g) v → ∀ t,t < (gr g.ar.nxt v).length → gi (bL g) (gi (gr g.ar.nxt v) t).toNat = gi (bL g) v:=fun ho t ht=>by
  have hb:=eR hg hv ht
  have:=d.yours v _ hw (by rw [kp hg hv];exact ho) (As hg hv ht) (show _ < _ by omega)
  exact (jB hg (by omega) hi).2 this
 refine ⟨?_,hall⟩
 by_cases ho : gi g.ar.own v = gi (bL g) v
 · obtain ⟨b1,b2⟩:=d.mine v hw (by rw [kp hg hv];exact ho)
   obtain ⟨_,h2,t,ht,e⟩:=(il _ _).1 b1
   exact ⟨t,ht,by rw [e,Int.toNat_natCast];exact (jB hg h2 hi).2 b2⟩
 · obtain ⟨_,_,h3,_⟩:=hg.ar.vert v (by omega)
   exact ⟨0,by omega,hall ho 0 (by omega)⟩
theorem kK {g : Pa} {i : Int} {v : Nat} : (v : Int) ∈ atL (bL g) i ↔ v < g.prio.length ∧ gi (bL g) v = i:=by
 rw [rG,eO]
 constructor
 · rintro ⟨u,h1,h2,h3⟩
   have : u = v:=by omega
   subst this;exact ⟨h1,h3⟩
 · rintro ⟨h1,h2⟩;exact ⟨v,h1,rfl,h2⟩
theorem lE {g : Pa} {i x : Int} (h0 : 0 ≤ x) : x ∈ atL (bL g) i ↔ x < g.prio.length ∧ gi (bL g) x.toNat = i:=by
 have:=kK (g:=g) (i:=i) (v:=x.toNat)
 rw [Int.toNat_of_nonneg h0] at this
 rw [this]
 exact ⟨fun h=>⟨by omega,h.2⟩,fun h=>⟨by omega,h.2⟩⟩
theorem pp {g : Pa} (hg : PaOk g) {ps : List Int} (h : PickOk g ps) (i : Int) : uf (eQ g ps).ar (atL (bL g) i):=by
 have hl:=hg.len
 have hs:=sS (bL g) i
 rw [eO] at hs
 refine ⟨by rw [show (eQ g ps).ar.own = g.ar.own from rfl,← hl];exact hs,fun k hk=>?_⟩
 have h0:=hs k hk
 have hm:=cD hk
 obtain ⟨h1,h2⟩:=(lE h0.1).1 hm
 have hv : (gi (atL (bL g) i) k).toNat < g.prio.length:=by omega
 generalize (gi (atL (bL g) i) k).toNat = v at *
 rw [show gr (eQ g ps).ar.nxt v = fG g.ar.nxt ps v from dD _ (by omega)]
 unfold fG
 split
 · rename_i hp
   refine ⟨0,by simp,?_⟩
   show gi ps v ∈ _
   obtain ⟨h3,h4⟩:=h.in' v hv hp
   rcases h.pk.2 v (by have:=h.pk.1;omega) with e|e
   · omega
   · obtain ⟨t,ht,e'⟩:=cR e
     have:=eR hg hv ht
     rw [e'] at this
     exact (lE hp).2 ⟨this.2,h4.trans h2⟩
 · obtain ⟨t,ht,e⟩:=(po hg hv).1
   have:=eR hg hv ht
   exact ⟨t,ht,(lE this.1).2 ⟨this.2,e.trans h2⟩⟩
theorem lF {g : Pa} (hg : PaOk g) {ps : List Int} (h : PickOk g ps) {v : Nat} (hv : v < g.prio.length) (ho : gi g.ar.own v = gi (bL g) v) {u : Int} (hu : u ∈ gr g.ar.nxt v) (hw : gi (bL g) u.toNat = gi (bL g) v) : PickOk g (ps.set v u):=by
 have h1:=h.pk.1
 have hlt : v < ps.length:=by omega
 refine ⟨⟨by rw [List.length_set];exact h1,fun x hx=>?_⟩,fun x hx hp=>?_⟩
 · rw [List.length_set] at hx
   rw [dY hlt]
   split
   · rename_i e;subst e;exact .inr hu
   · exact h.pk.2 x hx
 · rw [dY hlt] at hp ⊢
   split at hp
   · rename_i e;subst e;rw [if_pos rfl];exact ⟨ho,hw⟩
   · rename_i e;rw [if_neg e];exact h.in' x hx hp
theorem wW {ps : List Int} {v : Nat} (h : gi ps v = -1) : ps.set v (-1) = ps:=un h
theorem qR (g : Pa) (W : List Int) (v : Nat) (ps : List Int) : ∀ us : List Int,gO g W v ps us = -1 ∨ (gO g W v ps us ∈ us ∧ gi W (gO g W v ps us).toNat = gi W v ∧ l4 g W (gi W v) (ps.set v (gO g W v ps us))):=by
 intro us
 induction us with
 | nil => exact .inl rfl
 | cons u us ih =>
   unfold gO
   by_cases h : gi W u.toNat = gi W v ∧ l4 g W (gi W v) (ps.set v u)
   · rw [aP h,fO]
     exact .inr ⟨List.mem_cons_self,h.1,h.2⟩
   · rw [aq h,fu]
     rcases ih with h'|⟨h1,h2⟩
     · exact .inl h'
     · exact .inr ⟨List.mem_cons_of_mem _ h1,h2⟩
theorem uH {g : Pa} (hg : PaOk g) {ps : List Int} (h : PickOk g ps) {v : Nat} (hv : v < g.prio.length) : PickOk g (rI g (bL g) ps v):=by
 unfold rI
 split
 · rename_i hc
   rcases qR g (bL g) v ps (gr g.ar.nxt v) with e|⟨h1,h2,_⟩
   · rw [e]
     have : gi ps v = -1:=by
      rcases h.pk.2 v (by have:=h.pk.1;omega) with e|e
      · exact e
      · obtain ⟨t,ht,e'⟩:=cR e
        have:=eR hg hv ht
        omega
     rw [wW this];exact h
   · exact lF hg h hv hc.1 h1 h2
 · exact h
theorem uI {g : Pa} (hg : PaOk g) {ps : List Int} (h : PickOk g ps) : ∀ k,k ≤ g.prio.length → PickOk g (iT g (bL g) ps k):=by
 intro k
 induction k with
 | zero => intro _; exact h
 | succ k ih => intro hk; exact uH hg (ih (by omega)) (by omega)
end Go.Proofs.YtiadchinhofieaaGreat
namespace Go.Proofs.YtiadchinhofieaaGreat
set_option linter.unusedVariables false
set_option linter.unusedSimpArgs false
open Go.RowKit
theorem mF {us : List Int} {t : Nat} (ht : t < us.length) : us.drop t = gi us t :: us.drop (t + 1):=by
 rw [List.drop_eq_getElem_cons ht]
 simp [gi,List.getD_eq_getElem?_getD,List.getElem?_eq_getElem ht]
theorem uJ {g : Pa} {W ps us : List Int} {v t : Nat} (ht : t < us.length) (h : gi W (gi us t).toNat = gi W v ∧ l4 g W (gi W v) (ps.set v (gi us t))) : gO g W v ps (us.drop t) = gi us t:=by
 rw [mF ht,gO,aP h,fO]
theorem mG {g : Pa} {W ps us : List Int} {v t : Nat} (ht : t < us.length) (h : ¬ (gi W (gi us t).toNat = gi W v ∧ l4 g W (gi W v) (ps.set v (gi us t)))) : gO g W v ps (us.drop t) = gO g W v ps (us.drop (t + 1)):=by
 rw [mF ht,gO,aq h,fu]
theorem uK {g : Pa} {W ps us : List Int} {v t : Nat} (ht : us.length ≤ t) : gO g W v ps (us.drop t) = -1:=by
 rw [List.drop_eq_nil_of_le ht];rfl
theorem uL {g : Pa} (hg : PaOk g) {P : List Int} (h : PickOk g P) {k t : Nat} (hk : k < g.prio.length) (ho : gi g.ar.own k = gi (bL g) k) (ht : t < (gr g.ar.nxt k).length) (hw : gi (bL g) (gi (gr g.ar.nxt k) t).toNat = gi (bL g) k) : PickOk g (P.set k (gi (gr g.ar.nxt k) t)):=lF hg h hk ho (cD ht) hw
theorem yG {a b : Int} (h : (a == b) = false) : a ≠ b:=by simpa using h
end Go.Proofs.YtiadchinhofieaaGreat
namespace Go.Proofs.YtiadchinhofieaaGreat
set_option linter.unusedVariables false
set_option linter.unusedSimpArgs false
open Go.RowKit
theorem uM {g : Pa} (hg : PaOk g) : PickOk g (noP g.prio.length):=by
 refine ⟨⟨cr _ _,fun v hv=>.inl ?_⟩,fun v hv h=>?_⟩
 · rw [noP,cr] at hv;exact cU _ hv
 · rw [noP,cU _ hv] at h;omega
def wX (g : Pa) (ps : List Int) : Prop:=xE g ps ∧ ∀ v,v < ps.length → 0 ≤ gi ps v → gi g.ar.own v = gi (bL g) v
theorem sW {g : Pa} {ps : List Int} (h : wX g ps) : PickOk g ps:=by
 obtain ⟨⟨⟨hg,hp⟩,hw⟩,ho⟩:=h
 refine ⟨hp,fun v hv hp0=>⟨ho v (by have:=hp.1;omega) hp0,?_⟩⟩
 have hl:=hg.len
 have hn:=(po (jC hg hp) (v:=v) hv).1
 rw [show gr (eQ g ps).ar.nxt v = fG g.ar.nxt ps v from dD _ (by omega),hw] at hn
 unfold fG at hn
 rw [if_pos hp0] at hn
 obtain ⟨t,ht,e⟩:=hn
 have : t = 0:=by simpa using ht
 subst this
 exact e
