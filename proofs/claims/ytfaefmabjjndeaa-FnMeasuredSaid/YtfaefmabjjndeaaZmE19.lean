/-
  Solved and PlanFrom: the program's side.
-/
import Derived.Test.YtfaefmabjjndeaaZmE14
import Derived.Test.YtfaefmabjjndeaaZmD5
import Derived.Test.YtfaefmabjjndeaaZmE15
import Derived.Test.YtfaefmabjjndeaaZmNp
namespace Go.Proofs.Ytfaefmabjjndeaa
set_option linter.unusedVariables false
set_option linter.unusedSimpArgs false
open Go.RowKit
def lB (g : Pa) (W : List Int) (i : Int) (ps : List Int) : Prop:=∀ v : Nat,(v : Int) ∈ atL W i → PG.Won (pgP (eO g ps)) i (fun v : Nat=>(v : Int) ∈ atL W i) v
noncomputable def gF (g : Pa) (W : List Int) (v : Nat) (ps : List Int) : List Int → Int
 | [] => -1
 | u :: us => if tf (gi W u.toNat = gi W v ∧ lB g W (gi W v) (ps.set v u)) then u else gF g W v ps us
noncomputable def qR (g : Pa) (W ps : List Int) (v : Nat) : List Int:=if gi g.ar.own v = gi W v ∧ gi ps v < 0 then ps.set v (gF g W v ps (gr g.ar.nxt v)) else ps
noncomputable def iF (g : Pa) (W ps : List Int) : Nat → List Int
 | 0 => ps
 | k + 1 => qR g W (iF g W ps k) k
structure PickOk (g : Pa) (ps : List Int) : Prop where
 pk : fI g ps
 in' : ∀ v,v < g.prio.length → 0 ≤ gi ps v → gi g.ar.own v = gi (cj g) v ∧ gi (cj g) (gi ps v).toNat = gi (cj g) v
theorem dS {g : Pa} (hg : PaOk g) {v t : Nat} (hv : v < g.prio.length) (ht : t < (gr g.ar.nxt v).length) : 0 ≤ gi (gr g.ar.nxt v) t ∧ gi (gr g.ar.nxt v) t < g.prio.length:=by
 have hl:=hg.len
 have:=(hg.ar.vert v (by omega)).2.2.2.2 t ht
 exact ⟨this.1,by omega⟩
theorem ud {g : Pa} (hg : PaOk g) {v t : Nat} (hv : v < g.prio.length) (ht : t < (gr g.ar.nxt v).length) : (pgP g).E v (gi (gr g.ar.nxt v) t).toNat:=by
 have:=dS hg hv ht
 exact (jg _ _).2 ⟨hv,by omega,t,ht,by omega⟩
theorem oK {g : Pa} (hg : PaOk g) {v : Nat} (hv : v < g.prio.length) : (∃ t,t < (gr g.ar.nxt v).length ∧ gi (cj g) (gi (gr g.ar.nxt v) t).toNat = gi (cj g) v) ∧ (gi g.ar.own v ≠ gi (cj g) v → ∀ t,t < (gr g.ar.nxt v).length → gi (cj g) (gi (gr g.ar.nxt v) t).toNat = gi (cj g) v):=by
 have hl:=hg.len
 have hi:=kj (g:=g) hv
 obtain ⟨⟨σ,d⟩,_⟩:=PG.won_for (G:=pgP g) tV yN (jC hg) hi
 have hw : PG.Won (pgP g) (gi (cj g) v) (gf g) v:=(ji hg hv hi).1 rfl
 have hall : gi g.ar.own v ≠ gi (cj g) v → ∀ t,t < (gr g.ar.nxt v).length → gi (cj g) (gi (gr g.ar.nxt v) t).toNat = gi (cj g) v:=fun ho t ht=>by
  have hb:=dS hg hv ht
  have:=d.yours v _ hw (by rw [iE hg hv];exact ho) (ud hg hv ht) (show _ < _ by omega)
  exact (ji hg (by omega) hi).2 this
 refine ⟨?_,hall⟩
 by_cases ho : gi g.ar.own v = gi (cj g) v
 · obtain ⟨b1,b2⟩:=d.mine v hw (by rw [iE hg hv];exact ho)
   obtain ⟨_,h2,t,ht,e⟩:=(jg _ _).1 b1
   exact ⟨t,ht,by rw [e,Int.toNat_natCast];exact (ji hg h2 hi).2 b2⟩
 · obtain ⟨_,_,h3,_⟩:=hg.ar.vert v (by omega)
   exact ⟨0,by omega,hall ho 0 (by omega)⟩
theorem kk {g : Pa} {i : Int} {v : Nat} : (v : Int) ∈ atL (cj g) i ↔ v < g.prio.length ∧ gi (cj g) v = i:=by
 rw [qQ,eN]
 constructor
 · rintro ⟨u,h1,h2,h3⟩
   have : u = v:=by omega
   subst this;exact ⟨h1,h3⟩
 · rintro ⟨h1,h2⟩;exact ⟨v,h1,rfl,h2⟩
theorem kZ {g : Pa} {i x : Int} (h0 : 0 ≤ x) : x ∈ atL (cj g) i ↔ x < g.prio.length ∧ gi (cj g) x.toNat = i:=by
 have:=kk (g:=g) (i:=i) (v:=x.toNat)
 rw [Int.toNat_of_nonneg h0] at this
 rw [this]
 exact ⟨fun h=>⟨by omega,h.2⟩,fun h=>⟨by omega,h.2⟩⟩
theorem oL {g : Pa} (hg : PaOk g) {ps : List Int} (h : PickOk g ps) (i : Int) : tD (eO g ps).ar (atL (cj g) i):=by
 have hl:=hg.len
 have hs:=r7 (cj g) i
 rw [eN] at hs
 refine ⟨by rw [show (eO g ps).ar.own = g.ar.own from rfl,← hl];exact hs,fun k hk=>?_⟩
 have h0:=hs k hk
 have hm:=dz hk
 obtain ⟨h1,h2⟩:=(kZ h0.1).1 hm
 have hv : (gi (atL (cj g) i) k).toNat < g.prio.length:=by omega
 generalize (gi (atL (cj g) i) k).toNat = v at *
 rw [show gr (eO g ps).ar.nxt v = fm g.ar.nxt ps v from dy _ (by omega)]
 unfold fm
 split
 · rename_i hp
   refine ⟨0,by simp,?_⟩
   show gi ps v ∈ _
   obtain ⟨h3,h4⟩:=h.in' v hv hp
   rcases h.pk.2 v (by have:=h.pk.1;omega) with e|e
   · omega
   · obtain ⟨t,ht,e'⟩:=dm e
     have:=dS hg hv ht
     rw [e'] at this
     exact (kZ hp).2 ⟨this.2,h4.trans h2⟩
 · obtain ⟨t,ht,e⟩:=(oK hg hv).1
   have:=dS hg hv ht
   exact ⟨t,ht,(kZ this.1).2 ⟨this.2,e.trans h2⟩⟩
theorem k7 {g : Pa} (hg : PaOk g) {ps : List Int} (h : PickOk g ps) {v : Nat} (hv : v < g.prio.length) (ho : gi g.ar.own v = gi (cj g) v) {u : Int} (hu : u ∈ gr g.ar.nxt v) (hw : gi (cj g) u.toNat = gi (cj g) v) : PickOk g (ps.set v u):=by
 have h1:=h.pk.1
 have hlt : v < ps.length:=by omega
 refine ⟨⟨by rw [List.length_set];exact h1,fun x hx=>?_⟩,fun x hx hp=>?_⟩
 · rw [List.length_set] at hx
   rw [dT hlt]
   split
   · rename_i e;subst e;exact .inr hu
   · exact h.pk.2 x hx
 · rw [dT hlt] at hp ⊢
   split at hp
   · rename_i e;subst e;rw [if_pos rfl];exact ⟨ho,hw⟩
   · rename_i e;rw [if_neg e];exact h.in' x hx hp
theorem vN {ps : List Int} {v : Nat} (h : gi ps v = -1) : ps.set v (-1) = ps:=tO h
theorem p9 (g : Pa) (W : List Int) (v : Nat) (ps : List Int) : ∀ us : List Int,gF g W v ps us = -1 ∨ (gF g W v ps us ∈ us ∧ gi W (gF g W v ps us).toNat = gi W v ∧ lB g W (gi W v) (ps.set v (gF g W v ps us))):=by
 intro us
 induction us with
 | nil => exact .inl rfl
 | cons u us ih =>
   unfold gF
   by_cases h : gi W u.toNat = gi W v ∧ lB g W (gi W v) (ps.set v u)
   · rw [bP h,mR]
     exact .inr ⟨List.mem_cons_self,h.1,h.2⟩
   · rw [ba h,nW]
     rcases ih with h'|⟨h1,h2⟩
     · exact .inl h'
     · exact .inr ⟨List.mem_cons_of_mem _ h1,h2⟩
theorem uf {g : Pa} (hg : PaOk g) {ps : List Int} (h : PickOk g ps) {v : Nat} (hv : v < g.prio.length) : PickOk g (qR g (cj g) ps v):=by
 unfold qR
 split
 · rename_i hc
   rcases p9 g (cj g) v ps (gr g.ar.nxt v) with e|⟨h1,h2,_⟩
   · rw [e]
     have : gi ps v = -1:=by
      rcases h.pk.2 v (by have:=h.pk.1;omega) with e|e
      · exact e
      · obtain ⟨t,ht,e'⟩:=dm e
        have:=dS hg hv ht
        omega
     rw [vN this];exact h
   · exact k7 hg h hv hc.1 h1 h2
 · exact h
theorem ug {g : Pa} (hg : PaOk g) {ps : List Int} (h : PickOk g ps) : ∀ k,k ≤ g.prio.length → PickOk g (iF g (cj g) ps k):=by
 intro k
 induction k with
 | zero => intro _; exact h
 | succ k ih => intro hk; exact uf hg (ih (by omega)) (by omega)
end Go.Proofs.Ytfaefmabjjndeaa
namespace Go.Proofs.Ytfaefmabjjndeaa
set_option linter.unusedVariables false
set_option linter.unusedSimpArgs false
open Go.RowKit
attribute [local irreducible] aG cP Aw Le
theorem mc {us : List Int} {t : Nat} (ht : t < us.length) : us.drop t = gi us t :: us.drop (t + 1):=by
 rw [List.drop_eq_getElem_cons ht]
 simp [gi,List.getD_eq_getElem?_getD,List.getElem?_eq_getElem ht]
theorem uh {g : Pa} {W ps us : List Int} {v t : Nat} (ht : t < us.length) (h : gi W (gi us t).toNat = gi W v ∧ lB g W (gi W v) (ps.set v (gi us t))) : gF g W v ps (us.drop t) = gi us t:=by
 rw [mc ht,gF,bP h,mR]
theorem md {g : Pa} {W ps us : List Int} {v t : Nat} (ht : t < us.length) (h : ¬ (gi W (gi us t).toNat = gi W v ∧ lB g W (gi W v) (ps.set v (gi us t)))) : gF g W v ps (us.drop t) = gF g W v ps (us.drop (t + 1)):=by
 rw [mc ht,gF,ba h,nW]
theorem ui {g : Pa} {W ps us : List Int} {v t : Nat} (ht : us.length ≤ t) : gF g W v ps (us.drop t) = -1:=by
 rw [List.drop_eq_nil_of_le ht];rfl
theorem uj {g : Pa} (hg : PaOk g) {P : List Int} (h : PickOk g P) {k t : Nat} (hk : k < g.prio.length) (ho : gi g.ar.own k = gi (cj g) k) (ht : t < (gr g.ar.nxt k).length) (hw : gi (cj g) (gi (gr g.ar.nxt k) t).toNat = gi (cj g) k) : PickOk g (P.set k (gi (gr g.ar.nxt k) t)):=k7 hg h hk ho (dz ht) hw
theorem xB {a b : Int} (h : (a == b) = false) : a ≠ b:=by simpa using h
end Go.Proofs.Ytfaefmabjjndeaa
namespace Go.Proofs.Ytfaefmabjjndeaa
set_option linter.unusedVariables false
set_option linter.unusedSimpArgs false
open Go.RowKit
attribute [local irreducible] aG cP Aw Le
theorem uk {g : Pa} (hg : PaOk g) : PickOk g (noP g.prio.length):=by
 refine ⟨⟨cy _ _,fun v hv=>.inl ?_⟩,fun v hv h=>?_⟩
 · rw [noP,cy] at hv;exact cK _ hv
 · rw [noP,cK _ hv] at h;omega
def vO (g : Pa) (ps : List Int) : Prop:=wa g ps ∧ ∀ v,v < ps.length → 0 ≤ gi ps v → gi g.ar.own v = gi (cj g) v
theorem r8 {g : Pa} {ps : List Int} (h : vO g ps) : PickOk g ps:=by
 obtain ⟨⟨⟨hg,hp⟩,hw⟩,ho⟩:=h
 refine ⟨hp,fun v hv hp0=>⟨ho v (by have:=hp.1;omega) hp0,?_⟩⟩
 have hl:=hg.len
 have hn:=(oK (jh hg hp) (v:=v) hv).1
 rw [show gr (eO g ps).ar.nxt v = fm g.ar.nxt ps v from dy _ (by omega),hw] at hn
 unfold fm at hn
 rw [if_pos hp0] at hn
 obtain ⟨t,ht,e⟩:=hn
 have : t = 0:=by simpa using ht
 subst this
 exact e
end Go.Proofs.Ytfaefmabjjndeaa
