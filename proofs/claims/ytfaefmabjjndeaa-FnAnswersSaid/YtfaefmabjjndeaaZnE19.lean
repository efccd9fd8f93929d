/-
  Solved and PlanFrom: the program's side.
-/
import Derived.Test.YtfaefmabjjndeaaZnE14
import Derived.Test.YtfaefmabjjndeaaZnD5
import Derived.Test.YtfaefmabjjndeaaZnE15
import Derived.Test.YtfaefmabjjndeaaZnNp
namespace Go.Proofs.Ytfaefmabjjndeaa
set_option linter.unusedVariables false
set_option linter.unusedSimpArgs false
open Go.RowKit
def g0 (g : Pa) (W : List Int) (i : Int) (ps : List Int) : Prop:=∀ v : Nat,(v : Int) ∈ atL W i → PG.Won (pgP (dc g ps)) i (fun v : Nat=>(v : Int) ∈ atL W i) v
noncomputable def eQ (g : Pa) (W : List Int) (v : Nat) (ps : List Int) : List Int → Int
 | [] => -1
 | u :: us => if tf (gi W u.toNat = gi W v ∧ g0 g W (gi W v) (ps.set v u)) then u else eQ g W v ps us
noncomputable def jc (g : Pa) (W ps : List Int) (v : Nat) : List Int:=if gi g.ar.own v = gi W v ∧ gi ps v < 0 then ps.set v (eQ g W v ps (gr g.ar.nxt v)) else ps
noncomputable def ep (g : Pa) (W ps : List Int) : Nat → List Int
 | 0 => ps
 | k + 1 => jc g W (ep g W ps k) k
structure PickOk (g : Pa) (ps : List Int) : Prop where
 pk : dZ g ps
 in' : ∀ v,v < g.prio.length → 0 ≤ gi ps v → gi g.ar.own v = gi (aX g) v ∧ gi (aX g) (gi ps v).toNat = gi (aX g) v
theorem dR {g : Pa} (hg : PaOk g) {v t : Nat} (hv : v < g.prio.length) (ht : t < (gr g.ar.nxt v).length) : 0 ≤ gi (gr g.ar.nxt v) t ∧ gi (gr g.ar.nxt v) t < g.prio.length:=by
 have hl:=hg.len
 have:=(hg.ar.vert v (by omega)).2.2.2.2 t ht
 exact ⟨this.1,by omega⟩
theorem vN {g : Pa} (hg : PaOk g) {v t : Nat} (hv : v < g.prio.length) (ht : t < (gr g.ar.nxt v).length) : (pgP g).E v (gi (gr g.ar.nxt v) t).toNat:=by
 have:=dR hg hv ht
 exact (fG _ _).2 ⟨hv,by omega,t,ht,by omega⟩
theorem jY {g : Pa} (hg : PaOk g) {v : Nat} (hv : v < g.prio.length) : (∃ t,t < (gr g.ar.nxt v).length ∧ gi (aX g) (gi (gr g.ar.nxt v) t).toNat = gi (aX g) v) ∧ (gi g.ar.own v ≠ gi (aX g) v → ∀ t,t < (gr g.ar.nxt v).length → gi (aX g) (gi (gr g.ar.nxt v) t).toNat = gi (aX g) v):=by
 have hl:=hg.len
 have hi:=gf (g:=g) hv
 obtain ⟨⟨σ,d⟩,_⟩:=PG.won_for (G:=pgP g) mA tv (gW hg) hi
 have hw : PG.Won (pgP g) (gi (aX g) v) (gG g) v:=(gY hg hv hi).1 rfl
 have hall : gi g.ar.own v ≠ gi (aX g) v → ∀ t,t < (gr g.ar.nxt v).length → gi (aX g) (gi (gr g.ar.nxt v) t).toNat = gi (aX g) v:=fun ho t ht=>by
  have hb:=dR hg hv ht
  have:=d.yours v _ hw (by rw [jX hg hv];exact ho) (vN hg hv ht) (show _ < _ by omega)
  exact (gY hg (by omega) hi).2 this
 refine ⟨?_,hall⟩
 by_cases ho : gi g.ar.own v = gi (aX g) v
 · obtain ⟨b1,b2⟩:=d.mine v hw (by rw [jX hg hv];exact ho)
   obtain ⟨_,h2,t,ht,e⟩:=(fG _ _).1 b1
   exact ⟨t,ht,by rw [e,Int.toNat_natCast];exact (gY hg h2 hi).2 b2⟩
 · obtain ⟨_,_,h3,_⟩:=hg.ar.vert v (by omega)
   exact ⟨0,by omega,hall ho 0 (by omega)⟩
theorem dS {g : Pa} {i : Int} {v : Nat} : (v : Int) ∈ atL (aX g) i ↔ v < g.prio.length ∧ gi (aX g) v = i:=by
 rw [ge,dw]
 constructor
 · rintro ⟨u,h1,h2,h3⟩
   have : u = v:=by omega
   subst this;exact ⟨h1,h3⟩
 · rintro ⟨h1,h2⟩;exact ⟨v,h1,rfl,h2⟩
theorem gJ {g : Pa} {i x : Int} (h0 : 0 ≤ x) : x ∈ atL (aX g) i ↔ x < g.prio.length ∧ gi (aX g) x.toNat = i:=by
 have:=dS (g:=g) (i:=i) (v:=x.toNat)
 rw [Int.toNat_of_nonneg h0] at this
 rw [this]
 exact ⟨fun h=>⟨by omega,h.2⟩,fun h=>⟨by omega,h.2⟩⟩
theorem jZ {g : Pa} (hg : PaOk g) {ps : List Int} (h : PickOk g ps) (i : Int) : qV (dc g ps).ar (atL (aX g) i):=by
 have hl:=hg.len
 have hs:=fH (aX g) i
 rw [dw] at hs
 refine ⟨by rw [show (dc g ps).ar.own = g.ar.own from rfl,← hl];exact hs,fun k hk=>?_⟩
 have h0:=hs k hk
 have hm:=du hk
 obtain ⟨h1,h2⟩:=(gJ h0.1).1 hm
 have hv : (gi (atL (aX g) i) k).toNat < g.prio.length:=by omega
 generalize (gi (atL (aX g) i) k).toNat = v at *
 rw [show gr (dc g ps).ar.nxt v = c9 g.ar.nxt ps v from dA _ (by omega)]
 unfold c9
 split
 · rename_i hp
   refine ⟨0,by simp,?_⟩
   show gi ps v ∈ _
   obtain ⟨h3,h4⟩:=h.in' v hv hp
   rcases h.pk.2 v (by have:=h.pk.1;omega) with e|e
   · omega
   · obtain ⟨t,ht,e'⟩:=c4 e
     have:=dR hg hv ht
     rw [e'] at this
     exact (gJ hp).2 ⟨this.2,h4.trans h2⟩
 · obtain ⟨t,ht,e⟩:=(jY hg hv).1
   have:=dR hg hv ht
   exact ⟨t,ht,(gJ this.1).2 ⟨this.2,e.trans h2⟩⟩
theorem j0 {g : Pa} (hg : PaOk g) {ps : List Int} (h : PickOk g ps) {v : Nat} (hv : v < g.prio.length) (ho : gi g.ar.own v = gi (aX g) v) {u : Int} (hu : u ∈ gr g.ar.nxt v) (hw : gi (aX g) u.toNat = gi (aX g) v) : PickOk g (ps.set v u):=by
 have h1:=h.pk.1
 have hlt : v < ps.length:=by omega
 refine ⟨⟨by rw [List.length_set];exact h1,fun x hx=>?_⟩,fun x hx hp=>?_⟩
 · rw [List.length_set] at hx
   rw [dT hlt]
   split
   · rename_i e;subst e;exact .inr hu
   · exact h.pk.2 x hx
 · rw [dT hlt] at hp ⊢
   split at hp
   · rename_i e;subst e;rw [if_pos rfl];exact ⟨ho,hw⟩
   · rename_i e;rw [if_neg e];exact h.in' x hx hp
theorem s6 {ps : List Int} {v : Nat} (h : gi ps v = -1) : ps.set v (-1) = ps:=rb h
theorem j1 (g : Pa) (W : List Int) (v : Nat) (ps : List Int) : ∀ us : List Int,eQ g W v ps us = -1 ∨ (eQ g W v ps us ∈ us ∧ gi W (eQ g W v ps us).toNat = gi W v ∧ g0 g W (gi W v) (ps.set v (eQ g W v ps us))):=by
 intro us
 induction us with
 | nil => exact .inl rfl
 | cons u us ih =>
   unfold eQ
   by_cases h : gi W u.toNat = gi W v ∧ g0 g W (gi W v) (ps.set v u)
   · rw [bW h,so]
     exact .inr ⟨List.mem_cons_self,h.1,h.2⟩
   · rw [aH h,uj]
     rcases ih with h'|⟨h1,h2⟩
     · exact .inl h'
     · exact .inr ⟨List.mem_cons_of_mem _ h1,h2⟩
theorem rA {g : Pa} (hg : PaOk g) {ps : List Int} (h : PickOk g ps) {v : Nat} (hv : v < g.prio.length) : PickOk g (jc g (aX g) ps v):=by
 unfold jc
 split
 · rename_i hc
   rcases j1 g (aX g) v ps (gr g.ar.nxt v) with e|⟨h1,h2,_⟩
   · rw [e]
     have : gi ps v = -1:=by
      rcases h.pk.2 v (by have:=h.pk.1;omega) with e|e
      · exact e
      · obtain ⟨t,ht,e'⟩:=c4 e
        have:=dR hg hv ht
        omega
     rw [s6 this];exact h
   · exact j0 hg h hv hc.1 h1 h2
 · exact h
theorem iC {g : Pa} (hg : PaOk g) {ps : List Int} (h : PickOk g ps) : ∀ k,k ≤ g.prio.length → PickOk g (ep g (aX g) ps k):=by
 intro k
 induction k with
 | zero => intro _; exact h
 | succ k ih => intro hk; exact rA hg (ih (by omega)) (by omega)
end Go.Proofs.Ytfaefmabjjndeaa
namespace Go.Proofs.Ytfaefmabjjndeaa
set_option linter.unusedVariables false
set_option linter.unusedSimpArgs false
open Go.RowKit
attribute [local irreducible] ax cJ Aw Le
theorem kN {us : List Int} {t : Nat} (ht : t < us.length) : us.drop t = gi us t :: us.drop (t + 1):=by
 rw [List.drop_eq_getElem_cons ht]
 simp [gi,List.getD_eq_getElem?_getD,List.getElem?_eq_getElem ht]
theorem rB {g : Pa} {W ps us : List Int} {v t : Nat} (ht : t < us.length) (h : gi W (gi us t).toNat = gi W v ∧ g0 g W (gi W v) (ps.set v (gi us t))) : eQ g W v ps (us.drop t) = gi us t:=by
 rw [kN ht,eQ,bW h,so]
theorem kO {g : Pa} {W ps us : List Int} {v t : Nat} (ht : t < us.length) (h : ¬ (gi W (gi us t).toNat = gi W v ∧ g0 g W (gi W v) (ps.set v (gi us t)))) : eQ g W v ps (us.drop t) = eQ g W v ps (us.drop (t + 1)):=by
 rw [kN ht,eQ,aH h,uj]
theorem rC {g : Pa} {W ps us : List Int} {v t : Nat} (ht : us.length ≤ t) : eQ g W v ps (us.drop t) = -1:=by
 rw [List.drop_eq_nil_of_le ht];rfl
theorem rD {g : Pa} (hg : PaOk g) {P : List Int} (h : PickOk g P) {k t : Nat} (hk : k < g.prio.length) (ho : gi g.ar.own k = gi (aX g) k) (ht : t < (gr g.ar.nxt k).length) (hw : gi (aX g) (gi (gr g.ar.nxt k) t).toNat = gi (aX g) k) : PickOk g (P.set k (gi (gr g.ar.nxt k) t)):=j0 hg h hk ho (du ht) hw
theorem uB {a b : Int} (h : (a == b) = false) : a ≠ b:=by simpa using h
theorem mK {g : Pa} (hg : PaOk g) {P : List Int} (h : PickOk g P) {k : Nat} (hn : gi P k < 0) : gi P k = -1:=by
 rcases Nat.lt_or_ge k P.length with hk|hk
 · rcases h.pk.2 k hk with e|e
   · exact e
   · obtain ⟨t,ht,e'⟩:=c4 e
     have:=dR hg (by have:=h.pk.1;omega) ht
     omega
 · have : gi P k = 0:=by simp [gi,List.getD_eq_getElem?_getD,List.getElem?_eq_none hk]
   omega
end Go.Proofs.Ytfaefmabjjndeaa
namespace Go.Proofs.Ytfaefmabjjndeaa
set_option linter.unusedVariables false
set_option linter.unusedSimpArgs false
open Go.RowKit
attribute [local irreducible] ax cJ Aw Le
theorem nV {g : Pa} (hg : PaOk g) : PickOk g (noP g.prio.length):=by
 refine ⟨⟨cY _ _,fun v hv=>.inl ?_⟩,fun v hv h=>?_⟩
 · rw [noP,cY] at hv;exact dC _ hv
 · rw [noP,dC _ hv] at h;omega
def pD (g : Pa) (ps : List Int) : Prop:=tq g ps ∧ ∀ v,v < ps.length → 0 ≤ gi ps v → gi g.ar.own v = gi (aX g) v
theorem iU {g : Pa} {ps : List Int} (h : pD g ps) : PickOk g ps:=by
 obtain ⟨⟨⟨hg,hp⟩,hw⟩,ho⟩:=h
 refine ⟨hp,fun v hv hp0=>⟨ho v (by have:=hp.1;omega) hp0,?_⟩⟩
 have hl:=hg.len
 have hn:=(jY (dQ hg hp) (v:=v) hv).1
 rw [show gr (dc g ps).ar.nxt v = c9 g.ar.nxt ps v from dA _ (by omega),hw] at hn
 unfold c9 at hn
 rw [if_pos hp0] at hn
 obtain ⟨t,ht,e⟩:=hn
 have : t = 0:=by simpa using ht
 subst this
 exact e
end Go.Proofs.Ytfaefmabjjndeaa
