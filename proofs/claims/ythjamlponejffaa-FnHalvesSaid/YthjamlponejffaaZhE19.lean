/-
  Solved and PlanFrom: the program's side.
-/
import Derived.Test.YthjamlponejffaaZhE14
import Derived.Test.YthjamlponejffaaZhD5
import Derived.Test.YthjamlponejffaaZhE15
import Derived.Test.YthjamlponejffaaZhNp
namespace Go.Proofs.Ythjamlponejffaa
set_option linter.unusedVariables false
set_option linter.unusedSimpArgs false
open Go.RowKit
def kA (g : Pa) (W : List Int) (i : Int) (ps : List Int) : Prop:=∀ v : Nat,(v : Int) ∈ atL W i → PG.Won (pgP (d7 g ps)) i (fun v : Nat=>(v : Int) ∈ atL W i) v
noncomputable def fO (g : Pa) (W : List Int) (v : Nat) (ps : List Int) : List Int → Int
 | [] => -1
 | u :: us => if tf (gi W u.toNat = gi W v ∧ kA g W (gi W v) (ps.set v u)) then u else fO g W v ps us
noncomputable def pI (g : Pa) (W ps : List Int) (v : Nat) : List Int:=if gi g.ar.own v = gi W v ∧ gi ps v < 0 then ps.set v (fO g W v ps (gr g.ar.nxt v)) else ps
noncomputable def gy (g : Pa) (W ps : List Int) : Nat → List Int
 | 0 => ps
 | k + 1 => pI g W (gy g W ps k) k
structure PickOk (g : Pa) (ps : List Int) : Prop where
 pk : e9 g ps
 in' : ∀ v,v < g.prio.length → 0 ≤ gi ps v → gi g.ar.own v = gi (bo g) v ∧ gi (bo g) (gi ps v).toNat = gi (bo g) v
theorem eO {g : Pa} (hg : PaOk g) {v t : Nat} (hv : v < g.prio.length) (ht : t < (gr g.ar.nxt v).length) : 0 ≤ gi (gr g.ar.nxt v) t ∧ gi (gr g.ar.nxt v) t < g.prio.length:=by
 have hl:=hg.len
 have:=(hg.ar.vert v (by omega)).2.2.2.2 t ht
 exact ⟨this.1,by omega⟩
theorem ya {g : Pa} (hg : PaOk g) {v t : Nat} (hv : v < g.prio.length) (ht : t < (gr g.ar.nxt v).length) : (pgP g).E v (gi (gr g.ar.nxt v) t).toNat:=by
 have:=eO hg hv ht
 exact (ne _ _).2 ⟨hv,by omega,t,ht,by omega⟩
theorem nj {g : Pa} (hg : PaOk g) {v : Nat} (hv : v < g.prio.length) : (∃ t,t < (gr g.ar.nxt v).length ∧ gi (bo g) (gi (gr g.ar.nxt v) t).toNat = gi (bo g) v) ∧ (gi g.ar.own v ≠ gi (bo g) v → ∀ t,t < (gr g.ar.nxt v).length → gi (bo g) (gi (gr g.ar.nxt v) t).toNat = gi (bo g) v):=by
 have hl:=hg.len
 have hi:=l4 (g:=g) hv
 obtain ⟨⟨σ,d⟩,_⟩:=PG.won_for (G:=pgP g) gS jh (cY hg) hi
 have hw : PG.Won (pgP g) (gi (bo g) v) (d6 g) v:=(iE hg hv hi).1 rfl
 have hall : gi g.ar.own v ≠ gi (bo g) v → ∀ t,t < (gr g.ar.nxt v).length → gi (bo g) (gi (gr g.ar.nxt v) t).toNat = gi (bo g) v:=fun ho t ht=>by
  have hb:=eO hg hv ht
  have:=d.yours v _ hw (by rw [vb hg hv];exact ho) (ya hg hv ht) (show _ < _ by omega)
  exact (iE hg (by omega) hi).2 this
 refine ⟨?_,hall⟩
 by_cases ho : gi g.ar.own v = gi (bo g) v
 · obtain ⟨b1,b2⟩:=d.mine v hw (by rw [vb hg hv];exact ho)
   obtain ⟨_,h2,t,ht,e⟩:=(ne _ _).1 b1
   exact ⟨t,ht,by rw [e,Int.toNat_natCast];exact (iE hg h2 hi).2 b2⟩
 · obtain ⟨_,_,h3,_⟩:=hg.ar.vert v (by omega)
   exact ⟨0,by omega,hall ho 0 (by omega)⟩
theorem jE {g : Pa} {i : Int} {v : Nat} : (v : Int) ∈ atL (bo g) i ↔ v < g.prio.length ∧ gi (bo g) v = i:=by
 rw [l3,dK]
 constructor
 · rintro ⟨u,h1,h2,h3⟩
   have : u = v:=by omega
   subst this;exact ⟨h1,h3⟩
 · rintro ⟨h1,h2⟩;exact ⟨v,h1,rfl,h2⟩
theorem kf {g : Pa} {i x : Int} (h0 : 0 ≤ x) : x ∈ atL (bo g) i ↔ x < g.prio.length ∧ gi (bo g) x.toNat = i:=by
 have:=jE (g:=g) (i:=i) (v:=x.toNat)
 rw [Int.toNat_of_nonneg h0] at this
 rw [this]
 exact ⟨fun h=>⟨by omega,h.2⟩,fun h=>⟨by omega,h.2⟩⟩
theorem nk {g : Pa} (hg : PaOk g) {ps : List Int} (h : PickOk g ps) (i : Int) : fL (d7 g ps).ar (atL (bo g) i):=by
 have hl:=hg.len
 have hs:=gN (bo g) i
 rw [dK] at hs
 refine ⟨by rw [show (d7 g ps).ar.own = g.ar.own from rfl,← hl];exact hs,fun k hk=>?_⟩
 have h0:=hs k hk
 have hm:=cy hk
 obtain ⟨h1,h2⟩:=(kf h0.1).1 hm
 have hv : (gi (atL (bo g) i) k).toNat < g.prio.length:=by omega
 generalize (gi (atL (bo g) i) k).toNat = v at *
 rw [show gr (d7 g ps).ar.nxt v = eK g.ar.nxt ps v from dq _ (by omega)]
 unfold eK
 split
 · rename_i hp
   refine ⟨0,by simp,?_⟩
   show gi ps v ∈ _
   obtain ⟨h3,h4⟩:=h.in' v hv hp
   rcases h.pk.2 v (by have:=h.pk.1;omega) with e|e
   · omega
   · obtain ⟨t,ht,e'⟩:=ck e
     have:=eO hg hv ht
     rw [e'] at this
     exact (kf hp).2 ⟨this.2,h4.trans h2⟩
 · obtain ⟨t,ht,e⟩:=(nj hg hv).1
   have:=eO hg hv ht
   exact ⟨t,ht,(kf this.1).2 ⟨this.2,e.trans h2⟩⟩
theorem kg {g : Pa} (hg : PaOk g) {ps : List Int} (h : PickOk g ps) {v : Nat} (hv : v < g.prio.length) (ho : gi g.ar.own v = gi (bo g) v) {u : Int} (hu : u ∈ gr g.ar.nxt v) (hw : gi (bo g) u.toNat = gi (bo g) v) : PickOk g (ps.set v u):=by
 have h1:=h.pk.1
 have hlt : v < ps.length:=by omega
 refine ⟨⟨by rw [List.length_set];exact h1,fun x hx=>?_⟩,fun x hx hp=>?_⟩
 · rw [List.length_set] at hx
   rw [eD hlt]
   split
   · rename_i e;subst e;exact .inr hu
   · exact h.pk.2 x hx
 · rw [eD hlt] at hp ⊢
   split at hp
   · rename_i e;subst e;rw [if_pos rfl];exact ⟨ho,hw⟩
   · rename_i e;rw [if_neg e];exact h.in' x hx hp
theorem uN {ps : List Int} {v : Nat} (h : gi ps v = -1) : ps.set v (-1) = ps:=sP h
theorem oJ (g : Pa) (W : List Int) (v : Nat) (ps : List Int) : ∀ us : List Int,fO g W v ps us = -1 ∨ (fO g W v ps us ∈ us ∧ gi W (fO g W v ps us).toNat = gi W v ∧ kA g W (gi W v) (ps.set v (fO g W v ps us))):=by
 intro us
 induction us with
 | nil => exact .inl rfl
 | cons u us ih =>
   unfold fO
   by_cases h : gi W u.toNat = gi W v ∧ kA g W (gi W v) (ps.set v u)
   · rw [bc h,vY]
     exact .inr ⟨List.mem_cons_self,h.1,h.2⟩
   · rw [aH h,xM]
     rcases ih with h'|⟨h1,h2⟩
     · exact .inl h'
     · exact .inr ⟨List.mem_cons_of_mem _ h1,h2⟩
theorem s8 {g : Pa} (hg : PaOk g) {ps : List Int} (h : PickOk g ps) {v : Nat} (hv : v < g.prio.length) : PickOk g (pI g (bo g) ps v):=by
 unfold pI
 split
 · rename_i hc
   rcases oJ g (bo g) v ps (gr g.ar.nxt v) with e|⟨h1,h2,_⟩
   · rw [e]
     have : gi ps v = -1:=by
      rcases h.pk.2 v (by have:=h.pk.1;omega) with e|e
      · exact e
      · obtain ⟨t,ht,e'⟩:=ck e
        have:=eO hg hv ht
        omega
     rw [uN this];exact h
   · exact kg hg h hv hc.1 h1 h2
 · exact h
theorem s9 {g : Pa} (hg : PaOk g) {ps : List Int} (h : PickOk g ps) : ∀ k,k ≤ g.prio.length → PickOk g (gy g (bo g) ps k):=by
 intro k
 induction k with
 | zero => intro _; exact h
 | succ k ih => intro hk; exact s8 hg (ih (by omega)) (by omega)
end Go.Proofs.Ythjamlponejffaa
namespace Go.Proofs.Ythjamlponejffaa
set_option linter.unusedVariables false
set_option linter.unusedSimpArgs false
open Go.RowKit
theorem ld {us : List Int} {t : Nat} (ht : t < us.length) : us.drop t = gi us t :: us.drop (t + 1):=by
 rw [List.drop_eq_getElem_cons ht]
 simp [gi,List.getD_eq_getElem?_getD,List.getElem?_eq_getElem ht]
theorem ta {g : Pa} {W ps us : List Int} {v t : Nat} (ht : t < us.length) (h : gi W (gi us t).toNat = gi W v ∧ kA g W (gi W v) (ps.set v (gi us t))) : fO g W v ps (us.drop t) = gi us t:=by
 rw [ld ht,fO,bc h,vY]
theorem lg {g : Pa} {W ps us : List Int} {v t : Nat} (ht : t < us.length) (h : ¬ (gi W (gi us t).toNat = gi W v ∧ kA g W (gi W v) (ps.set v (gi us t)))) : fO g W v ps (us.drop t) = fO g W v ps (us.drop (t + 1)):=by
 rw [ld ht,fO,aH h,xM]
theorem tb {g : Pa} {W ps us : List Int} {v t : Nat} (ht : us.length ≤ t) : fO g W v ps (us.drop t) = -1:=by
 rw [List.drop_eq_nil_of_le ht];rfl
theorem tc {g : Pa} (hg : PaOk g) {P : List Int} (h : PickOk g P) {k t : Nat} (hk : k < g.prio.length) (ho : gi g.ar.own k = gi (bo g) k) (ht : t < (gr g.ar.nxt k).length) (hw : gi (bo g) (gi (gr g.ar.nxt k) t).toNat = gi (bo g) k) : PickOk g (P.set k (gi (gr g.ar.nxt k) t)):=kg hg h hk ho (cy ht) hw
theorem wv {a b : Int} (h : (a == b) = false) : a ≠ b:=by simpa using h
end Go.Proofs.Ythjamlponejffaa
namespace Go.Proofs.Ythjamlponejffaa
set_option linter.unusedVariables false
set_option linter.unusedSimpArgs false
open Go.RowKit
theorem td {g : Pa} (hg : PaOk g) : PickOk g (noP g.prio.length):=by
 refine ⟨⟨bY _ _,fun v hv=>.inl ?_⟩,fun v hv h=>?_⟩
 · rw [noP,bY] at hv;exact cH _ hv
 · rw [noP,cH _ hv] at h;omega
def uO (g : Pa) (ps : List Int) : Prop:=u7 g ps ∧ ∀ v,v < ps.length → 0 ≤ gi ps v → gi g.ar.own v = gi (bo g) v
theorem qZ {g : Pa} {ps : List Int} (h : uO g ps) : PickOk g ps:=by
 obtain ⟨⟨⟨hg,hp⟩,hw⟩,ho⟩:=h
 refine ⟨hp,fun v hv hp0=>⟨ho v (by have:=hp.1;omega) hp0,?_⟩⟩
 have hl:=hg.len
 have hn:=(nj (iD hg hp) (v:=v) hv).1
 rw [show gr (d7 g ps).ar.nxt v = eK g.ar.nxt ps v from dq _ (by omega),hw] at hn
 unfold eK at hn
 rw [if_pos hp0] at hn
 obtain ⟨t,ht,e⟩:=hn
 have : t = 0:=by simpa using ht
 subst this
 exact e
