/-
  The program's parts of games.
-/
import Derived.Test.YtfaefmabjjndeaaZrD5
import Derived.Test.YtfaefmabjjndeaaZrBs
import Derived.Test.YtfaefmabjjndeaaZrAt4
namespace Go.Proofs.Ytfaefmabjjndeaa
set_option linter.unusedVariables false
set_option linter.unusedSimpArgs false
open Go.RowKit
theorem sB {G H : PG.Gm} {f : Nat → Nat} {T : Nat → Prop} {p : Int} (hE : ∀ i j,T i → T j → (H.E i j ↔ G.E (f i) (f j))) (ho : ∀ i,T i → H.own i = G.own (f i)) (hp : ∀ i,T i → H.prio i = G.prio (f i))
  (inj : ∀ i j,T i → T j → f i = f j → i = j) {R : Nat → Prop} (h : PG.Dom H p T R) : PG.Dom G p (fun v=>∃ i,T i ∧ f i = v) (fun v=>∃ i,R i ∧ f i = v):=by
 obtain ⟨σ,d⟩:=h
 obtain ⟨ix,hix⟩ : ∃ ix : Nat → Nat,∀ i,T i → ix (f i) = i:=by
  refine ⟨fun v=>Classical.epsilon fun i=>T i ∧ f i = v,fun i hi=>?_⟩
  have:=Classical.epsilon_spec (p:=fun j=>T j ∧ f j = f i) ⟨i,hi,rfl⟩
  exact inj _ _ this.1 hi this.2
 refine ⟨fun v=>f (σ (ix v)),?_,?_,?_,?_⟩
 · rintro v ⟨i,hi,rfl⟩;exact ⟨i,d.sub i hi,rfl⟩
 · rintro v ⟨i,hi,rfl⟩ hown
   have ti:=d.sub i hi
   obtain ⟨h1,h2⟩:=d.mine i hi (by rw [ho i ti];exact hown)
   rw [hix i ti]
   exact ⟨(hE i _ ti (d.sub _ h2)).1 h1,_,h2,rfl⟩
 · rintro v u ⟨i,hi,rfl⟩ hown hEd ⟨j,tj,rfl⟩
   have ti:=d.sub i hi
   exact ⟨j,d.yours i j hi (by rw [ho i ti];exact hown) ((hE i j ti tj).2 hEd) tj,rfl⟩
 · intro φ q hP hT
   have key : ∀ k,R (ix (φ k)) ∧ f (ix (φ k)) = φ k:=fun k=>by
    obtain ⟨i,hi,e⟩:=(hP k).1
    rw [← e,hix i (d.sub i hi)]
    exact ⟨hi,rfl⟩
   refine d.wins (fun k=>ix (φ k)) q (fun k=>⟨(key k).1,?_,fun hown=>?_⟩) ⟨fun k=>?_,fun M=>?_⟩
   · rw [hE _ _ (d.sub _ (key k).1) (d.sub _ (key (k + 1)).1),(key k).2,(key (k + 1)).2]
     exact (hP k).2.1
   · have ti:=d.sub _ (key k).1
     have h1:=(hP k).2.2 (by rw [← (key k).2,← ho _ ti];exact hown)
     have h2:=d.mine _ (key k).1 hown
     show ix (φ (k + 1)) = σ (ix (φ k))
     rw [h1]
     exact hix _ (d.sub _ h2.2)
   · show H.prio (ix (φ k)) ≤ q
     rw [hp _ (d.sub _ (key k).1),(key k).2];exact hT.1 k
   · obtain ⟨k,h1,h2⟩:=hT.2 M
     refine ⟨k,h1,?_⟩
     show H.prio (ix (φ k)) = q
     rw [hp _ (d.sub _ (key k).1),(key k).2];exact h2
theorem pn {G : PG.Gm} {w : Int} {S X : Nat → Prop} (h : ∀ v,X v → S v ∧ G.prio v % 2 = w ∧ G.E v v ∧ (G.own v = w ∨ ∀ u,G.E v u → u = v)) : PG.Dom G w S X:=by
 refine ⟨fun v=>v,fun v hv=>(h v hv).1,fun v hv _=>⟨(h v hv).2.2.1,hv⟩,fun v u hv ho he _=>?_,fun f q hP hT=>?_⟩
 · rcases (h v hv).2.2.2 with e|e
   · exact absurd e ho
   · rw [e u he];exact hv
 · obtain ⟨k,_,hk⟩:=hT.2 0
   rw [← hk]
   exact (h _ (hP k).1).2.1
theorem q9 {G : PG.Gm} {w p : Int} {S X R : Nat → Prop} (hw : w = 0 ∨ w = 1) (hp : p = 0 ∨ p = 1) (hX : PG.Dom G w S X) (h : PG.Dom G p (PG.Diff S (PG.Attr G w S X)) R) {v : Nat} (hv : R v) : PG.Won G p S v:=by
 by_cases e : p = w
 · subst e
   exact ⟨_,PG.dom_union h (PG.dom_attr hX),.inl hv⟩
 · refine ⟨R,PG.dom_up h fun x u hx ho he hs ha=>?_,hv⟩
   obtain ⟨σ,d⟩:=h
   obtain ⟨s1,s2⟩:=d.sub x hx
   refine s2 (PG.attr_mine s1 ?_ he ha)
   have:=G.own01 x
   omega
end Go.Proofs.Ytfaefmabjjndeaa
namespace Go.Proofs.Ytfaefmabjjndeaa
set_option linter.unusedVariables false
set_option linter.unusedSimpArgs false
open Go.RowKit
theorem iP {xs : List Int} {m : Int} (hp : xs.Pairwise (· < ·)) (hb : ∀ x,x ∈ xs → 0 ≤ x ∧ x < m) : ck xs m:=fun k hk=>by
 have h1:=hb _ (cZ hk)
 refine ⟨h1.1,h1.2,fun h0=>?_⟩
 have h3:=List.pairwise_iff_getElem.1 hp (k - 1) k (by omega) hk (by omega)
 rwa [← dr (by omega : k - 1 < xs.length),← dr hk] at h3
theorem gM {p : Int → Prop} {xs : List Int} (hx : xs.Pairwise (· < ·)) : ∀ k,k ≤ xs.length → (fi p xs k).Pairwise (· < ·)
 | 0, _ => List.Pairwise.nil
 | k + 1, hk => by
   by_cases h : p (gi xs k)
   · rw [fm h,List.pairwise_append]
     refine ⟨gM hx k (by omega),by simp,fun x hx' y hy=>?_⟩
     obtain ⟨j,h1,h2,_⟩:=(fD k (by omega)).1 hx'
     rw [List.mem_singleton.1 hy,← h2]
     have h3:=List.pairwise_iff_getElem.1 hx j k (by omega) (by omega) h1
     rwa [← dr (by omega : j < xs.length),← dr (by omega : k < xs.length)] at h3
   · rw [fJ h];exact gM hx k (by omega)
theorem gN {p : Int → Prop} {xs : List Int} {x : Int} : x ∈ fi p xs xs.length ↔ x ∈ xs ∧ p x:=by
 rw [fD _ (Nat.le_refl _)]
 constructor
 · rintro ⟨j,h1,h2,h3⟩;exact ⟨h2 ▸ cZ h1,h3⟩
 · rintro ⟨h1,h2⟩
   obtain ⟨j,h3,h4⟩:=cU h1
   exact ⟨j,h3,h4,h2⟩
theorem nD {xs : List Int} (h : xs.Pairwise (· < ·)) {i j : Nat} (hj : j < xs.length) (hij : i < j) : gi xs i < gi xs j:=by
 have:=List.pairwise_iff_getElem.1 h i j (by omega) hj hij
 rwa [← dr (by omega : i < xs.length),← dr hj] at this
theorem ou {L : List Int} (h : L.Pairwise (· < ·)) {j : Nat} (hj : j < L.length) : dE (gi L j) L = j:=by
 have h1 : ¬ j < dE (gi L j) L:=fun h'=>by have:=(ep h j hj).2 h';omega
 rcases Nat.lt_or_ge (dE (gi L j) L) j with h2|h2
 · have h3:=nD h hj h2
   have:=(ep h (dE (gi L j) L) (by omega)).1 h3
   omega
 · omega
noncomputable def fE (L row : List Int) : List Int:=(fi (fun u=>u ∈ L) row row.length).map fun u=>(dE u L : Int)
theorem iw {L row : List Int} {x : Int} (hL : L.Pairwise (· < ·)) : x ∈ fE L row ↔ ∃ j : Nat,j < L.length ∧ x = j ∧ gi L j ∈ row:=by
 unfold fE
 rw [List.mem_map]
 constructor
 · rintro ⟨u,h1,rfl⟩
   obtain ⟨h2,h3⟩:=gN.1 h1
   obtain ⟨h4,h5⟩:=(eV hL).1 h3
   exact ⟨_,h4,rfl,by rw [h5];exact h2⟩
 · rintro ⟨j,h1,rfl,h2⟩
   exact ⟨gi L j,gN.2 ⟨h2,cZ h1⟩,by rw [ou hL h1]⟩
theorem ra {L row : List Int} (hL : L.Pairwise (· < ·)) (hr : row.Pairwise (· < ·)) : (fE L row).Pairwise (· < ·):=by
 unfold fE
 rw [List.pairwise_map]
 refine (gM hr _ (Nat.le_refl _)).imp_of_mem fun {a b} ha hb hab=>?_
 obtain ⟨a1,a2⟩:=(eV hL).1 (gN.1 ha).2
 have:=(ep (x:=b) hL _ a1).1 (by rw [a2];exact hab)
 omega
theorem my (L row : List Int) : (fE L row).length ≤ row.length:=by
 unfold fE
 rw [List.length_map]
 exact g0 _ _ _
noncomputable def fF (a : Ar) (L : List Int) : Ar:=⟨tab L.length fun i=>gi a.own (gi L i).toNat,dz L.length fun i=>fE L (gr a.nxt (gi L i).toNat)⟩
noncomputable def eq (g : Pa) (L : List Int) : Pa:=⟨fF g.ar L,tab L.length fun i=>gi g.prio (gi L i).toNat⟩
theorem gx (g : Pa) (L : List Int) : (eq g L).prio.length = L.length:=cj _ _
theorem sC {g : Pa} (hg : PaOk g) {L : List Int} (hL : ck L g.prio.length) (hpos : 1 ≤ L.length) (htot : ∀ i,i < L.length → ∃ u,u ∈ gr g.ar.nxt (gi L i).toNat ∧ u ∈ L) : PaOk (eq g L):=by
 have hl:=hg.len
 have hle:=hg.ar.le
 have hlen:=dK hL (by omega)
 have hinc:=jq hL
 have e1 : (fF g.ar L).own.length = L.length:=cj _ _
 refine ⟨⟨by show 1 ≤ (fF g.ar L).own.length;omega,by show (fF g.ar L).own.length ≤ 256;omega,by show (fF g.ar L).nxt.length = _;rw [show (eq g L).ar = fF g.ar L from rfl,e1];exact eR _ _,fun v hv=>?_⟩,by rw [gx];exact e1.symm,fun v hv=>?_⟩
 · have hv : v < L.length:=by rw [← e1];exact hv
   have hb:=hL v hv
   obtain ⟨b1,b2,b3,b4,b5⟩:=hg.ar.vert (gi L v).toNat (by omega)
   have e2 : gi (fF g.ar L).own v = gi g.ar.own (gi L v).toNat:=cV _ hv
   have e3 : gr (fF g.ar L).nxt v = fE L (gr g.ar.nxt (gi L v).toNat):=dA _ hv
   show 0 ≤ gi (fF g.ar L).own v ∧ gi (fF g.ar L).own v ≤ 1 ∧ 1 ≤ (gr (fF g.ar L).nxt v).length ∧ (gr (fF g.ar L).nxt v).length ≤ 16 ∧ ck (gr (fF g.ar L).nxt v) (fF g.ar L).own.length
   rw [e2,e3,e1]
   have hlr:=my L (gr g.ar.nxt (gi L v).toNat)
   refine ⟨b1,b2,?_,by omega,iP (ra hinc (jq b5)) fun x hx=>?_⟩
   · obtain ⟨u,u1,u2⟩:=htot v hv
     obtain ⟨j,j1,j2⟩:=cU u2
     have : (j : Int) ∈ fE L (gr g.ar.nxt (gi L v).toNat):=(iw hinc).2 ⟨j,j1,rfl,by rw [j2];exact u1⟩
     exact List.length_pos_of_mem this
   · obtain ⟨j,j1,rfl,_⟩:=(iw hinc).1 hx
     omega
 · rw [gx] at hv
   have hb:=hL v hv
   have:=hg.prio (gi L v).toNat (by omega)
   show 0 ≤ gi (tab _ _) v ∧ gi (tab _ _) v ≤ 40
   rw [cV _ hv]
   exact this
theorem nE {g : Pa} (hg : PaOk g) {v : Nat} (hv : v < g.prio.length) : (pgP g).prio v = gi g.prio v:=by
 have:=hg.prio v hv
 show (if 0 ≤ gi g.prio v ∧ gi g.prio v ≤ 40 then gi g.prio v else 0) = _
 rw [if_pos this]
theorem jR {g : Pa} (v u : Nat) : (pgP g).E v u ↔ v < g.prio.length ∧ u < g.prio.length ∧ (u : Int) ∈ gr g.ar.nxt v:=by
 rw [kJ]
 refine ⟨fun ⟨h1,h2,t,h3,h4⟩=>⟨h1,h2,h4 ▸ cZ h3⟩,fun ⟨h1,h2,h3⟩=>⟨h1,h2,?_⟩⟩
 obtain ⟨t,h4,h5⟩:=cU h3
 exact ⟨t,h4,h5⟩
theorem sD {g : Pa} (hg : PaOk g) {L : List Int} (hL : ck L g.prio.length) (hh : PaOk (eq g L)) {i : Nat} (hi : i < L.length) {p : Int} (h : PG.Won (pgP (eq g L)) p (fk (eq g L)) i) :
  ∃ R,PG.Dom (pgP g) p (fun v=>(v : Int) ∈ L) R ∧ R (gi L i).toNat:=by
 obtain ⟨R,hR,hRi⟩:=h
 have hsl:=gx g L
 have hinc:=jq hL
 have bd : ∀ i,i < L.length → (gi L i).toNat < g.prio.length ∧ ((gi L i).toNat : Int) = gi L i:=fun i hi=>by have:=hL i hi;omega
 refine ⟨_,PG.dom_set (fun v=>?_) (fun v=>Iff.rfl) (sB (G:=pgP g) (f:=fun i=>(gi L i).toNat) ?_ ?_ ?_ ?_ hR),⟨i,hRi,rfl⟩⟩
 · constructor
   · rintro ⟨i,h1,rfl⟩
     have h1 : i < L.length:=by rw [← hsl];exact h1
     show ((gi L i).toNat : Int) ∈ L
     rw [(bd i h1).2];exact cZ h1
   · intro hv
     obtain ⟨j,j1,j2⟩:=cU hv
     exact ⟨j,by show j < (eq g L).prio.length;omega,by show (gi L j).toNat = v;omega⟩
 · intro a b ha hb
   have ha : a < L.length:=by rw [← hsl];exact ha
   have hb : b < L.length:=by rw [← hsl];exact hb
   rw [jR,jR,hsl,show gr (eq g L).ar.nxt a = fE L (gr g.ar.nxt (gi L a).toNat) from dA _ ha,iw hinc,(bd b hb).2]
   constructor
   · rintro ⟨_,_,j,j1,j2,j3⟩
     obtain rfl : b = j:=by omega
     exact ⟨(bd a ha).1,(bd b hb).1,j3⟩
   · rintro ⟨_,_,h3⟩
     exact ⟨ha,hb,b,hb,rfl,h3⟩
 · intro a ha
   have ha : a < L.length:=by rw [← hsl];exact ha
   rw [ms hh (by omega),ms hg (bd a ha).1]
   exact cV _ ha
 · intro a ha
   have ha : a < L.length:=by rw [← hsl];exact ha
   rw [nE hh (by omega),nE hg (bd a ha).1]
   exact cV _ ha
 · intro a b ha hb e
   have ha : a < L.length:=by rw [← hsl];exact ha
   have hb : b < L.length:=by rw [← hsl];exact hb
   have e : (gi L a).toNat = (gi L b).toNat:=e
   have h1:=(bd a ha).2
   have h2:=(bd b hb).2
   rcases Nat.lt_trichotomy a b with h|h|h
   · have:=nD hinc hb h;omega
   · exact h
   · have:=nD hinc ha h;omega
def ez (g : Pa) (w : Int) (v : Nat) : Prop:=v < g.prio.length ∧ gi g.prio v % 2 = w ∧ (v : Int) ∈ gr g.ar.nxt v ∧ (gi g.ar.own v = w ∨ (gr g.ar.nxt v).length = 1)
theorem jS {g : Pa} (hg : PaOk g) (w : Int) : PG.Dom (pgP g) w (fk g) (ez g w):=pn fun v ⟨h1,h2,h3,h4⟩=>by
 refine ⟨h1,by rw [nE hg h1];exact h2,(jR _ _).2 ⟨h1,h1,h3⟩,?_⟩
 rcases h4 with h4|h4
 · exact .inl (by rw [ms hg h1];exact h4)
 · refine .inr fun u hu=>?_
   have hu:=((jR _ _).1 hu).2.2
   obtain ⟨a,a1,a2⟩:=cU hu
   obtain ⟨b,b1,b2⟩:=cU h3
   have : a = b:=by omega
   subst this
   omega
theorem rb {g : Pa} (hg : PaOk g) {w : Int} (hw : w = 0 ∨ w = 1) {v : Nat} (h : ez g w v) : gi (bS g) v = w:=(fY hg h.1 hw).2 ⟨_,jS hg w,h⟩
theorem rc {g : Pa} (hg : PaOk g) {w : Int} (hw : w = 0 ∨ w = 1) {L : List Int} (hL : ck L g.prio.length) (hm : ∀ v,v < g.prio.length → ((v : Int) ∈ L ↔ ¬ PG.Attr (pgP g) w (fk g) (ez g w) v)) (hh : PaOk (eq g L)) {i : Nat} (hi : i < L.length) :
  gi (bS (eq g L)) i = gi (bS g) (gi L i).toNat:=by
 have hsl:=gx g L
 have hp:=jp (g:=eq g L) (v:=i) (by omega)
 obtain ⟨R,hR,hRi⟩:=sD hg hL hh hi ((fY hh (by omega) hp).1 rfl)
 have hb:=hL i hi
 refine ((fY hg (by omega) hp).2 (q9 hw hp (jS hg w) (PG.dom_set (fun v=>?_) (fun v=>Iff.rfl) hR) hRi)).symm
 constructor
 · intro hv
   obtain ⟨j,j1,j2⟩:=cU hv
   have:=hL j j1
   exact ⟨by show v < g.prio.length;omega,(hm v (by omega)).1 hv⟩
 · rintro ⟨h1,h2⟩
   exact (hm v h1).2 h2
theorem po {g : Pa} (hg : PaOk g) {w : Int} (hw : w = 0 ∨ w = 1) {v : Nat} (hv : v < g.prio.length) (h : PG.Attr (pgP g) w (fk g) (ez g w) v) : gi (bS g) v = w :=
 (fY hg hv hw).2 ⟨_,PG.dom_attr (jS hg w),h⟩
theorem nF {g : Pa} (hg : PaOk g) {w : Int} {L : List Int} (hL : ck L g.prio.length) (hm : ∀ v,v < g.prio.length → ((v : Int) ∈ L ↔ ¬ PG.Attr (pgP g) w (fk g) (ez g w) v)) {i : Nat} (hi : i < L.length) : ∃ u,u ∈ gr g.ar.nxt (gi L i).toNat ∧ u ∈ L:=by
 have hb:=hL i hi
 have hv : (gi L i).toNat < g.prio.length:=by omega
 obtain ⟨u,h1,h2,h3⟩:=PG.total_diff (T:=ez g w) (who:=w) oi (gJ hg) (gi L i).toNat ⟨hv,(hm _ hv).1 (by rw [show ((gi L i).toNat : Int) = gi L i by omega];exact cZ hi)⟩
 exact ⟨u,((jR _ _).1 h1).2.2,(hm u h2).2 h3⟩
end Go.Proofs.Ytfaefmabjjndeaa
namespace Go.Proofs.Ytfaefmabjjndeaa
set_option linter.unusedVariables false
set_option linter.unusedSimpArgs false
open Go.RowKit
attribute [local irreducible] aF cL Aw Le
def iQ (L : List Int) (k u : Nat) : Int:=if dE u L < k ∧ (u : Int) ∈ L then dE u L else -1
theorem pp (L : List Int) (u : Nat) : iQ L 0 u = -1:=if_neg fun h=>absurd h.1 (Nat.not_lt_zero _)
theorem pq {L : List Int} (hL : L.Pairwise (· < ·)) (h0 : ∀ k,k < L.length → 0 ≤ gi L k) {k u : Nat} (hk : k < L.length) : iQ L (k + 1) u = if u = (gi L k).toNat then (k : Int) else iQ L k u:=by
 have:=h0 k hk
 by_cases e : u = (gi L k).toNat
 · rw [if_pos e]
   have e2 : (u : Int) = gi L k:=by omega
   unfold iQ
   rw [e2,ou hL hk,if_pos ⟨Nat.lt_succ_self k,cZ hk⟩]
 · rw [if_neg e]
   unfold iQ
   have : (dE u L < k + 1 ∧ (u : Int) ∈ L) ↔ (dE u L < k ∧ (u : Int) ∈ L):=by
    constructor
    · rintro ⟨h1,h2⟩
      refine ⟨?_,h2⟩
      rcases Nat.lt_or_ge (dE u L) k with h|h
      · exact h
      · have h3 : dE u L = k:=by omega
        have:=((eV hL).1 h2).2
        rw [h3] at this
        omega
    · rintro ⟨h1,h2⟩;exact ⟨by omega,h2⟩
   by_cases h : dE u L < k ∧ (u : Int) ∈ L
   · rw [if_pos h,if_pos (this.2 h)]
   · rw [if_neg h,if_neg (fun h'=>h (this.1 h'))]
theorem re {L : List Int} (hL : L.Pairwise (· < ·)) (u : Nat) : iQ L L.length u = if (u : Int) ∈ L then (dE u L : Int) else -1:=by
 unfold iQ
 by_cases h : (u : Int) ∈ L
 · rw [if_pos h,if_pos ⟨((eV hL).1 h).1,h⟩]
 · rw [if_neg h,if_neg fun h'=>h h'.2]
set_option maxHeartbeats 2000000 in
theorem mz (a : Ar) (ha : ArOk a) (L : List Int) (hL : ck L a.own.length) (htot : ∀ i,i < L.length → ∃ u,u ∈ gr a.nxt (gi L i).toNat ∧ u ∈ L) : aF Try.prog 215 [arA a,.c (.I L)] [] (fun _=>.tup [arA (fF a L),.c (.bool true)]):=by
 have hle:=ha.le
 have hln:=ha.len
 have hLl:=dK hL (by omega)
 have hinc:=jq hL
 have h0 : ∀ k,k < L.length → 0 ≤ gi L k:=fun k hk=>(hL k hk).1
 have hrows : ∀ k,k < L.length → 1 ≤ (gr a.nxt (gi L k).toNat).length ∧ (gr a.nxt (gi L k).toNat).length ≤ 16 ∧ ck (gr a.nxt (gi L k).toNat) a.own.length:=fun k hk=>(ha.vert _ (by have:=hL k hk;omega)).2.2
 have rowS_pos : ∀ k,k < L.length → 1 ≤ (fE L (gr a.nxt (gi L k).toNat)).length:=fun k hk=>by
  obtain ⟨u,u1,u2⟩:=htot k hk
  obtain ⟨j,j1,j2⟩:=cU u2
  have : (j : Int) ∈ fE L (gr a.nxt (gi L k).toNat):=(iw hinc).2 ⟨j,j1,rfl,by rw [j2];exact u1⟩
  exact List.length_pos_of_mem this
 (refine bU aO Try.func215 rfl rfl (by kernel_rfl) fun hp0 ν hX hN=>?_;simp only [cN,Nat.reduceAdd])
 (repeat' (first|(with_reducible first|(refine hK _ _ ?_;clear hK K)|(refine aa _ ?_;clear aa K)|(refine ab _ _ _ ?_;clear ab K)|(refine ac _ _ ?_;clear ac K)|refine bi ?_|refine b8 ?_|refine a9 ?_|refine au ?_|refine aq ?_|refine b9 ?_|refine aI ?_|refine ba ?_|refine ca ?_|refine bc ?_|refine be rfl ?_|refine bj ?_|refine bf ?_|refine cc ?_|refine bg ?_|refine aH ?_|refine n_k ?_|refine bh ?_|(refine ae ?_;clear ae X af Y)|(refine af ?_;clear ae X af Y))|(with_reducible refine bp ?_;first|refine bn rfl ?_|refine bo rfl ?_)|(with_reducible refine a8 ?_;first|refine ax rfl rfl rfl rfl ?_|refine aK rfl rfl rfl ?_|refine bu rfl rfl rfl rfl ?_)|(with_reducible refine cK ?_;first|refine ce rfl rfl rfl rfl ?_|refine cr rfl rfl rfl ?_|refine cI rfl rfl rfl rfl ?_|refine cJ hN (by apply Exists.intro;apply And.intro;(repeat' (first|apply FtI.nil|apply FI.nil|apply FI.cons|apply FtI.cons));kernel_rfl) ?_)|((first|(with_reducible first|refine br rfl rfl fun K hK=>?_|refine cG rfl rfl fun K ab=>?_|refine bt rfl rfl fun K aa=>?_|refine cH rfl rfl fun K ac=>?_|refine aJ fun X Y ae af=>?_|refine aL ?_));simp (disch:=first|decide|omega|(simp only [List.length_cons,List.length_nil];omega)) only [go_sem,beq_self_eq_true,↓aj,↓ak hN,am hN,reduceIte,reduceCtorEq,Nat.reduceAdd,Nat.reduceLT,Nat.reduceLeDiff,Nat.reduceEqDiff,Nat.reduceSub])|(with_reducible refine And.intro (fun h=>?_) (fun h=>?_) <;> try (exfalso;omega))|(with_reducible refine bm aO hN rfl ?_ ?_;kernel_rfl)|(with_reducible refine cf aO hN rfl ?_ ?_ ?_ ?_;(kernel_rfl);(kernel_rfl);(kernel_rfl))|(with_reducible refine And.intro ?_ ?_)|(refine ah ?_;omega)|(exact bv hN (by decide))))
 (refine co (fun (k : Nat)=>(tmL [(22,.c (.int .i64 k)),(21,.c (.int .i64 a.own.length)),(6,.sl (ν 2)),(4,.ad (ν 1) 0),(2,.ad (ν 0) 0),(1,.c (.I L))],hpL hp0 ν [.box [.c (.I a.own),.c (.R a.nxt)],.box [.c .nul,.c .nul],.arr 2 .yes (.I (tab a.own.length fun u=>if u < k then (fun u=>iQ L 0 u) u else 0))])) (fun (k : Nat)=>k ≤ a.own.length) (fun (k : Nat)=>a.own.length - k) ⟨0,?_,bT hX hN [] ?_ ?_⟩ ?_;(repeat' (first|(with_reducible first|exact bM _|exact bN|exact bO|refine bP ?_ ?_|refine bQ ?_ ?_|exact ay _|exact bK _|exact ao _|rfl|exact aQ _ _|refine aA ?_|exact bL _|refine aU ?_)|refine bR rfl ?_ ?_|exact aR hN _ rfl rfl rfl|exact aS hN _ rfl rfl rfl|exact aB hN _ rfl rfl rfl (Or.inr rfl)|(refine aT hN _ rfl rfl (by first|exact Or.inr rfl|exact Or.inl rfl) ?_;first|exact aM _|exact aN _)|refine aC hN rfl ?_|refine aD hN rfl rfl ?_|exact az hN _ rfl rfl|exact aE hN rfl rfl rfl rfl|(with_reducible first|refine aP ?_|refine bF ?_|refine bG ?_|refine bH ?_|refine bD ?_|refine bE ?_)));(try (any_goals (first|(with_reducible rfl)|(refine ah ?_;omega)))))
 · exact ig _ _
 intro k hk
 have htl:=cj a.own.length fun u=>if u < k then (fun u=>iQ L 0 u) u else 0
 (repeat' (first|(with_reducible first|(refine hK _ _ ?_;clear hK K)|(refine aa _ ?_;clear aa K)|(refine ab _ _ _ ?_;clear ab K)|(refine ac _ _ ?_;clear ac K)|refine bi ?_|refine b8 ?_|refine a9 ?_|refine au ?_|refine aq ?_|refine b9 ?_|refine aI ?_|refine ba ?_|refine ca ?_|refine bc ?_|refine be rfl ?_|refine bj ?_|refine bf ?_|refine cc ?_|refine bg ?_|refine aH ?_|refine n_k ?_|refine bh ?_|(refine ae ?_;clear ae X af Y)|(refine af ?_;clear ae X af Y))|(with_reducible refine bp ?_;first|refine bn rfl ?_|refine bo rfl ?_)|(with_reducible refine a8 ?_;first|refine ax rfl rfl rfl rfl ?_|refine aK rfl rfl rfl ?_|refine bu rfl rfl rfl rfl ?_)|(with_reducible refine cK ?_;first|refine ce rfl rfl rfl rfl ?_|refine cr rfl rfl rfl ?_|refine cI rfl rfl rfl rfl ?_|refine cJ hN (by apply Exists.intro;apply And.intro;(repeat' (first|apply FtI.nil|apply FI.nil|apply FI.cons|apply FtI.cons));kernel_rfl) ?_)|((first|(with_reducible first|refine br rfl rfl fun K hK=>?_|refine cG rfl rfl fun K ab=>?_|refine bt rfl rfl fun K aa=>?_|refine cH rfl rfl fun K ac=>?_|refine aJ fun X Y ae af=>?_|refine aL ?_));simp (disch:=first|decide|omega|(simp only [List.length_cons,List.length_nil];omega)) only [go_sem,beq_self_eq_true,↓aj,↓ak hN,am hN,reduceIte,reduceCtorEq,Nat.reduceAdd,Nat.reduceLT,Nat.reduceLeDiff,Nat.reduceEqDiff,Nat.reduceSub])|(with_reducible refine And.intro (fun h=>?_) (fun h=>?_) <;> try (exfalso;omega))|(with_reducible refine bm aO hN rfl ?_ ?_;kernel_rfl)|(with_reducible refine cf aO hN rfl ?_ ?_ ?_ ?_;(kernel_rfl);(kernel_rfl);(kernel_rfl))|(with_reducible refine And.intro ?_ ?_)|(refine ah ?_;omega)|(exact bv hN (by decide))))
 · (refine ⟨k + 1,⟨?_,?_⟩,bT hX hN [] ?_ ?_⟩;(try any_goals dsimp only);(repeat' (first|(with_reducible first|exact bM _|exact bN|exact bO|refine bP ?_ ?_|refine bQ ?_ ?_|exact ay _|exact bK _|exact ao _|rfl|exact aQ _ _|refine aA ?_|exact bL _|refine aU ?_)|refine bR rfl ?_ ?_|exact aR hN _ rfl rfl rfl|exact aS hN _ rfl rfl rfl|exact aB hN _ rfl rfl rfl (Or.inr rfl)|(refine aT hN _ rfl rfl (by first|exact Or.inr rfl|exact Or.inl rfl) ?_;first|exact aM _|exact aN _)|refine aC hN rfl ?_|refine aD hN rfl rfl ?_|exact az hN _ rfl rfl|exact aE hN rfl rfl rfl rfl|(with_reducible first|refine aP ?_|refine bF ?_|refine bG ?_|refine bH ?_|refine bD ?_|refine bE ?_)));(try (any_goals (first|(with_reducible rfl)|(refine ah ?_;omega)))))
   exact ii (by omega) (pp _ _).symm
 obtain rfl : k = a.own.length:=by omega
 rw [fw (Nat.le_refl _)]
 clear hk htl
 (refine co (fun (k : Nat)=>(tmL [(31,.c (.int .i64 k)),(30,.c (.int .i64 L.length)),(29,.c (.I L)),(6,.sl (ν 2)),(4,.ad (ν 1) 0),(2,.ad (ν 0) 0),(1,.c (.I L))],hpL hp0 ν [.box [.c (.I a.own),.c (.R a.nxt)],.box [.c .nul,.c .nul],.arr 2 .yes (.I (tab a.own.length fun u=>iQ L k u))])) (fun (k : Nat)=>k ≤ L.length) (fun (k : Nat)=>L.length - k) ⟨0,?_,bT hX hN [] ?_ ?_⟩ ?_;(repeat' (first|(with_reducible first|exact bM _|exact bN|exact bO|refine bP ?_ ?_|refine bQ ?_ ?_|exact ay _|exact bK _|exact ao _|rfl|exact aQ _ _|refine aA ?_|exact bL _|refine aU ?_)|refine bR rfl ?_ ?_|exact aR hN _ rfl rfl rfl|exact aS hN _ rfl rfl rfl|exact aB hN _ rfl rfl rfl (Or.inr rfl)|(refine aT hN _ rfl rfl (by first|exact Or.inr rfl|exact Or.inl rfl) ?_;first|exact aM _|exact aN _)|refine aC hN rfl ?_|refine aD hN rfl rfl ?_|exact az hN _ rfl rfl|exact aE hN rfl rfl rfl rfl|(with_reducible first|refine aP ?_|refine bF ?_|refine bG ?_|refine bH ?_|refine bD ?_|refine bE ?_)));(try (any_goals (first|(with_reducible rfl)|(refine ah ?_;omega)))))
 intro k hk
 have htl:=cj a.own.length fun u=>iQ L k u
 have hbk:=hL k
 (repeat' (first|(with_reducible first|(refine hK _ _ ?_;clear hK K)|(refine aa _ ?_;clear aa K)|(refine ab _ _ _ ?_;clear ab K)|(refine ac _ _ ?_;clear ac K)|refine bi ?_|refine b8 ?_|refine a9 ?_|refine au ?_|refine aq ?_|refine b9 ?_|refine aI ?_|refine ba ?_|refine ca ?_|refine bc ?_|refine be rfl ?_|refine bj ?_|refine bf ?_|refine cc ?_|refine bg ?_|refine aH ?_|refine n_k ?_|refine bh ?_|(refine ae ?_;clear ae X af Y)|(refine af ?_;clear ae X af Y))|(with_reducible refine bp ?_;first|refine bn rfl ?_|refine bo rfl ?_)|(with_reducible refine a8 ?_;first|refine ax rfl rfl rfl rfl ?_|refine aK rfl rfl rfl ?_|refine bu rfl rfl rfl rfl ?_)|(with_reducible refine cK ?_;first|refine ce rfl rfl rfl rfl ?_|refine cr rfl rfl rfl ?_|refine cI rfl rfl rfl rfl ?_|refine cJ hN (by apply Exists.intro;apply And.intro;(repeat' (first|apply FtI.nil|apply FI.nil|apply FI.cons|apply FtI.cons));kernel_rfl) ?_)|((first|(with_reducible first|refine br rfl rfl fun K hK=>?_|refine cG rfl rfl fun K ab=>?_|refine bt rfl rfl fun K aa=>?_|refine cH rfl rfl fun K ac=>?_|refine aJ fun X Y ae af=>?_|refine aL ?_));simp (disch:=first|decide|omega|(simp only [List.length_cons,List.length_nil];omega)) only [go_sem,beq_self_eq_true,↓aj,↓ak hN,am hN,reduceIte,reduceCtorEq,Nat.reduceAdd,Nat.reduceLT,Nat.reduceLeDiff,Nat.reduceEqDiff,Nat.reduceSub])|(with_reducible refine And.intro (fun h=>?_) (fun h=>?_) <;> try (exfalso;omega))|(with_reducible refine bm aO hN rfl ?_ ?_;kernel_rfl)|(with_reducible refine cf aO hN rfl ?_ ?_ ?_ ?_;(kernel_rfl);(kernel_rfl);(kernel_rfl))|(with_reducible refine And.intro ?_ ?_)|(refine ah ?_;omega)|(exact bv hN (by decide))))
 · (refine ⟨k + 1,⟨?_,?_⟩,bT hX hN [] ?_ ?_⟩;(try any_goals dsimp only);(repeat' (first|(with_reducible first|exact bM _|exact bN|exact bO|refine bP ?_ ?_|refine bQ ?_ ?_|exact ay _|exact bK _|exact ao _|rfl|exact aQ _ _|refine aA ?_|exact bL _|refine aU ?_)|refine bR rfl ?_ ?_|exact aR hN _ rfl rfl rfl|exact aS hN _ rfl rfl rfl|exact aB hN _ rfl rfl rfl (Or.inr rfl)|(refine aT hN _ rfl rfl (by first|exact Or.inr rfl|exact Or.inl rfl) ?_;first|exact aM _|exact aN _)|refine aC hN rfl ?_|refine aD hN rfl rfl ?_|exact az hN _ rfl rfl|exact aE hN rfl rfl rfl rfl|(with_reducible first|refine aP ?_|refine bF ?_|refine bG ?_|refine bH ?_|refine bD ?_|refine bE ?_)));(try (any_goals (first|(with_reducible rfl)|(refine ah ?_;omega)))))
   rw [gZ (by omega)]
   exact cC fun u _=>pq hinc h0 (by omega)
 obtain rfl : k = L.length:=by omega
 clear hk hbk
 have hpos : ∀ u,u < a.own.length → gi (tab a.own.length fun u=>iQ L L.length u) u = if (u : Int) ∈ L then (dE u L : Int) else -1:=fun u hu=>by rw [cV _ hu,re hinc]
 generalize (tab a.own.length fun u=>iQ L L.length u) = pos at *
 (refine co (fun (k : Nat)=>(tmL [(44,.c (.int .i64 k)),(43,.c (.int .i64 L.length)),(42,.c (.I L)),(10,.ad (ν 3) 0),(6,.sl (ν 2)),(4,.ad (ν 1) 0),(2,.ad (ν 0) 0),(1,.c (.I L))],hpL hp0 ν [.box [.c (.I a.own),.c (.R a.nxt)],.box [.c .nul,.c .nul],.arr 2 .yes (.I pos),.box [.sl (ν 4),.sl (ν 5)],.arr 2 .may (.I (tab k fun i=>gi a.own (gi L i).toNat)),.arr 27 .may (.R (dz k fun i=>fE L (gr a.nxt (gi L i).toNat)))])) (fun (k : Nat)=>k ≤ L.length) (fun (k : Nat)=>L.length - k) ⟨0,?_,bT hX hN [] ?_ ?_⟩ ?_;(repeat' (first|(with_reducible first|exact bM _|exact bN|exact bO|refine bP ?_ ?_|refine bQ ?_ ?_|exact ay _|exact bK _|exact ao _|rfl|exact aQ _ _|refine aA ?_|exact bL _|refine aU ?_)|refine bR rfl ?_ ?_|exact aR hN _ rfl rfl rfl|exact aS hN _ rfl rfl rfl|exact aB hN _ rfl rfl rfl (Or.inr rfl)|(refine aT hN _ rfl rfl (by first|exact Or.inr rfl|exact Or.inl rfl) ?_;first|exact aM _|exact aN _)|refine aC hN rfl ?_|refine aD hN rfl rfl ?_|exact az hN _ rfl rfl|exact aE hN rfl rfl rfl rfl|(with_reducible first|refine aP ?_|refine bF ?_|refine bG ?_|refine bH ?_|refine bD ?_|refine bE ?_)));(try (any_goals (first|(with_reducible rfl)|(refine ah ?_;omega)))))
 intro k hk
 have hbk:=hL k
 have htl1:=cj k fun i=>gi a.own (gi L i).toNat
 have htl2:=eR k fun i=>fE L (gr a.nxt (gi L i).toNat)
 by_cases hkl : k < L.length
 · have hbk:=hbk hkl
   have hrow:=hrows k hkl
   have hne:=rowS_pos k hkl
   (repeat' (first|(with_reducible first|(refine hK _ _ ?_;clear hK K)|(refine aa _ ?_;clear aa K)|(refine ab _ _ _ ?_;clear ab K)|(refine ac _ _ ?_;clear ac K)|refine bi ?_|refine b8 ?_|refine a9 ?_|refine au ?_|refine aq ?_|refine b9 ?_|refine aI ?_|refine ba ?_|refine ca ?_|refine bc ?_|refine be rfl ?_|refine bj ?_|refine bf ?_|refine cc ?_|refine bg ?_|refine aH ?_|refine n_k ?_|refine bh ?_|(refine ae ?_;clear ae X af Y)|(refine af ?_;clear ae X af Y))|(with_reducible refine bp ?_;first|refine bn rfl ?_|refine bo rfl ?_)|(with_reducible refine a8 ?_;first|refine ax rfl rfl rfl rfl ?_|refine aK rfl rfl rfl ?_|refine bu rfl rfl rfl rfl ?_)|(with_reducible refine cK ?_;first|refine ce rfl rfl rfl rfl ?_|refine cr rfl rfl rfl ?_|refine cI rfl rfl rfl rfl ?_|refine cJ hN (by apply Exists.intro;apply And.intro;(repeat' (first|apply FtI.nil|apply FI.nil|apply FI.cons|apply FtI.cons));kernel_rfl) ?_)|((first|(with_reducible first|refine br rfl rfl fun K hK=>?_|refine cG rfl rfl fun K ab=>?_|refine bt rfl rfl fun K aa=>?_|refine cH rfl rfl fun K ac=>?_|refine aJ fun X Y ae af=>?_|refine aL ?_));simp (disch:=first|decide|omega|(simp only [List.length_cons,List.length_nil];omega)) only [go_sem,beq_self_eq_true,↓aj,↓ak hN,am hN,reduceIte,reduceCtorEq,Nat.reduceAdd,Nat.reduceLT,Nat.reduceLeDiff,Nat.reduceEqDiff,Nat.reduceSub])|(with_reducible refine And.intro (fun h=>?_) (fun h=>?_) <;> try (exfalso;omega))|(with_reducible refine bm aO hN rfl ?_ ?_;kernel_rfl)|(with_reducible refine cf aO hN rfl ?_ ?_ ?_ ?_;(kernel_rfl);(kernel_rfl);(kernel_rfl))|(with_reducible refine And.intro ?_ ?_)|(refine ah ?_;omega)|(exact bv hN (by decide))))
   have hE1 : tab (k + 1) (fun i=>gi a.own (gi L i).toNat) = tab k (fun i=>gi a.own (gi L i).toNat) ++ [gi a.own (gi L k).toNat]:=fo _ _
   have hE2 : dz (k + 1) (fun i=>fE L (gr a.nxt (gi L i).toNat)) = dz k (fun i=>fE L (gr a.nxt (gi L i).toNat)) ++ [fE L (gr a.nxt (gi L k).toNat)]:=by simp [dz,List.range_succ]
   generalize gr a.nxt (gi L k).toNat = r at *
   generalize (tab k fun i=>gi a.own (gi L i).toNat) = O at *
   generalize (dz k fun i=>fE L (gr a.nxt (gi L i).toNat)) = N at *
   have hrl:=my L r
   (refine co (fun (j : Nat)=>(tmL [(55,.c (.int .i64 j)),(54,.c (.int .i64 r.length)),(53,.c (.I r)),(44,.c (.int .i64 k)),(43,.c (.int .i64 L.length)),(42,.c (.I L)),(13,.sl (ν 6)),(12,.c (.int .i64 (gi L k))),(10,.ad (ν 3) 0),(6,.sl (ν 2)),(4,.ad (ν 1) 0),(2,.ad (ν 0) 0),(1,.c (.I L))],hpL hp0 ν [.box [.c (.I a.own),.c (.R a.nxt)],.box [.c .nul,.c .nul],.arr 2 .yes (.I pos),.box [.sl (ν 4),.sl (ν 5)],.arr 2 .may (.I O),.arr 27 .may (.R N),.arr 2 .yes (.I ((fi (fun u=>u ∈ L) r j).map fun u=>(dE u L : Int)))])) (fun (j : Nat)=>j ≤ r.length) (fun (j : Nat)=>r.length - j) ⟨0,?_,bT hX hN [] ?_ ?_⟩ ?_;(repeat' (first|(with_reducible first|exact bM _|exact bN|exact bO|refine bP ?_ ?_|refine bQ ?_ ?_|exact ay _|exact bK _|exact ao _|rfl|exact aQ _ _|refine aA ?_|exact bL _|refine aU ?_)|refine bR rfl ?_ ?_|exact aR hN _ rfl rfl rfl|exact aS hN _ rfl rfl rfl|exact aB hN _ rfl rfl rfl (Or.inr rfl)|(refine aT hN _ rfl rfl (by first|exact Or.inr rfl|exact Or.inl rfl) ?_;first|exact aM _|exact aN _)|refine aC hN rfl ?_|refine aD hN rfl rfl ?_|exact az hN _ rfl rfl|exact aE hN rfl rfl rfl rfl|(with_reducible first|refine aP ?_|refine bF ?_|refine bG ?_|refine bH ?_|refine bD ?_|refine bE ?_)));(try (any_goals (first|(with_reducible rfl)|(refine ah ?_;omega)))))
   · rfl
   intro j hj
   have hbj:=hrow.2.2 j
   have hfl:=g0 (fun u=>u ∈ L) r j
   have hml : ((fi (fun u=>u ∈ L) r j).map fun u=>(dE u L : Int)).length ≤ j:=by rw [List.length_map];exact hfl
   by_cases hjl : j < r.length
   · have hbj:=hbj hjl
     have hpj:=hpos (gi r j).toNat (by omega)
     rw [show ((gi r j).toNat : Int) = gi r j by omega] at hpj
     by_cases hm : gi r j ∈ L
     · rw [if_pos hm] at hpj
       (repeat' (first|(with_reducible first|(refine hK _ _ ?_;clear hK K)|(refine aa _ ?_;clear aa K)|(refine ab _ _ _ ?_;clear ab K)|(refine ac _ _ ?_;clear ac K)|refine bi ?_|refine b8 ?_|refine a9 ?_|refine au ?_|refine aq ?_|refine b9 ?_|refine aI ?_|refine ba ?_|refine ca ?_|refine bc ?_|refine be rfl ?_|refine bj ?_|refine bf ?_|refine cc ?_|refine bg ?_|refine aH ?_|refine n_k ?_|refine bh ?_|(refine ae ?_;clear ae X af Y)|(refine af ?_;clear ae X af Y))|(with_reducible refine bp ?_;first|refine bn rfl ?_|refine bo rfl ?_)|(with_reducible refine a8 ?_;first|refine ax rfl rfl rfl rfl ?_|refine aK rfl rfl rfl ?_|refine bu rfl rfl rfl rfl ?_)|(with_reducible refine cK ?_;first|refine ce rfl rfl rfl rfl ?_|refine cr rfl rfl rfl ?_|refine cI rfl rfl rfl rfl ?_|refine cJ hN (by apply Exists.intro;apply And.intro;(repeat' (first|apply FtI.nil|apply FI.nil|apply FI.cons|apply FtI.cons));kernel_rfl) ?_)|((first|(with_reducible first|refine br rfl rfl fun K hK=>?_|refine cG rfl rfl fun K ab=>?_|refine bt rfl rfl fun K aa=>?_|refine cH rfl rfl fun K ac=>?_|refine aJ fun X Y ae af=>?_|refine aL ?_));simp (disch:=first|decide|omega|(simp only [List.length_cons,List.length_nil];omega)) only [go_sem,beq_self_eq_true,↓aj,↓ak hN,am hN,reduceIte,reduceCtorEq,Nat.reduceAdd,Nat.reduceLT,Nat.reduceLeDiff,Nat.reduceEqDiff,Nat.reduceSub])|(with_reducible refine And.intro (fun h=>?_) (fun h=>?_) <;> try (exfalso;omega))|(with_reducible refine bm aO hN rfl ?_ ?_;kernel_rfl)|(with_reducible refine cf aO hN rfl ?_ ?_ ?_ ?_;(kernel_rfl);(kernel_rfl);(kernel_rfl))|(with_reducible refine And.intro ?_ ?_)|(refine ah ?_;omega)|(exact bv hN (by decide))))
       all_goals first|(exact absurd hpj (by omega))|skip
       (refine ⟨j + 1,⟨?_,?_⟩,bT hX hN [(6,8)] ?_ ?_⟩;(try any_goals dsimp only);(repeat' (first|(with_reducible first|exact bM _|exact bN|exact bO|refine bP ?_ ?_|refine bQ ?_ ?_|exact ay _|exact bK _|exact ao _|rfl|exact aQ _ _|refine aA ?_|exact bL _|refine aU ?_)|refine bR rfl ?_ ?_|exact aR hN _ rfl rfl rfl|exact aS hN _ rfl rfl rfl|exact aB hN _ rfl rfl rfl (Or.inr rfl)|(refine aT hN _ rfl rfl (by first|exact Or.inr rfl|exact Or.inl rfl) ?_;first|exact aM _|exact aN _)|refine aC hN rfl ?_|refine aD hN rfl rfl ?_|exact az hN _ rfl rfl|exact aE hN rfl rfl rfl rfl|(with_reducible first|refine aP ?_|refine bF ?_|refine bG ?_|refine bH ?_|refine bD ?_|refine bE ?_)));(try (any_goals (first|(with_reducible rfl)|(refine ah ?_;omega)))))
       rw [fm hm,List.map_append,hpj]
       rfl
     · rw [if_neg hm] at hpj
       (repeat' (first|(with_reducible first|(refine hK _ _ ?_;clear hK K)|(refine aa _ ?_;clear aa K)|(refine ab _ _ _ ?_;clear ab K)|(refine ac _ _ ?_;clear ac K)|refine bi ?_|refine b8 ?_|refine a9 ?_|refine au ?_|refine aq ?_|refine b9 ?_|refine aI ?_|refine ba ?_|refine ca ?_|refine bc ?_|refine be rfl ?_|refine bj ?_|refine bf ?_|refine cc ?_|refine bg ?_|refine aH ?_|refine n_k ?_|refine bh ?_|(refine ae ?_;clear ae X af Y)|(refine af ?_;clear ae X af Y))|(with_reducible refine bp ?_;first|refine bn rfl ?_|refine bo rfl ?_)|(with_reducible refine a8 ?_;first|refine ax rfl rfl rfl rfl ?_|refine aK rfl rfl rfl ?_|refine bu rfl rfl rfl rfl ?_)|(with_reducible refine cK ?_;first|refine ce rfl rfl rfl rfl ?_|refine cr rfl rfl rfl ?_|refine cI rfl rfl rfl rfl ?_|refine cJ hN (by apply Exists.intro;apply And.intro;(repeat' (first|apply FtI.nil|apply FI.nil|apply FI.cons|apply FtI.cons));kernel_rfl) ?_)|((first|(with_reducible first|refine br rfl rfl fun K hK=>?_|refine cG rfl rfl fun K ab=>?_|refine bt rfl rfl fun K aa=>?_|refine cH rfl rfl fun K ac=>?_|refine aJ fun X Y ae af=>?_|refine aL ?_));simp (disch:=first|decide|omega|(simp only [List.length_cons,List.length_nil];omega)) only [go_sem,beq_self_eq_true,↓aj,↓ak hN,am hN,reduceIte,reduceCtorEq,Nat.reduceAdd,Nat.reduceLT,Nat.reduceLeDiff,Nat.reduceEqDiff,Nat.reduceSub])|(with_reducible refine And.intro (fun h=>?_) (fun h=>?_) <;> try (exfalso;omega))|(with_reducible refine bm aO hN rfl ?_ ?_;kernel_rfl)|(with_reducible refine cf aO hN rfl ?_ ?_ ?_ ?_;(kernel_rfl);(kernel_rfl);(kernel_rfl))|(with_reducible refine And.intro ?_ ?_)|(refine ah ?_;omega)|(exact bv hN (by decide))))
       all_goals first|(exfalso;omega)|skip
       (refine ⟨j + 1,⟨?_,?_⟩,bT hX hN [] ?_ ?_⟩;(try any_goals dsimp only);(repeat' (first|(with_reducible first|exact bM _|exact bN|exact bO|refine bP ?_ ?_|refine bQ ?_ ?_|exact ay _|exact bK _|exact ao _|rfl|exact aQ _ _|refine aA ?_|exact bL _|refine aU ?_)|refine bR rfl ?_ ?_|exact aR hN _ rfl rfl rfl|exact aS hN _ rfl rfl rfl|exact aB hN _ rfl rfl rfl (Or.inr rfl)|(refine aT hN _ rfl rfl (by first|exact Or.inr rfl|exact Or.inl rfl) ?_;first|exact aM _|exact aN _)|refine aC hN rfl ?_|refine aD hN rfl rfl ?_|exact az hN _ rfl rfl|exact aE hN rfl rfl rfl rfl|(with_reducible first|refine aP ?_|refine bF ?_|refine bG ?_|refine bH ?_|refine bD ?_|refine bE ?_)));(try (any_goals (first|(with_reducible rfl)|(refine ah ?_;omega)))))
       rw [fJ hm]
   obtain rfl : j = r.length:=by omega
   rw [show (fi (fun u=>u ∈ L) r r.length).map (fun u=>(dE u L : Int)) = fE L r from rfl] at *
   generalize fE L r = R at *
   (repeat' (first|(with_reducible first|(refine hK _ _ ?_;clear hK K)|(refine aa _ ?_;clear aa K)|(refine ab _ _ _ ?_;clear ab K)|(refine ac _ _ ?_;clear ac K)|refine bi ?_|refine b8 ?_|refine a9 ?_|refine au ?_|refine aq ?_|refine b9 ?_|refine aI ?_|refine ba ?_|refine ca ?_|refine bc ?_|refine be rfl ?_|refine bj ?_|refine bf ?_|refine cc ?_|refine bg ?_|refine aH ?_|refine n_k ?_|refine bh ?_|(refine ae ?_;clear ae X af Y)|(refine af ?_;clear ae X af Y))|(with_reducible refine bp ?_;first|refine bn rfl ?_|refine bo rfl ?_)|(with_reducible refine a8 ?_;first|refine ax rfl rfl rfl rfl ?_|refine aK rfl rfl rfl ?_|refine bu rfl rfl rfl rfl ?_)|(with_reducible refine cK ?_;first|refine ce rfl rfl rfl rfl ?_|refine cr rfl rfl rfl ?_|refine cI rfl rfl rfl rfl ?_|refine cJ hN (by apply Exists.intro;apply And.intro;(repeat' (first|apply FtI.nil|apply FI.nil|apply FI.cons|apply FtI.cons));kernel_rfl) ?_)|((first|(with_reducible first|refine br rfl rfl fun K hK=>?_|refine cG rfl rfl fun K ab=>?_|refine bt rfl rfl fun K aa=>?_|refine cH rfl rfl fun K ac=>?_|refine aJ fun X Y ae af=>?_|refine aL ?_));simp (disch:=first|decide|omega|(simp only [List.length_cons,List.length_nil];omega)) only [go_sem,beq_self_eq_true,↓aj,↓ak hN,am hN,reduceIte,reduceCtorEq,Nat.reduceAdd,Nat.reduceLT,Nat.reduceLeDiff,Nat.reduceEqDiff,Nat.reduceSub])|(with_reducible refine And.intro (fun h=>?_) (fun h=>?_) <;> try (exfalso;omega))|(with_reducible refine bm aO hN rfl ?_ ?_;kernel_rfl)|(with_reducible refine cf aO hN rfl ?_ ?_ ?_ ?_;(kernel_rfl);(kernel_rfl);(kernel_rfl))|(with_reducible refine And.intro ?_ ?_)|(refine ah ?_;omega)|(exact bv hN (by decide))))
   (refine ⟨k + 1,⟨?_,?_⟩,bT hX hN [(4,8),(5,10)] ?_ ?_⟩;(try any_goals dsimp only);(repeat' (first|(with_reducible first|exact bM _|exact bN|exact bO|refine bP ?_ ?_|refine bQ ?_ ?_|exact ay _|exact bK _|exact ao _|rfl|exact aQ _ _|refine aA ?_|exact bL _|refine aU ?_)|refine bR rfl ?_ ?_|exact aR hN _ rfl rfl rfl|exact aS hN _ rfl rfl rfl|exact aB hN _ rfl rfl rfl (Or.inr rfl)|(refine aT hN _ rfl rfl (by first|exact Or.inr rfl|exact Or.inl rfl) ?_;first|exact aM _|exact aN _)|refine aC hN rfl ?_|refine aD hN rfl rfl ?_|exact az hN _ rfl rfl|exact aE hN rfl rfl rfl rfl|(with_reducible first|refine aP ?_|refine bF ?_|refine bG ?_|refine bH ?_|refine bD ?_|refine bE ?_)));(try (any_goals (first|(with_reducible rfl)|(refine ah ?_;omega)))))
   all_goals first|exact hE1|exact hE2|skip
   trace_state
 obtain rfl : k = L.length:=by omega
 (repeat' (first|(with_reducible first|(refine hK _ _ ?_;clear hK K)|(refine aa _ ?_;clear aa K)|(refine ab _ _ _ ?_;clear ab K)|(refine ac _ _ ?_;clear ac K)|refine bi ?_|refine b8 ?_|refine a9 ?_|refine au ?_|refine aq ?_|refine b9 ?_|refine aI ?_|refine ba ?_|refine ca ?_|refine bc ?_|refine be rfl ?_|refine bj ?_|refine bf ?_|refine cc ?_|refine bg ?_|refine aH ?_|refine n_k ?_|refine bh ?_|(refine ae ?_;clear ae X af Y)|(refine af ?_;clear ae X af Y))|(with_reducible refine bp ?_;first|refine bn rfl ?_|refine bo rfl ?_)|(with_reducible refine a8 ?_;first|refine ax rfl rfl rfl rfl ?_|refine aK rfl rfl rfl ?_|refine bu rfl rfl rfl rfl ?_)|(with_reducible refine cK ?_;first|refine ce rfl rfl rfl rfl ?_|refine cr rfl rfl rfl ?_|refine cI rfl rfl rfl rfl ?_|refine cJ hN (by apply Exists.intro;apply And.intro;(repeat' (first|apply FtI.nil|apply FI.nil|apply FI.cons|apply FtI.cons));kernel_rfl) ?_)|((first|(with_reducible first|refine br rfl rfl fun K hK=>?_|refine cG rfl rfl fun K ab=>?_|refine bt rfl rfl fun K aa=>?_|refine cH rfl rfl fun K ac=>?_|refine aJ fun X Y ae af=>?_|refine aL ?_));simp (disch:=first|decide|omega|(simp only [List.length_cons,List.length_nil];omega)) only [go_sem,beq_self_eq_true,↓aj,↓ak hN,am hN,reduceIte,reduceCtorEq,Nat.reduceAdd,Nat.reduceLT,Nat.reduceLeDiff,Nat.reduceEqDiff,Nat.reduceSub])|(with_reducible refine And.intro (fun h=>?_) (fun h=>?_) <;> try (exfalso;omega))|(with_reducible refine bm aO hN rfl ?_ ?_;kernel_rfl)|(with_reducible refine cf aO hN rfl ?_ ?_ ?_ ?_;(kernel_rfl);(kernel_rfl);(kernel_rfl))|(with_reducible refine And.intro ?_ ?_)|(refine ah ?_;omega)|(exact bv hN (by decide))))
 (refine d7 hN [] (by decide) (.inr rfl) (by first|exact cF rfl rfl|exact cw hN rfl rfl rfl rfl|exact cm hN rfl rfl rfl rfl rfl|(simp (disch:=first|decide|omega|(simp only [List.length_cons,List.length_nil];omega)) only [ct,cz,cB,cD,go_sem,beq_self_eq_true,↓aj,↓ak hN,am hN,reduceIte,reduceCtorEq,Nat.reduceAdd,Nat.reduceLT,Nat.reduceLeDiff,Nat.reduceEqDiff,Nat.reduceSub];rfl)|rfl) ?_ fun νs hνs=>?_;(repeat' (first|exact Gone.nil|(refine Gone.cons rfl rfl ?_ ?_)|(with_reducible refine dx ?_)|(with_reducible refine dw ?_)|(with_reducible refine SVs.cons ?_ ?_)|(with_reducible exact SVs.nil)|(simp only [List.drop,List.take])|(simp (disch:=first|decide|omega) only [↓aj,reduceIte,reduceCtorEq,Nat.reduceEqDiff])|(with_reducible exact fU _)|(with_reducible exact du _)|(exact dv rfl rfl rfl)|(exact dS 0 (by simp) rfl rfl)|(refine d6 hN rfl (dy hN (by decide)) ?_)|(with_reducible refine d5 ?_)|(with_reducible rfl)|(with_reducible refine bF ?_)|(with_reducible refine bG ?_)|(with_reducible refine bH ?_)|(with_reducible refine bD ?_)|(with_reducible refine bE ?_)|(refine ah ?_;omega))))
 all_goals rfl
end Go.Proofs.Ytfaefmabjjndeaa
