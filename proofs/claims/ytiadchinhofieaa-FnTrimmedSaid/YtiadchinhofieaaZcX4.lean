/-
  A trimmed game: every vertex has one successor.
-/
import Derived.Test.YtiadchinhofieaaZcW2
namespace Go.Proofs.Ytiadchinhofieaa
set_option linter.unusedVariables false
set_option linter.unusedSimpArgs false
open Go.RowKit
noncomputable def cP (g : Pa) (v : Nat) (u : Int) : Pa:=⟨⟨g.ar.own,g.ar.nxt.set v (d9 (fun x=>¬ x = u) (gr g.ar.nxt v) (gr g.ar.nxt v).length)⟩,g.prio⟩
theorem jl {xss : List (List Int)} {k j : Nat} {x : List Int} (hk : k < xss.length) : gr (xss.set k x) j = if j = k then x else gr xss j:=by
 simp only [gr,List.getD_eq_getElem?_getD,List.getElem?_set]
 by_cases e : k = j
 · subst e;rw [if_pos rfl,if_pos hk,if_pos rfl];rfl
 · rw [if_neg e,if_neg (fun e'=>e e'.symm)]
theorem lF {g : Pa} {v : Nat} {u : Int} (hv : v < g.ar.nxt.length) (w : Nat) (x : Int) : x ∈ gr (cP g v u).ar.nxt w ↔ x ∈ gr g.ar.nxt w ∧ ¬ (w = v ∧ x = u):=by
 show x ∈ gr (g.ar.nxt.set v _) w ↔ _
 rw [jl hv]
 by_cases e : w = v
 · rw [if_pos e,gL,e]
   exact ⟨fun ⟨h1,h2⟩=>⟨h1,fun h=>h2 h.2⟩,fun ⟨h1,h2⟩=>⟨h1,fun h=>h2 ⟨rfl,h⟩⟩⟩
 · rw [if_neg e]
   exact ⟨fun h=>⟨h,fun h'=>e h'.1⟩,fun h=>h.1⟩
theorem rp {g : Pa} {v : Nat} {u : Int} (hv : v < g.ar.nxt.length) (w x : Nat) : (pgP (cP g v u)).E w x ↔ (pgP g).E w x ∧ ¬ (w = v ∧ (x : Int) = u):=by
 rw [ro,ro,lF hv]
 show w < g.prio.length ∧ x < g.prio.length ∧ _ ↔ _
 exact ⟨fun ⟨a,b,c,d⟩=>⟨⟨a,b,c⟩,d⟩,fun ⟨⟨a,b,c⟩,d⟩=>⟨a,b,c,d⟩⟩
theorem lG {g : Pa} {v : Nat} {u : Int} (hv : v < g.ar.nxt.length) {i : Int} {R : Nat → Prop} {σ : Nat → Nat} (d : PG.DomBy (pgP g) i (fh g) R σ) (h : R v → (pgP g).own v = i → ¬ (σ v : Int) = u) : PG.DomBy (pgP (cP g v u)) i (fh (cP g v u)) R σ:=by
 refine ⟨d.sub,fun w hw ho=>?_,fun w x hw ho he hs=>d.yours w x hw ho ((rp hv w x).1 he).1 hs,fun f p hP hT=>d.wins f p (fun k=>⟨(hP k).1,((rp hv _ _).1 (hP k).2.1).1,(hP k).2.2⟩) hT⟩
 obtain ⟨h1,h2⟩:=d.mine w hw ho
 exact ⟨(rp hv _ _).2 ⟨h1,fun ⟨e,e2⟩=>by subst e;exact h hw ho e2⟩,h2⟩
theorem gf {g : Pa} (hg : PaOk g) {v : Nat} {u : Int} (hv : v < g.prio.length) (h2 : 2 ≤ (gr g.ar.nxt v).length) : PaOk (cP g v u):=by
 have hl:=hg.len
 have hln:=hg.ar.len
 have hvn : v < g.ar.nxt.length:=by omega
 refine ⟨⟨hg.ar.pos,hg.ar.le,by show (g.ar.nxt.set v _).length = _;rw [List.length_set];exact hln,fun w hw=>?_⟩,hl,hg.prio⟩
 have hw' : w < g.ar.own.length:=hw
 obtain ⟨a1,a2,a3,a4,a5⟩:=hg.ar.vert w hw'
 refine ⟨a1,a2,?_⟩
 show 1 ≤ (gr (g.ar.nxt.set v _) w).length ∧ (gr (g.ar.nxt.set v _) w).length ≤ 16 ∧ cS (gr (g.ar.nxt.set v _) w) g.ar.own.length
 rw [jl hvn]
 by_cases e : w = v
 · rw [if_pos e]
   subst e
   have hfl:=lR (fun x=>¬ x = u) (gr g.ar.nxt w) (gr g.ar.nxt w).length
   refine ⟨?_,by omega,pt (iP (gK a5) _ (Nat.le_refl _)) fun x hx=>?_⟩
   · have hlt:=lE (gK a5) (i:=0) (j:=1) (by omega) (by omega)
     by_cases e0 : gi (gr g.ar.nxt w) 0 = u
     · exact List.length_pos_of_mem (gL.2 ⟨cE (by omega : 1 < _),by omega⟩)
     · exact List.length_pos_of_mem (gL.2 ⟨cE (by omega : 0 < _),e0⟩)
   · obtain ⟨k,k1,k2⟩:=da (gL.1 hx).1
     have:=a5 k k1
     omega
 · rw [if_neg e];exact ⟨a3,a4,a5⟩
theorem rq {g : Pa} (hg : PaOk g) {v : Nat} {u : Int} (hv : v < g.prio.length) (h2 : 2 ≤ (gr g.ar.nxt v).length) {R : Nat → Prop} {σ : Nat → Nat} (d : PG.DomBy (pgP g) (gi g.ar.own v) (fh g) R σ) (hR : ∀ x,x < g.prio.length → gi (bX g) x = gi g.ar.own v → R x) (h : R v → ¬ (σ v : Int) = u) : bX (cP g v u) = bX g:=by
 have hl:=hg.len
 have hln:=hg.ar.len
 have hvn : v < g.ar.nxt.length:=by omega
 have hc:=gf hg (u:=u) hv h2
 have e1 : (bX (cP g v u)).length = g.prio.length:=jP _
 refine kN (by rw [e1,jP]) fun x hx=>?_
 have hx : x < g.prio.length:=by omega
 have hp:=sV hx
 by_cases e : gi (bX g) x = gi g.ar.own v
 · have hp' : gi g.ar.own v = 0 ∨ gi g.ar.own v = 1:=by rw [← e];exact hp
   rw [e]
   exact (iw hc hx hp').2 ⟨R,⟨σ,lG hvn d fun a _=>h a⟩,hR x hx e⟩
 · obtain ⟨R',⟨σ',d'⟩,hx'⟩:=(iw hg hx hp).1 rfl
   exact (iw hc hx hp).2 ⟨R',⟨σ',lG hvn d' fun _ ho=>absurd (by rw [← ho,wo hg hv]) e⟩,hx'⟩
theorem mC {g : Pa} (hg : PaOk g) (i : Int) (hi : i = 0 ∨ i = 1) : ∃ R σ,PG.DomBy (pgP g) i (fh g) R σ ∧ (∀ x,x < g.prio.length → gi (bX g) x = i → R x):=by
 have hs:=PG.won_split (G:=pgP g) (n:=g.prio.length) ov (S:=fh g) (fun v h=>h) (gJ hg)
 rcases hi with e|e
 · subst e
   obtain ⟨σ,d⟩:=hs.zero
   exact ⟨_,σ,d,fun x hx h=>(iw hg hx (.inl rfl)).1 h⟩
 · subst e
   obtain ⟨σ,d⟩:=hs.one
   exact ⟨_,σ,d,fun x hx h=>(iw hg hx (.inr rfl)).1 h⟩
def kF (g : Pa) (v : Nat) (K : Int → Prop) : Prop:=(∀ x y,K x → K y → x = y) ∧ ∃ R σ,PG.DomBy (pgP g) (gi g.ar.own v) (fh g) R σ ∧ (∀ x,x < g.prio.length → gi (bX g) x = gi g.ar.own v → R x) ∧ ∀ x,K x → R v ∧ (σ v : Int) = x
theorem nJ {g : Pa} (hg : PaOk g) {v : Nat} (hv : v < g.prio.length) : kF g v fun _=>False:=by
 have hl:=hg.len
 have ho:=hg.ar.vert v (by omega)
 obtain ⟨R,σ,d,h⟩:=mC hg (gi g.ar.own v) (by omega)
 exact ⟨fun _ _ h=>h.elim,R,σ,d,h,fun _ h=>h.elim⟩
theorem rr {g : Pa} (hg : PaOk g) {v : Nat} (hv : v < g.prio.length) {K : Int → Prop} (h : kF g v K) {u : Int} (hu : ¬ K u) (h2 : 2 ≤ (gr g.ar.nxt v).length) (hw : bX (cP g v u) = bX g) : kF (cP g v u) v K:=by
 have hl:=hg.len
 have hln:=hg.ar.len
 have hvn : v < g.ar.nxt.length:=by omega
 have hc:=gf hg (u:=u) hv h2
 obtain ⟨k1,R,σ,d,hR,hK⟩:=h
 by_cases hk : ∃ x,K x
 · obtain ⟨x,hx⟩:=hk
   obtain ⟨hRv,e⟩:=hK x hx
   refine ⟨k1,R,σ,lG hvn d fun _ _ e2=>hu (by rw [← e2,e];exact hx),fun y hy h=>hR y hy ?_,hK⟩
   rw [← hw];exact h
 · have ho:=hg.ar.vert v (by omega)
   obtain ⟨R',σ',d',h'⟩:=mC hc (gi g.ar.own v) (by omega)
   exact ⟨k1,R',σ',d',h',fun x hx=>absurd ⟨x,hx⟩ hk⟩
theorem pw {g : Pa} (hg : PaOk g) {v : Nat} (hv : v < g.prio.length) {K : Int → Prop} (h : kF g v K) {u : Int} (hu : ¬ K u) (h2 : 2 ≤ (gr g.ar.nxt v).length) (hw : bX (cP g v u) ≠ bX g) : kF g v (fun x=>x = u) ∧ ∀ x,¬ K x:=by
 obtain ⟨k1,R,σ,d,hR,hK⟩:=h
 have e : R v ∧ (σ v : Int) = u:=Classical.byContradiction fun hn=>hw (rq hg hv h2 d hR fun hRv e=>hn ⟨hRv,e⟩)
 refine ⟨⟨fun x y hx hy=>hx.trans hy.symm,R,σ,d,hR,fun x hx=>⟨e.1,by rw [hx];exact e.2⟩⟩,fun x hx=>hu ?_⟩
 have:=(hK x hx).2
 rw [e.2] at this
 rw [this];exact hx
end Go.Proofs.Ytiadchinhofieaa
namespace Go.Proofs.Ytiadchinhofieaa
set_option linter.unusedVariables false
set_option linter.unusedSimpArgs false
open Go.RowKit
noncomputable def fi (g : Pa) (v : Nat) (u : Int) : Pa:=@ite _ (2 ≤ (gr g.ar.nxt v).length ∧ bX (cP g v u) = bX g) (Classical.propDecidable _) (cP g v u) g
theorem fj {g : Pa} {v : Nat} {u : Int} (h : 2 ≤ (gr g.ar.nxt v).length ∧ bX (cP g v u) = bX g) : fi g v u = cP g v u:=if_pos h
theorem gg {g : Pa} {v : Nat} {u : Int} (h : ¬ (2 ≤ (gr g.ar.nxt v).length ∧ bX (cP g v u) = bX g)) : fi g v u = g:=if_neg h
noncomputable def eD (v : Nat) : List Int → Pa → Pa
 | [], g => g
 | u :: us, g => eD v us (fi g v u)
structure Trims (v : Nat) (g t : Pa) : Prop where
 ok : PaOk t
 won : bX t = bX g
 own : t.ar.own = g.ar.own
 prio : t.prio = g.prio
 len : t.ar.nxt.length = g.ar.nxt.length
 row : ∀ x,x ∈ gr t.ar.nxt v → x ∈ gr g.ar.nxt v
 rest : ∀ w,w ≠ v → gr t.ar.nxt w = gr g.ar.nxt w
theorem Trims.refl {v : Nat} {g : Pa} (h : PaOk g) : Trims v g g:=⟨h,rfl,rfl,rfl,rfl,fun _ h=>h,fun _ _=>rfl⟩
theorem Trims.trans {v : Nat} {a b c : Pa} (h : Trims v a b) (k : Trims v b c) : Trims v a c :=
 ⟨k.ok,k.won.trans h.won,k.own.trans h.own,k.prio.trans h.prio,k.len.trans h.len,fun x hx=>h.row x (k.row x hx),fun w hw=>(k.rest w hw).trans (h.rest w hw)⟩
theorem px {g : Pa} (hg : PaOk g) {v : Nat} (hv : v < g.prio.length) {u : Int} (h : 2 ≤ (gr g.ar.nxt v).length ∧ bX (cP g v u) = bX g) : Trims v g (cP g v u):=by
 have hl:=hg.len
 have hln:=hg.ar.len
 have hvn : v < g.ar.nxt.length:=by omega
 refine ⟨gf hg hv h.1,h.2,rfl,rfl,by show (g.ar.nxt.set v _).length = _;rw [List.length_set],fun x hx=>((lF hvn v x).1 hx).1,fun w hw=>?_⟩
 show gr (g.ar.nxt.set v _) w = _
 rw [jl hvn,if_neg hw]
theorem uG {xs : List Int} {m : Int} (hs : cS xs m) (h : ∀ x y,x ∈ xs → y ∈ xs → x = y) : xs.length ≤ 1:=by
 rcases Nat.lt_or_ge xs.length 2 with h2|h2
 · omega
 · have:=lE (gK hs) (i:=0) (j:=1) (by omega) (by omega)
   have:=h _ _ (cE (by omega : 0 < xs.length)) (cE (by omega : 1 < xs.length))
   omega
theorem jQ {v : Nat} : ∀ (us : List Int) (g : Pa) (K : Int → Prop),PaOk g → v < g.prio.length → kF g v K → us.Nodup → (∀ x,x ∈ gr g.ar.nxt v ↔ x ∈ us ∨ K x) → (∀ x,x ∈ us → ¬ K x) → Trims v g (eD v us g) ∧ (gr (eD v us g).ar.nxt v).length = 1
 | [], g, K, hg, hv, hT, _, hm, _ => by
   have hl:=hg.len
   obtain ⟨_,_,a3,_,a5⟩:=hg.ar.vert v (by omega)
   refine ⟨Trims.refl hg,?_⟩
   have:=uG a5 fun x y hx hy=>hT.1 x y (((hm x).1 hx).resolve_left (by simp)) (((hm y).1 hy).resolve_left (by simp))
   show (gr g.ar.nxt v).length = 1
   omega
 | u :: us, g, K, hg, hv, hT, hn, hm, hk => by
   have hl:=hg.len
   have hln:=hg.ar.len
   have hvn : v < g.ar.nxt.length:=by omega
   obtain ⟨_,_,a3,_,a5⟩:=hg.ar.vert v (by omega)
   rw [List.nodup_cons] at hn
   have huK:=hk u (by simp)
   have hur : u ∈ gr g.ar.nxt v:=(hm u).2 (.inl (by simp))
   show Trims v g (eD v us (fi g v u)) ∧ (gr (eD v us (fi g v u)).ar.nxt v).length = 1
   by_cases h2 : 2 ≤ (gr g.ar.nxt v).length
   · by_cases hw : bX (cP g v u) = bX g
     · rw [fj ⟨h2,hw⟩]
       have ht:=px hg hv ⟨h2,hw⟩
       obtain ⟨r1,r2⟩:=jQ us (cP g v u) K ht.ok hv (rr hg hv hT huK h2 hw) hn.2 (fun x=>by
        rw [lF hvn,hm]
        constructor
        · rintro ⟨h1|h1,h3⟩
          · rcases List.mem_cons.1 h1 with e|h1
            · exact absurd ⟨rfl,e⟩ h3
            · exact .inl h1
          · exact .inr h1
        · rintro (h1|h1)
          · exact ⟨.inl (List.mem_cons_of_mem _ h1),fun h=>hn.1 (h.2 ▸ h1)⟩
          · exact ⟨.inr h1,fun h=>huK (h.2 ▸ h1)⟩) fun x hx=>hk x (List.mem_cons_of_mem _ hx)
       exact ⟨ht.trans r1,r2⟩
     · rw [gg fun h=>hw h.2]
       obtain ⟨t1,t2⟩:=pw hg hv hT huK h2 hw
       refine jQ us g (fun x=>x = u) hg hv t1 hn.2 (fun x=>?_) fun x hx e=>hn.1 (e ▸ hx)
       rw [hm]
       constructor
       · rintro (h1|h1)
         · rcases List.mem_cons.1 h1 with e|h1
           · exact .inr e
           · exact .inl h1
         · exact absurd h1 (t2 x)
       · rintro (h1|h1)
         · exact .inl (List.mem_cons_of_mem _ h1)
         · exact .inl (by rw [h1];simp)
   · rw [gg fun h=>h2 h.1]
     have h1 : (gr g.ar.nxt v).length = 1:=by omega
     have hall : ∀ x,x ∈ gr g.ar.nxt v → x = u:=fun x hx=>by
      obtain ⟨a,b1,b2⟩:=da hx
      obtain ⟨b,b3,b4⟩:=da hur
      have : a = b:=by omega
      subst this
      omega
     have hus : us = []:=by
      cases us with
      | nil => rfl
      | cons y ys =>
        have:=hall y ((hm y).2 (.inl (by simp)))
        exact absurd (by rw [this];simp) hn.1
     subst hus
     exact ⟨Trims.refl hg,h1⟩
theorem mD {g : Pa} (hg : PaOk g) {v : Nat} (hv : v < g.prio.length) : Trims v g (eD v (gr g.ar.nxt v) g) ∧ (gr (eD v (gr g.ar.nxt v) g).ar.nxt v).length = 1 :=
 jQ _ g (fun _=>False) hg hv (nJ hg hv) ((gK (hg.ar.vert v (by have:=hg.len;omega)).2.2.2.2).imp fun h=>by omega) (fun x=>by simp) fun _ _ h=>h
end Go.Proofs.Ytiadchinhofieaa
namespace Go.Proofs.Ytiadchinhofieaa
set_option linter.unusedVariables false
set_option linter.unusedSimpArgs false
open Go.RowKit
noncomputable def fk (g : Pa) : Nat → Pa
 | 0 => g
 | k + 1 => eD k (gr g.ar.nxt k) (fk g k)
noncomputable def jR (g : Pa) : Pa:=fk g g.prio.length
structure TrimV (g t : Pa) (k : Nat) : Prop where
 ok : PaOk t
 won : bX t = bX g
 own : t.ar.own = g.ar.own
 prio : t.prio = g.prio
 len : t.ar.nxt.length = g.ar.nxt.length
 row : ∀ w x,x ∈ gr t.ar.nxt w → x ∈ gr g.ar.nxt w
 one : ∀ w,w < k → (gr t.ar.nxt w).length = 1
 rest : ∀ w,k ≤ w → gr t.ar.nxt w = gr g.ar.nxt w
theorem iy {g : Pa} (hg : PaOk g) : ∀ k,k ≤ g.prio.length → TrimV g (fk g k) k
 | 0, _ => ⟨hg, rfl, rfl, rfl, rfl, fun _ _ h => h, fun w h => absurd h (Nat.not_lt_zero w), fun _ _ => rfl⟩
 | k + 1, hk => by
   have ih:=iy hg k (by omega)
   have hkt : k < (fk g k).prio.length:=by rw [ih.prio];omega
   obtain ⟨h1,h2⟩:=mD ih.ok hkt
   rw [ih.rest k (Nat.le_refl _)] at h1 h2
   change TrimV g (eD k (gr g.ar.nxt k) (fk g k)) (k + 1)
   refine ⟨h1.ok,h1.won.trans ih.won,h1.own.trans ih.own,h1.prio.trans ih.prio,h1.len.trans ih.len,fun w x hx=>?_,fun w hw=>?_,fun w hw=>?_⟩
   · by_cases e : w = k
     · subst e;exact ih.row w x (h1.row x hx)
     · rw [h1.rest w e] at hx;exact ih.row w x hx
   · by_cases e : w = k
     · subst e;exact h2
     · rw [h1.rest w e];exact ih.one w (by omega)
   · rw [h1.rest w (by omega)];exact ih.rest w (by omega)
theorem rs {g : Pa} (hg : PaOk g) : TrimV g (jR g) g.prio.length:=iy hg _ (Nat.le_refl _)
theorem x7 {v : Nat} {g : Pa} (h : (gr g.ar.nxt v).length = 1) : ∀ us,eD v us g = g
 | [] => rfl
 | u :: us => by
   show eD v us (fi g v u) = g
   rw [gg fun h2=>by omega]
   exact x7 h us
theorem x8 {g : Pa} (h : ∀ w,w < g.prio.length → (gr g.ar.nxt w).length = 1) : ∀ k,k ≤ g.prio.length → fk g k = g
 | 0, _ => rfl
 | k + 1, hk => by
   show eD k (gr g.ar.nxt k) (fk g k) = g
   rw [x8 h k (by omega)]
   exact x7 (h k (by omega)) _
theorem yr {g : Pa} (hg : PaOk g) : jR (jR g) = jR g:=by
 have h:=rs hg
 exact x8 (fun w hw=>h.one w (by rw [h.prio] at hw;exact hw)) _ (Nat.le_refl _)
def xU (g : Pa) (v : Int) (u : Int) : Prop:=PaOk g ∧ 0 ≤ v ∧ v < g.prio.length ∧ u ∈ gr g.ar.nxt v.toNat ∧ ((gr g.ar.nxt v.toNat).length = 1 ∨ bX (cP g v.toNat u) ≠ bX g)
theorem yz {g : Pa} (hg : PaOk g) {v : Nat} (hv : v < g.prio.length) {u : Int} (hu : u ∈ gr (jR g).ar.nxt v) : xU (jR g) v u:=by
 have h:=rs hg
 exact ⟨h.ok,by omega,by rw [h.prio];omega,hu,.inl (h.one v hv)⟩
end Go.Proofs.Ytiadchinhofieaa
