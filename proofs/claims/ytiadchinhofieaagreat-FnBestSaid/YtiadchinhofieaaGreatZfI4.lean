/-
  The improved plan, the best plan, and who wins.
-/
import Derived.Test.YtiadchinhofieaaGreatZfT1
import Derived.Test.YtiadchinhofieaaGreatZfR7
import Derived.Test.YtiadchinhofieaaGreatZfD5
namespace Go.Proofs.YtiadchinhofieaaGreat
set_option linter.unusedVariables false
set_option linter.unusedSimpArgs false
open Go.RowKit
theorem lL {P : Nat → Prop} (h : ∃ i,P i) : ∃ i,P i ∧ ∀ j,j < i → ¬ P j:=by
 obtain ⟨i,hi⟩:=h
 induction i using Nat.strongRecOn with
 | ind i ih =>
   by_cases hc : ∃ j,j < i ∧ P j
   · obtain ⟨j,h1,h2⟩:=hc;exact ih j h1 h2
   · exact ⟨i,hi,fun j hj hp=>hc ⟨j,hj,hp⟩⟩
def itF (f : Nat → Nat) (v : Nat) : Nat → Nat
 | 0 => v
 | k + 1 => f (itF f v k)
theorem cg (f : Nat → Nat) (v i : Nat) : ∀ j,itF f v (i + j) = itF f (itF f v i) j:=by
 intro j
 induction j with
 | zero => rfl
 | succ j ih => show f (itF f v (i + j)) = f _; rw [ih]
theorem f6 (f : Nat → Nat) (v k : Nat) : itF f v (k + 1) = itF f (f v) k:=by
 rw [Nat.add_comm,cg];rfl
theorem en {f : Nat → Nat} {n v : Nat} (hf : ∀ x,x < n → f x < n) (hv : v < n) : ∀ k,itF f v k < n:=by
 intro k
 induction k with
 | zero => exact hv
 | succ k ih => exact hf _ ih
theorem jE {f : Nat → Nat} {v p : Nat} (h : itF f v p = v) (hp : 0 < p) : ∀ j,∃ r,r < p ∧ itF f v j = itF f v r:=by
 intro j
 induction j with
 | zero => exact ⟨0, hp, rfl⟩
 | succ j ih =>
   obtain ⟨r,h1,h2⟩:=ih
   by_cases e : r + 1 < p
   · exact ⟨r + 1,e,by show f _ = f _;rw [h2]⟩
   · refine ⟨0,hp,?_⟩
     show f _ = v
     rw [h2]
     have : r + 1 = p:=by omega
     rw [← this] at h
     exact h
section
variable {g : Pa}
theorem uX (F : Nat → Int) : ∀ k,∃ m,m ≤ k ∧ ∀ j,j ≤ k → ¬ Hv g (F j) (F m):=by
 intro k
 induction k with
 | zero => exact ⟨0, Nat.le_refl _, fun j hj => by
   obtain rfl : j = 0:=by omega
   exact fun h=>ef h h⟩
 | succ k ih =>
   obtain ⟨m,h1,h2⟩:=ih
   by_cases hc : Hv g (F (k + 1)) (F m)
   · refine ⟨k + 1,Nat.le_refl _,fun j hj hh=>?_⟩
     by_cases e : j = k + 1
     · subst e;exact ef hh hh
     · exact h2 j (by omega) (gx hh hc)
   · refine ⟨m,by omega,fun j hj hh=>?_⟩
     by_cases e : j = k + 1
     · subst e;exact hc hh
     · exact h2 j (by omega) hh
structure IsHd (g : Pa) (f : Nat → Nat) (v h : Nat) : Prop where
 rc : ∃ i,itF f v i = h
 lp : ∃ p,0 < p ∧ itF f h p = h
 mx : ∀ j,¬ Hv g (itF f h j) h
theorem Ax {f : Nat → Nat} {n v : Nat} (hf : ∀ x,x < n → f x < n) (hv : v < n) : ∃ h,IsHd g f v h:=by
 obtain ⟨a,b,hab,e⟩ : ∃ a b,a < b ∧ itF f v a = itF f v b:=Classical.byContradiction fun hc=>by
  have:=kM (k:=n + 1) (en hf hv) fun i j hi _ e=>hc ⟨i,j,hi,e⟩
  omega
 have hp : itF f (itF f v a) (b - a) = itF f v a:=by rw [← cg,show a + (b - a) = b by omega];exact e.symm
 have hp0 : 0 < b - a:=by omega
 generalize b - a = p at hp hp0
 obtain ⟨m,h1,h2⟩:=uX (g:=g) (fun j=>(itF f (itF f v a) j : Int)) p
 refine ⟨itF f (itF f v a) m,⟨a + m,cg _ _ _ _⟩,⟨p,hp0,?_⟩,fun j=>?_⟩
 · rw [← cg,Nat.add_comm,cg,hp]
 · rw [← cg]
   obtain ⟨r,r1,r2⟩:=jE hp hp0 (m + j)
   rw [r2]
   exact h2 r (by omega)
theorem w8 {f : Nat → Nat} {v h h' : Nat} (H : IsHd g f v h) (H' : IsHd g f v h') : h = h':=by
 obtain ⟨i,hi⟩:=H.rc
 obtain ⟨j,hj⟩:=H'.rc
 have key : ∀ {a b x y : Nat},IsHd g f v x → IsHd g f v y → itF f v a = x → itF f v b = y → a ≤ b → x = y:=by
  intro a b x y X Y ha hb hab
  have e1 : itF f x (b - a) = y:=by rw [← ha,← cg,show a + (b - a) = b by omega];exact hb
  obtain ⟨p,p0,p1⟩:=X.lp
  have e2 : ∃ c,itF f y c = x:=by
   obtain ⟨r,r1,r2⟩:=jE p1 p0 (b - a)
   refine ⟨p - r,?_⟩
   rw [← e1,r2,← cg,show r + (p - r) = p by omega];exact p1
  obtain ⟨c,hc⟩:=e2
  have m1:=X.mx (b - a)
  rw [e1] at m1
  have m2:=Y.mx c
  rw [hc] at m2
  by_cases e : x = y
  · exact e
  · rcases fF (g:=g) (x:=(x : Int)) (y:=y) (by omega) with q|q
    · exact absurd q m2
    · exact absurd q m1
 rcases Nat.le_total i j with q|q
 · exact key H H' hi hj q
 · exact (key H' H hj hi q).symm
noncomputable def hdF (g : Pa) (f : Nat → Nat) (v : Nat) : Nat:=@dite _ (∃ h,IsHd g f v h) (Classical.propDecidable _) (fun h=>Classical.choose h) fun _=>0
theorem lM {f : Nat → Nat} {v h : Nat} (H : IsHd g f v h) : hdF g f v = h:=by
 have hx : ∃ h,IsHd g f v h:=⟨h,H⟩
 have : hdF g f v = Classical.choose hx:=dif_pos hx
 rw [this]
 exact w8 (Classical.choose_spec hx) H
noncomputable def wyF (g : Pa) (f : Nat → Nat) (v : Nat) : Nat:=@dite _ (∃ d,itF f v d = hdF g f v ∧ ∀ j,j < d → itF f v j ≠ hdF g f v) (Classical.propDecidable _) (fun h=>Classical.choose h) fun _=>0
theorem nP {f : Nat → Nat} {v d : Nat} (h1 : itF f v d = hdF g f v) (h2 : ∀ j,j < d → itF f v j ≠ hdF g f v) : wyF g f v = d:=by
 have hx : ∃ d,itF f v d = hdF g f v ∧ ∀ j,j < d → itF f v j ≠ hdF g f v:=⟨d,h1,h2⟩
 have e : wyF g f v = Classical.choose hx:=dif_pos hx
 obtain ⟨k1,k2⟩:=Classical.choose_spec hx
 rw [← e] at k1 k2
 rcases Nat.lt_trichotomy (wyF g f v) d with q|q|q
 · exact absurd k1 (h2 _ q)
 · exact q
 · exact absurd h1 (k2 _ q)
def OvP (g : Pa) (f : Nat → Nat) (v x : Nat) : Prop:=Hv g x (hdF g f v) ∧ ∃ i,i < wyF g f v ∧ itF f v i = x
noncomputable def wtF (g : Pa) (f : Nat → Nat) (v : Nat) : Wt:=⟨hdF g f v,lst (OvP g f v) g.prio.length,wyF g f v⟩
section
variable {f : Nat → Nat} (hf : ∀ x,x < g.prio.length → f x < g.prio.length)
include hf
theorem jd {v : Nat} (hv : v < g.prio.length) : IsHd g f v (hdF g f v):=by
 obtain ⟨h,H⟩:=Ax (g:=g) hf hv
 rw [lM H];exact H
theorem fI {v : Nat} (hv : v < g.prio.length) : hdF g f v < g.prio.length:=by
 obtain ⟨i,h⟩:=(jd hf hv).rc
 rw [← h];exact en hf hv i
theorem da {v : Nat} (hv : v < g.prio.length) : hdF g f (f v) = hdF g f v:=by
 obtain ⟨⟨i,hi⟩,⟨p,p0,p1⟩,mx⟩:=jd hf hv
 refine lM ⟨?_,⟨p,p0,p1⟩,mx⟩
 cases i with
 | succ i => exact ⟨i, by rw [← f6]; exact hi⟩
 | zero =>
   refine ⟨p - 1,?_⟩
   rw [← f6,show p - 1 + 1 = p by omega]
   have e : v = hdF g f v:=hi
   rw [← e] at p1;rw [p1];exact e
theorem uY {v : Nat} (hv : v < g.prio.length) : ∀ k,hdF g f (itF f v k) = hdF g f v:=by
 intro k
 induction k with
 | zero => rfl
 | succ k ih => show hdF g f (f _) = _; rw [da hf (en hf hv k), ih]
theorem yJ {v : Nat} (hv : v < g.prio.length) : hdF g f (hdF g f v) = hdF g f v:=by
 obtain ⟨⟨i,hi⟩,_⟩:=jd hf hv
 have:=uY hf hv i
 rw [hi] at this;exact this
theorem io {v : Nat} (hv : v < g.prio.length) : itF f v (wyF g f v) = hdF g f v ∧ ∀ j,j < wyF g f v → itF f v j ≠ hdF g f v:=by
 obtain ⟨d,h1,h2⟩:=lL (jd hf hv).rc
 rw [nP h1 h2];exact ⟨h1,h2⟩
omit hf in
theorem uZ {v : Nat} (e : v = hdF g f v) : wyF g f v = 0:=nP (show v = _ from e) fun j hj=>absurd hj (Nat.not_lt_zero _)
theorem pt {v : Nat} (hv : v < g.prio.length) (e : v ≠ hdF g f v) : wyF g f v = wyF g f (f v) + 1:=by
 obtain ⟨h1,h2⟩:=io hf (hf v hv)
 rw [da hf hv] at h1 h2
 refine nP (by rw [f6];exact h1) fun j hj=>?_
 cases j with
 | zero => exact e
 | succ j => rw [f6]; exact h2 j (by omega)
theorem u3 {v : Nat} (hv : v < g.prio.length) : wyF g f v ≤ g.prio.length:=by
 obtain ⟨h1,h2⟩:=io hf hv
 have:=kM (k:=wyF g f v) (en hf hv) fun i j hi hj e=>?_
 · exact this
 · refine h2 (wyF g f v - (j - i)) (by omega) ?_
   have e2:=cg f v j (wyF g f v - j)
   rw [← e,← cg,show j + (wyF g f v - j) = wyF g f v by omega,h1,show i + (wyF g f v - j) = wyF g f v - (j - i) by omega] at e2
   exact e2.symm
omit hf in
theorem u4 {v x : Nat} (e : v = hdF g f v) : ¬ OvP g f v x:=fun ⟨_,i,h,_⟩=>by rw [uZ e] at h;omega
theorem pw {v x : Nat} (hv : v < g.prio.length) (e : v ≠ hdF g f v) : OvP g f v x ↔ OvP g f (f v) x ∨ (x = v ∧ Hv g v (hdF g f v)):=by
 unfold OvP
 rw [da hf hv,pt hf hv e]
 constructor
 · rintro ⟨h1,i,h2,h3⟩
   cases i with
   | zero =>
     obtain rfl : v = x:=h3
     exact .inr ⟨rfl,h1⟩
   | succ i => exact .inl ⟨h1, i, by omega, by rw [← f6]; exact h3⟩
 · rintro (⟨h1,i,h2,h3⟩|⟨rfl,h1⟩)
   · exact ⟨h1,i + 1,by omega,by rw [f6];exact h3⟩
   · exact ⟨h1,0,by omega,rfl⟩
theorem qS {v : Nat} (hv : v < g.prio.length) (e : v ≠ hdF g f v) : ¬ OvP g f (f v) v:=by
 rintro ⟨_,i,h2,h3⟩
 obtain ⟨k1,k2⟩:=io hf hv
 have h4 : itF f v (i + 1) = v:=by rw [f6];exact h3
 obtain ⟨r,r1,r2⟩:=jE h4 (Nat.succ_pos _) (wyF g f v)
 rw [pt hf hv e] at k2
 exact k2 r (by omega) (r2.symm.trans k1)
theorem u5 {v x : Nat} (hv : v < g.prio.length) (e : v = hdF g f v) : ¬ OvP g f (f v) x:=by
 rintro ⟨h1,i,_,h3⟩
 rw [da hf hv] at h1
 have h4:=(jd hf hv).mx (i + 1)
 rw [← e,f6,h3] at h4
 rw [← e] at h1
 exact h4 h1
omit hf in
theorem db {v x : Nat} (hx : x < g.prio.length) : (x : Int) ∈ (wtF g f v).ov ↔ OvP g f v x:=by
 show (x : Int) ∈ lst _ _ ↔ _
 rw [fQ]
 constructor
 · rintro ⟨y,_,h,e⟩
   obtain rfl : x = y:=by omega
   exact h
 · exact fun h=>⟨x,hx,h,rfl⟩
end
theorem fJ (p : Nat → Prop) : ∀ k : Nat,cc (lst p k) k:=by
 intro k
 induction k with
 | zero => exact fun j hj => absurd hj (Nat.not_lt_zero _)
 | succ k ih =>
   by_cases h : p k
   · rw [ji h]
     intro j hj
     by_cases e : j < (lst p k).length
     · have h1:=ih j e
       rw [cO e]
       refine ⟨h1.1,by omega,fun h0=>?_⟩
       rw [cO (by omega)]
       exact h1.2.2 h0
     · have e2 : j = (lst p k).length:=by simp at hj;omega
       rw [e2,eN]
       refine ⟨by omega,by omega,fun h0=>?_⟩
       rw [cO (by omega)]
       have:=ih ((lst p k).length - 1) (by omega)
       omega
   · rw [kX h]
     exact fun j hj=>by have:=ih j hj;exact ⟨this.1,by omega,this.2.2⟩
def HR (g : Pa) (a b : Int) : Prop:=(EvP g a ∧ ¬ EvP g b) ∨ (EvP g a ∧ EvP g b ∧ Hv g a b) ∨ (¬ EvP g a ∧ ¬ EvP g b ∧ Hv g b a)
theorem u6 {a b : Int} (h : HR g a b) : ¬ HR g b a:=by
 unfold HR at *
 rintro (⟨s,t⟩|⟨s,t,u⟩|⟨s,t,u⟩) <;> rcases h with ⟨p,q⟩|⟨p,q,r⟩|⟨p,q,r⟩ <;> first|exact absurd p t|exact absurd s q|exact absurd t p|exact absurd q s|exact ef r u|contradiction
theorem Ay {a b c : Int} (h : HR g a b) (k : HR g b c) : HR g a c:=by
 unfold HR at *
 rcases h with ⟨p,q⟩|⟨p,q,r⟩|⟨p,q,r⟩ <;> rcases k with ⟨s,t⟩|⟨s,t,u⟩|⟨s,t,u⟩ <;> first|contradiction|exact .inl ⟨p,t⟩|exact .inr (.inl ⟨p,t,gx r u⟩)|exact .inr (.inr ⟨p,t,gx u r⟩)
theorem qT {a b : Int} (e : a ≠ b) : HR g a b ∨ HR g b a:=by
 unfold HR
 by_cases p : EvP g a <;> by_cases q : EvP g b
 · rcases fF (g:=g) e with hc|hc
   · exact .inl (.inr (.inl ⟨p,q,hc⟩))
   · exact .inr (.inr (.inl ⟨q,p,hc⟩))
 · exact .inl (.inl ⟨p,q⟩)
 · exact .inr (.inl ⟨q,p⟩)
 · rcases fF (g:=g) e with hc|hc
   · exact .inr (.inr (.inr ⟨q,p,hc⟩))
   · exact .inl (.inr (.inr ⟨p,q,hc⟩))
theorem qU {a b c : Int} (h : ¬ HR g a b) (k : ¬ HR g b c) : ¬ HR g a c:=fun q=>by
 by_cases e : a = b
 · subst e;exact k q
 · rcases qT (g:=g) e with r|r
   · exact h r
   · exact k (Ay r q)
theorem u7 {a b : Int} (h : ¬ HR g a b) (k : ¬ HR g b a) : a = b:=Classical.byContradiction fun e=>(qT (g:=g) e).elim h k
theorem u9 {a b : Wt} (h : HR g a.hd b.hd) : bX g a b:=.inl ⟨fun e=>by rw [e] at h;exact u6 h h,h⟩
theorem xF {A B C : List Int} (h : ¬ BO g A B) (k : BO g A C) : BO g B C:=by
 by_cases al : dg g A B
 · exact nJ (eP al) k
 · rcases uG al with q|q
   · exact absurd q h
   · exact xD q k
def w9 (a b : Wt) : Prop:=a.hd = b.hd ∧ a.wy = b.wy ∧ a.ov = b.ov
theorem w9.eq {a b : Wt} (h : w9 a b) : a = b:=by
 obtain ⟨h1,h2,h3⟩:=h
 cases a;cases b;simp only at h1 h2 h3;subst h1 h2 h3;rfl
theorem je {a b : Wt} (ha : WtOk g a) (hb : WtOk g b) (h : ¬ bX g a b) : a = b ∨ bX g b a:=by
 by_cases s : w9 a b
 · exact .inl s.eq
 · exact .inr ((pj ha hb s).resolve_left h)
theorem nQ {a b c : Wt} (ha : WtOk g a) (hb : WtOk g b) (h : ¬ bX g a b) (k : ¬ bX g b c) : ¬ bX g a c:=fun q=>by
 rcases je ha hb h with e|r
 · subst e;exact k q
 · exact k (fX r q)
theorem px {a b c : Wt} (hb : WtOk g b) (hc : WtOk g c) (h : bX g b a) (k : ¬ bX g b c) : bX g c a:=by
 rcases je hb hc k with e|r
 · subst e;exact h
 · exact fX r h
theorem cP {a : Wt} : ¬ bX g a a:=sT ⟨rfl,rfl,rfl⟩
theorem nR {a b : Wt} (ha : WtOk g a) (hb : WtOk g b) (h : ¬ bX g a b) (k : ¬ bX g b a) : a = b:=(je ha hb h).resolve_right k
theorem lN {a b : Wt} (h : ¬ bX g a b) : ¬ HR g a.hd b.hd:=fun k=>h (u9 k)
theorem vc {a b : Wt} (h : ¬ bX g a b) (e : a.hd = b.hd) : ¬ BO g a.ov b.ov:=fun k=>h (.inr ⟨e,.inl k⟩)
theorem lO {f : Nat → Nat} (hn : g.prio.length ≤ 12) (hf : ∀ x,x < g.prio.length → f x < g.prio.length) {v : Nat} (hv : v < g.prio.length) : WtOk g (wtF g f v):=by
 have h1:=fI hf hv
 have h2:=u3 hf hv
 refine ⟨⟨by show (0 : Int) ≤ (hdF g f v : Nat);omega,by show ((hdF g f v : Nat) : Int) < _;omega⟩,fJ _ _,⟨by show (0 : Int) ≤ (wyF g f v : Nat);omega,by show ((wyF g f v : Nat) : Int) ≤ 12;omega⟩,fun j hj=>?_⟩
 obtain ⟨x,_,h,e⟩:=fQ.1 (cD hj)
 have e : gi (wtF g f v).ov j = x:=e
 rw [e]
 exact h.1
section
variable {f f' : Nat → Nat} (hn : g.prio.length ≤ 12) (hf : ∀ x,x < g.prio.length → f x < g.prio.length) (hf' : ∀ x,x < g.prio.length → f' x < g.prio.length)
noncomputable def l5 (g : Pa) (f : Nat → Nat) (h' x : Nat) : List Int:=lst (fun y=>OvP g f x y ∧ ¬ Hv g h' y) g.prio.length
theorem dn {h' x y : Nat} (hy : y < g.prio.length) : (y : Int) ∈ l5 g f h' x ↔ OvP g f x y ∧ ¬ Hv g h' y:=by
 unfold l5
 rw [fQ]
 constructor
 · rintro ⟨z,_,h,e⟩
   obtain rfl : y = z:=by omega
   exact h
 · exact fun h=>⟨y,hy,h,rfl⟩
theorem py {h' a b : Nat} (h : ¬ BO g (wtF g f a).ov (wtF g f b).ov) : ¬ BO g (l5 g f h' a) (l5 g f h' b):=by
 rintro ⟨x,x1,x2,x3,x4⟩
 unfold Alk at x2 x3
 rw [dn x1,dn x1] at x2
 rw [dn x1] at x4
 have hx : ¬ Hv g h' x:=fun hc=>x2 ⟨fun h=>absurd hc h.2,fun h=>absurd hc h.2⟩
 refine h ⟨x,x1,fun hc=>x2 ?_,fun v hv hh=>?_,?_⟩
 · unfold Alk at hc
   rw [db x1,db x1] at hc
   rw [hc]
 · have h3:=x3 v hv hh
   rw [dn hv,dn hv] at h3
   have hv' : ¬ Hv g h' v:=fun hc=>hx (gx hc hh)
   unfold Alk
   rw [db hv,db hv]
   exact ⟨fun q=>(h3.1 ⟨q,hv'⟩).1,fun q=>(h3.2 ⟨q,hv'⟩).1⟩
 · rw [db x1,← x4]
   exact ⟨fun q=>⟨q,hx⟩,fun q=>q.1⟩
def Ups (g : Pa) (f s : Nat → Nat) : Prop:=∀ k,s k < g.prio.length ∧ ¬ bX g (wtF g f (f (s k))) (wtF g f (s (k + 1)))
section
variable {s : Nat → Nat} (U : Ups g f s)
include hf U
theorem pz : ∀ k i,¬ HR g (hdF g f (s i)) (hdF g f (s (i + k))):=by
 intro k
 induction k with
 | zero => exact fun i h => u6 h h
 | succ k ih =>
   intro i
   refine qU (ih i) ?_
   have h:=lN (U (i + k)).2
   show ¬ HR g (hdF g f (s (i + k)) : Nat) (hdF g f (s (i + k + 1)) : Nat)
   rw [← da hf (U (i + k)).1]
   exact h
variable {p : Nat} (hp : 0 < p) (per : ∀ k,s (k + p) = s k)
include per in
omit hf U in
theorem xa (q : Nat) : s (q * p) = s 0:=by
 induction q with
 | zero => rw [Nat.zero_mul]
 | succ q ih => rw [Nat.add_mul, Nat.one_mul, per, ih]
include hp per
theorem xb (k : Nat) : hdF g f (s k) = hdF g f (s 0):=by
 have h1:=pz hf U k 0
 rw [Nat.zero_add] at h1
 have h2:=pz hf U (k * p - k) k
 rw [show k + (k * p - k) = k * p by have:=Nat.le_mul_of_pos_right k hp;omega,xa per] at h2
 have:=u7 h1 h2
 omega
include hn in

theorem xG (mx : ∀ j,¬ Hv g (s j) (s 0)) : ¬ HR g (hdF g f (s 0)) (s 0):=by
 have hc:=fun k=>xb hf U hp per k
 have hlt:=fun k=>(U k).1
 have hx:=hlt 0
 have e : s p = s 0:=by have:=per 0;rwa [Nat.zero_add] at this
 have nbo : ∀ k,¬ BO g (wtF g f (f (s k))).ov (wtF g f (s (k + 1))).ov:=fun k=>by
  refine vc (U k).2 ?_
  show ((hdF g f (f (s k)) : Nat) : Int) = (hdF g f (s (k + 1)) : Nat)
  rw [da hf (hlt k),hc k,hc (k + 1)]
 have H:=fun k=>(U k).2
 generalize hx0 : s 0 = x at *
 have A1 : Hv g x (hdF g f x) → EvP g x:=fun hv=>Classical.byContradiction fun ev=>by
  have hne : x ≠ hdF g f x:=fun e=>by rw [← e] at hv;exact ef hv hv
  have t2 : ∀ y,y < g.prio.length → y ≠ x → hdF g f y = hdF g f x → ¬ Hv g y x → dg g (l5 g f x y) (l5 g f x (f y)):=by
   intro y hy hyx hh hm z hz
   unfold Alk
   rw [dn hz,dn hz]
   by_cases ey : y = hdF g f y
   · exact ⟨fun q=>absurd q.1 (u4 ey),fun q=>absurd q.1 (u5 hf hy ey)⟩
   · rw [pw hf hy ey]
     constructor
     · rintro ⟨q|⟨rfl,_⟩,r⟩
       · exact ⟨q,r⟩
       · rcases fF (g:=g) (x:=(z : Int)) (y:=x) (by omega) with q|q
         · exact absurd q hm
         · exact absurd q r
     · exact fun ⟨q,r⟩=>⟨.inl q,r⟩
  have t3 : BO g (l5 g f x (f x)) (l5 g f x x):=by
   have hno:=qS hf hx hne
   have hs:=fun z=>pw (x:=z) hf hx hne
   refine ⟨x,hx,fun hc=>?_,fun z hz hh=>?_,?_⟩
   · unfold Alk at hc
     rw [dn hx,dn hx] at hc
     exact hno (hc.2 ⟨(hs x).2 (.inr ⟨rfl,hv⟩),fun h=>ef h h⟩).1
   · unfold Alk
     rw [dn hz,dn hz,hs z]
     constructor
     · exact fun ⟨q,r⟩=>⟨.inl q,r⟩
     · rintro ⟨q|⟨rfl,_⟩,r⟩
       · exact ⟨q,r⟩
       · exact absurd hh fun h=>ef h h
   · rw [dn hx]
     exact ⟨fun h=>absurd h.1 hno,fun h=>absurd h ev⟩
  have ch : ∀ k,BO g (l5 g f x (s (k + 1))) (l5 g f x x):=by
   intro k
   induction k with
   | zero =>
     have h0:=nbo 0
     rw [hx0] at h0
     exact xF (py h0) t3
   | succ k ih =>
     by_cases ex : s (k + 1) = x
     · rw [ex] at ih;exact absurd ih (rH ih)
     · have h1:=py (h':=x) (nbo (k + 1))
       exact xF h1 (nJ (eP (t2 _ (hlt _) ex (hc _) (mx _))) ih)
  have h1:=ch (p - 1)
  rw [show p - 1 + 1 = p by omega,e] at h1
  exact rH h1 h1
 have A2 : Hv g (hdF g f x) x → ¬ EvP g (hdF g f x):=fun hv ev=>by
  have st : ∀ k,bX g (wtF g f (s (k + 1))) (wtF g f (s k)):=by
   intro k
   have hy:=hlt k
   have hh:=hc k
   have hm:=mx k
   have h0:=H k
   have hlt1 : s (k + 1) < g.prio.length:=hlt (k + 1)
   refine px (lO hn hf (hf _ hy)) (lO hn hf hlt1) ?_ h0
   generalize s k = y at *
   have hyh : ¬ Hv g y (hdF g f x):=fun q=>hm (gx q hv)
   have hne : y ≠ hdF g f y:=fun e=>by rw [hh] at e;rw [← e] at hv;exact hm hv
   refine .inr ⟨?_,.inr ⟨fun z hz=>?_,.inl ⟨?_,?_⟩⟩⟩
   · show ((hdF g f (f y) : Nat) : Int) = (hdF g f y : Nat)
     rw [da hf hy]
   · unfold Alk
     rw [db hz,db hz,pw hf hy hne]
     exact ⟨.inl,fun q=>q.resolve_right fun ⟨_,r⟩=>by rw [hh] at r;exact hyh r⟩
   · show EvP g (hdF g f (f y) : Nat)
     rw [da hf hy,hh];exact ev
   · show ((wyF g f (f y) : Nat) : Int) < (wyF g f y : Nat)
     rw [pt hf hy hne];omega
  have ch : ∀ k,bX g (wtF g f (s (k + 1))) (wtF g f x):=by
   intro k
   induction k with
   | zero =>
     have h0:=st 0
     rw [hx0] at h0
     exact h0
   | succ k ih => exact fX (st (k + 1)) ih
  have h1:=ch (p - 1)
  rw [show p - 1 + 1 = p by omega,e] at h1
  exact cP h1
 by_cases e0 : hdF g f x = x
 · rw [e0];exact fun h=>u6 h h
 · rcases fF (g:=g) (x:=(hdF g f x : Int)) (y:=x) (by omega) with q|q
   · have:=A2 q
     rintro (⟨s,t⟩|⟨s,t,u⟩|⟨s,t,u⟩)
     · exact this s
     · exact this s
     · exact ef u q
   · have:=A1 q
     rintro (⟨s,t⟩|⟨s,t,u⟩|⟨s,t,u⟩)
     · exact t this
     · exact ef u q
     · exact t this
end
variable (H : ∀ x,x < g.prio.length → ¬ bX g (wtF g f (f x)) (wtF g f (f' x)))
include hf' H in
theorem vd {x : Nat} (hx : x < g.prio.length) : Ups g f (itF f' x):=fun k=>⟨en hf' hx k,H _ (en hf' hx k)⟩
include hn hf hf' H
theorem qV {v : Nat} (hv : v < g.prio.length) : ¬ bX g (wtF g f v) (wtF g f' v):=by
 obtain ⟨d1,d2⟩:=io hf' hv
 obtain ⟨_,⟨p,p0,p1⟩,mx⟩:=jd hf' hv
 have hlt:=fun k=>en hf' hv k
 have hl:=fI hf' hv
 have hge:=xG hn hf (vd hf' H hl) p0 (fun k=>by rw [Nat.add_comm,cg,p1]) mx
 have hge : ¬ HR g (hdF g f (hdF g f' v)) (hdF g f' v):=hge
 have hU:=vd hf' H hv
 have hhd':=fun k=>uY hf' hv k
 have hself:=yJ hf' hv
 by_cases e : hdF g f v = hdF g f' v
 · have hall : ∀ i,i ≤ wyF g f' v → hdF g f (itF f' v i) = hdF g f' v:=by
    intro i hi
    have h1:=pz hf hU i 0
    rw [Nat.zero_add] at h1
    change ¬ HR g (hdF g f v) _ at h1
    have h2:=pz hf hU (wyF g f' v - i) i
    rw [show i + (wyF g f' v - i) = wyF g f' v by omega,d1] at h2
    have h3:=qU h2 hge
    rw [e] at h1
    have:=u7 h3 h1
    omega
   have back : ∀ j i,i + j = wyF g f' v → ¬ bX g (wtF g f (itF f' v i)) (wtF g f' (itF f' v i)):=by
    intro j
    induction j with
    | zero =>
      intro i hi
      obtain rfl : i = wyF g f' v:=by omega
      have h1:=hall _ (Nat.le_refl _)
      rw [d1] at h1 ⊢
      rintro (⟨q,_⟩|⟨_,⟨z,z1,z2,_⟩|⟨_,q⟩⟩)
      · exact q (by show ((hdF g f (hdF g f' v) : Nat) : Int) = (hdF g f' (hdF g f' v) : Nat);rw [h1,hself])
      · refine z2 ?_
        unfold Alk
        rw [db z1,db z1]
        exact ⟨fun q=>absurd q (u4 h1.symm),fun q=>absurd q (u4 hself.symm)⟩
      · have w1 : (wtF g f (hdF g f' v)).wy = 0:=by show ((wyF g f _ : Nat) : Int) = 0;rw [uZ h1.symm];rfl
        have w2 : (wtF g f' (hdF g f' v)).wy = 0:=by show ((wyF g f' _ : Nat) : Int) = 0;rw [uZ hself.symm];rfl
        rw [w1,w2] at q
        omega
    | succ j ih =>
      intro i hi
      have hy:=hlt i
      have h1:=ih (i + 1) (by omega)
      have hne : itF f' v i ≠ hdF g f' v:=d2 i (by omega)
      have hh:=hall i (by omega)
      have hh1:=hall (i + 1) (by omega)
      have hh2:=hhd' i
      have h0:=H _ hy
      change ¬ bX g (wtF g f (f (itF f' v i))) (wtF g f (itF f' v (i + 1))) at h0
      have h2:=nQ (lO hn hf (hf _ hy)) (lO hn hf (hlt (i + 1))) h0 h1
      change ¬ bX g (wtF g f (f (itF f' v i))) (wtF g f' (f' (itF f' v i))) at h2
      generalize itF f' v i = y at *
      have ne1 : y ≠ hdF g f y:=by rw [hh];exact hne
      have ne2 : y ≠ hdF g f' y:=by rw [hh2];exact hne
      have s1:=fun z=>pw (x:=z) hf hy ne1
      have s2:=fun z=>pw (x:=z) hf' hy ne2
      have n1:=qS hf hy ne1
      have n2:=qS hf' hy ne2
      have w1:=pt hf hy ne1
      have w2:=pt hf' hy ne2
      have k1:=da hf hy
      have k2:=da hf' hy
      have same : ∀ z,z < g.prio.length → (Alk (wtF g f (f y)).ov (wtF g f' (f' y)).ov z ↔ Alk (wtF g f y).ov (wtF g f' y).ov z):=by
       intro z hz
       unfold Alk
       rw [db hz,db hz,db hz,db hz,s1 z,s2 z,hh,hh2]
       by_cases ez : z = y
       · subst ez
         exact ⟨fun _=>⟨fun q=>.inr (q.elim (fun q=>absurd q n1) id),fun q=>.inr (q.elim (fun q=>absurd q n2) id)⟩,fun _=>⟨fun q=>absurd q n1,fun q=>absurd q n2⟩⟩
       · constructor
         · exact fun q=>⟨fun r=>.inl (q.1 (r.resolve_right fun h=>ez h.1)),fun r=>.inl (q.2 (r.resolve_right fun h=>ez h.1))⟩
         · exact fun q=>⟨fun r=>(q.1 (.inl r)).resolve_right fun h=>ez h.1,fun r=>(q.2 (.inl r)).resolve_right fun h=>ez h.1⟩
      refine fun hb=>h2 ?_
      rcases hb with ⟨q,_⟩|⟨_,q⟩
      · exact absurd (show ((hdF g f y : Nat) : Int) = (hdF g f' y : Nat) by rw [hh,hh2]) q
      · refine .inr ⟨by show ((hdF g f (f y) : Nat) : Int) = (hdF g f' (f' y) : Nat);rw [k1,k2,hh,hh2],?_⟩
        rcases q with ⟨z,z1,z2,z3,z4⟩|⟨al,q⟩
        · refine .inl ⟨z,z1,fun hc=>z2 ((same z z1).1 hc),fun u hu hh=>(same u hu).2 (z3 u hu hh),?_⟩
          rw [← z4,db z1,db z1,s1 z]
          refine ⟨.inl,fun q=>q.resolve_right fun ⟨ez,r⟩=>z2 ?_⟩
          subst ez
          unfold Alk
          rw [db z1,db z1,s1 z,s2 z]
          rw [hh] at r
          exact ⟨fun _=>.inr ⟨rfl,by rw [hh2];exact r⟩,fun _=>.inr ⟨rfl,by rw [hh];exact r⟩⟩
        · refine .inr ⟨fun z hz=>(same z hz).2 (al z hz),?_⟩
          have e1 : (wtF g f (f y)).hd = (wtF g f y).hd:=by show ((hdF g f (f y) : Nat) : Int) = (hdF g f y : Nat);rw [k1]
          have e2 : (wtF g f y).wy = (wtF g f (f y)).wy + 1:=by show ((wyF g f y : Nat) : Int) = (wyF g f (f y) : Nat) + 1;rw [w1];omega
          have e3 : (wtF g f' y).wy = (wtF g f' (f' y)).wy + 1:=by show ((wyF g f' y : Nat) : Int) = (wyF g f' (f' y) : Nat) + 1;rw [w2];omega
          rw [e1]
          rw [e2,e3] at q
          rcases q with ⟨a,b⟩|⟨a,b⟩
          · exact .inl ⟨a,by omega⟩
          · exact .inr ⟨a,by omega⟩
   exact back (wyF g f' v) 0 (Nat.zero_add _)
 · have h1:=pz hf hU (wyF g f' v) 0
   rw [Nat.zero_add,d1] at h1
   change ¬ HR g (hdF g f v) _ at h1
   have h2:=qU h1 hge
   rcases qT (g:=g) (a:=(hdF g f v : Int)) (b:=hdF g f' v) (by omega) with q|q
   · exact absurd q h2
   · exact kJ (u9 (a:=wtF g f' v) (b:=wtF g f v) q)
end
end
end Go.Proofs.YtiadchinhofieaaGreat
namespace Go.Proofs.YtiadchinhofieaaGreat
set_option linter.unusedVariables false
set_option linter.unusedSimpArgs false
open Go.RowKit
def eU (g : Pa) : Pa:=⟨g.ar,g.prio.map (· + 1)⟩
section
variable {g : Pa}
theorem fK : (eU g).prio.length = g.prio.length:=List.length_map _
theorem pC {x : Nat} (hx : x < g.prio.length) : gi (eU g).prio x = gi g.prio x + 1:=by
 simp [eU,gi,List.getD_eq_getElem?_getD,List.getElem?_map,List.getElem?_eq_getElem hx]
theorem mJ {x y : Nat} (hx : x < g.prio.length) (hy : y < g.prio.length) : Hv (eU g) x y ↔ Hv g x y:=by
 unfold Hv
 rw [Int.toNat_natCast,Int.toNat_natCast,pC hx,pC hy]
 omega
theorem mK {x : Nat} (hx : x < g.prio.length) : EvP (eU g) x ↔ ¬ EvP g x:=by
 unfold EvP
 rw [Int.toNat_natCast,pC hx]
 omega
theorem Az {A B : List Int} : BO (eU g) A B ↔ BO g B A:=by
 unfold BO
 rw [fK]
 constructor
 · rintro ⟨x,x1,x2,x3,x4⟩
   refine ⟨x,x1,fun h=>x2 h.symm,fun v hv hh=>(x3 v hv ((mJ hv x1).2 hh)).symm,?_⟩
   rw [mK x1] at x4
   unfold Alk at x2
   by_cases p : (x : Int) ∈ A <;> by_cases q : (x : Int) ∈ B <;> by_cases r : EvP g x <;> simp_all
 · rintro ⟨x,x1,x2,x3,x4⟩
   refine ⟨x,x1,fun h=>x2 h.symm,fun v hv hh=>(x3 v hv ((mJ hv x1).1 hh)).symm,?_⟩
   rw [mK x1]
   unfold Alk at x2
   by_cases p : (x : Int) ∈ A <;> by_cases q : (x : Int) ∈ B <;> by_cases r : EvP g x <;> simp_all
theorem yK {A B : List Int} : dg (eU g) A B ↔ dg g A B:=by unfold dg;rw [fK]
theorem vf {a b : Wt} {x y : Nat} (hx : x < g.prio.length) (hy : y < g.prio.length) (ea : a.hd = x) (eb : b.hd = y) : bX (eU g) a b ↔ bX g b a:=by
 unfold bX
 rw [ea,eb,Az,yK,mK hx,mK hy,mJ hx hy,mJ hy hx]
 constructor
 · rintro (⟨h1,h2⟩|⟨h1,h2⟩)
   · refine .inl ⟨fun h=>h1 h.symm,?_⟩
     rcases h2 with ⟨p,q⟩|⟨p,q,r⟩|⟨p,q,r⟩
     · exact .inl ⟨Classical.not_not.1 q,p⟩
     · exact .inr (.inr ⟨q,p,r⟩)
     · exact .inr (.inl ⟨Classical.not_not.1 q,Classical.not_not.1 p,r⟩)
   · refine .inr ⟨h1.symm,?_⟩
     have e : x = y:=by omega
     subst e
     rcases h2 with h2|⟨h2,h3⟩
     · exact .inl h2
     · refine .inr ⟨eP h2,?_⟩
       rcases h3 with ⟨p,q⟩|⟨p,q⟩
       · exact .inr ⟨p,q⟩
       · exact .inl ⟨Classical.not_not.1 p,q⟩
 · rintro (⟨h1,h2⟩|⟨h1,h2⟩)
   · refine .inl ⟨fun h=>h1 h.symm,?_⟩
     rcases h2 with ⟨p,q⟩|⟨p,q,r⟩|⟨p,q,r⟩
     · exact .inl ⟨q,fun h=>h p⟩
     · exact .inr (.inr ⟨fun h=>h q,fun h=>h p,r⟩)
     · exact .inr (.inl ⟨q,p,r⟩)
   · refine .inr ⟨h1.symm,?_⟩
     have e : x = y:=by omega
     subst e
     rcases h2 with h2|⟨h2,h3⟩
     · exact .inl h2
     · refine .inr ⟨eP h2,?_⟩
       rcases h3 with ⟨p,q⟩|⟨p,q⟩
       · exact .inr ⟨fun h=>h p,q⟩
       · exact .inl ⟨p,q⟩
section
variable {f f' : Nat → Nat} (hn : g.prio.length ≤ 12) (hf : ∀ x,x < g.prio.length → f x < g.prio.length) (hf' : ∀ x,x < g.prio.length → f' x < g.prio.length)
include hf in
theorem xH {v : Nat} (hv : v < g.prio.length) : hdF (eU g) f v = hdF g f v:=by
 obtain ⟨h1,h2,h3⟩:=jd hf hv
 exact lM ⟨h1,h2,fun j=>by rw [mJ (en hf (fI hf hv) j) (fI hf hv)];exact h3 j⟩
include hf in
theorem rM {v : Nat} (hv : v < g.prio.length) : wtF (eU g) f v = wtF g f v:=by
 obtain ⟨h1,h2⟩:=io hf hv
 have e1:=xH hf hv
 have e2 : wyF (eU g) f v = wyF g f v:=nP (by rw [e1];exact h1) (by rw [e1];exact h2)
 unfold wtF
 rw [e1,e2,fK]
 have : lst (OvP (eU g) f v) g.prio.length = lst (OvP g f v) g.prio.length:=ma fun x hx=>by
  unfold OvP
  rw [e1,e2,mJ hx (fI hf hv)]
 rw [this]
include hn hf hf'
theorem rN (H : ∀ x,x < g.prio.length → ¬ bX g (wtF g f (f' x)) (wtF g f (f x))) {v : Nat} (hv : v < g.prio.length) : ¬ bX g (wtF g f' v) (wtF g f v):=by
 have hb : ∀ {k k' : Nat → Nat} {x y : Nat},(∀ x,x < g.prio.length → k x < g.prio.length) → (∀ x,x < g.prio.length → k' x < g.prio.length) → x < g.prio.length → y < g.prio.length → (bX (eU g) (wtF (eU g) k x) (wtF (eU g) k' y) ↔ bX g (wtF g k' y) (wtF g k x)):=fun hk hk' hx hy=>by
  rw [rM hk hx,rM hk' hy]
  exact vf (fI hk hx) (fI hk' hy) rfl rfl
 rw [← hb hf hf' hv hv]
 refine qV (g:=eU g) (by rw [fK];exact hn) (by rw [fK];exact hf) (by rw [fK];exact hf') (fun x hx=>?_) (by rw [fK];exact hv)
 rw [fK] at hx
 rw [hb hf hf (hf x hx) (hf' x hx)]
 exact H x hx
end
end
def cV (a : Ar) (w : Int) : Nat → Nat
 | 0 => 1
 | v + 1 => if gi a.own v = w then cV a w v * (gr a.nxt v).length else cV a w v
def cZ (a : Ar) (w : Int) (k : Nat) : List Int:=tab a.own.length fun v=>if gi a.own v = w then gi (gr a.nxt v) (k / cV a w v % (gr a.nxt v).length) else -1
theorem gQ {a : Ar} {w : Int} {v : Nat} (h : gi a.own v = w) : cV a w (v + 1) = cV a w v * (gr a.nxt v).length:=if_pos h
theorem jf {a : Ar} {w : Int} {v : Nat} (h : gi a.own v ≠ w) : cV a w (v + 1) = cV a w v:=if_neg h
theorem kN {a : Ar} (ha : ArOk a) (w : Int) : ∀ v,v ≤ a.own.length → 0 < cV a w v:=by
 intro v
 induction v with
 | zero => exact fun _ => Nat.one_pos
 | succ v ih =>
   intro h
   have h1:=ih (by omega)
   have h2:=(ha.vert v (by omega)).2.2.1
   by_cases e : gi a.own v = w
   · rw [gQ e];exact Nat.mul_pos h1 (by omega)
   · rw [jf e];exact h1
theorem rO {a : Ar} {w : Int} {u : Nat} : ∀ v,u ≤ v → cV a w u ∣ cV a w v:=by
 intro v
 induction v with
 | zero => intro h; obtain rfl : u = 0 := (by omega); exact Nat.dvd_refl _
 | succ v ih =>
   intro h
   by_cases e0 : u = v + 1
   · subst e0;exact Nat.dvd_refl _
   · have h1:=ih (by omega)
     by_cases e : gi a.own v = w
     · rw [gQ e];exact Nat.dvd_trans h1 (Nat.dvd_mul_right _ _)
     · rw [jf e];exact h1
theorem eo (a : Ar) (w : Int) (k : Nat) : (cZ a w k).length = a.own.length:=cr _ _
theorem jF {a : Ar} {w : Int} {k v : Nat} (hv : v < a.own.length) : gi (cZ a w k) v = if gi a.own v = w then gi (gr a.nxt v) (k / cV a w v % (gr a.nxt v).length) else -1:=cU _ hv
theorem cI {a : Ar} (ha : ArOk a) (w : Int) (k : Nat) : b9 a w (cZ a w k):=by
 have hin : ∀ v,v < a.own.length → k / cV a w v % (gr a.nxt v).length < (gr a.nxt v).length:=fun v hv=>Nat.mod_lt _ (by have:=(ha.vert v hv).2.2.1;omega)
 refine ⟨⟨eo a w k,fun v hv=>?_⟩,fun v hv e=>?_⟩
 · rw [eo] at hv
   rw [jF hv]
   by_cases e : gi a.own v = w
   · rw [if_pos e];exact .inr ⟨e,cD (hin v hv)⟩
   · rw [if_neg e];exact .inl rfl
 · rw [eo] at hv
   rw [jF hv,if_pos e]
   exact ((ha.vert v hv).2.2.2.2 _ (hin v hv)).1
theorem nS {a : Ar} (ha : ArOk a) {w : Int} {ps : List Int} (h : b9 a w ps) : ∃ k,k < cV a w a.own.length ∧ cZ a w k = ps:=by
 obtain ⟨⟨hl,h1⟩,h2⟩:=h
 have key : ∀ m,m ≤ a.own.length → ∃ k,k < cV a w m ∧ ∀ v,v < m → gi a.own v = w → gi (gr a.nxt v) (k / cV a w v % (gr a.nxt v).length) = gi ps v:=by
  intro m
  induction m with
  | zero => exact fun _ => ⟨0, Nat.one_pos, fun v hv => absurd hv (Nat.not_lt_zero _)⟩
  | succ m ih =>
    intro hm
    obtain ⟨k,k1,k2⟩:=ih (by omega)
    have hp:=kN ha w m (by omega)
    by_cases e : gi a.own m = w
    · have hmem : gi ps m ∈ gr a.nxt m:=by
       rcases h1 m (by omega) with q|q
       · have:=h2 m (by omega) e;omega
       · exact q.2
      obtain ⟨i,i1,i2⟩:=cR hmem
      refine ⟨k + i * cV a w m,?_,fun v hv ev=>?_⟩
      · rw [gQ e,Nat.mul_comm (cV a w m)]
        have : (i + 1) * cV a w m ≤ (gr a.nxt m).length * cV a w m:=Nat.mul_le_mul_right _ i1
        rw [Nat.add_mul] at this
        omega
      · by_cases evm : v = m
        · subst evm
          rw [Nat.add_mul_div_right _ _ hp,Nat.div_eq_of_lt k1,Nat.zero_add,Nat.mod_eq_of_lt i1,i2]
        · have hvm : v < m:=by omega
          rw [← k2 v hvm ev]
          obtain ⟨c,hc⟩:=rO (a:=a) (w:=w) (u:=v + 1) m (by omega)
          rw [gQ ev] at hc
          have hpv:=kN ha w v (by omega)
          rw [hc,show i * (cV a w v * (gr a.nxt v).length * c) = (i * c * (gr a.nxt v).length) * cV a w v by
           rw [Nat.mul_comm (cV a w v) _,Nat.mul_assoc _ (cV a w v) c,Nat.mul_comm (cV a w v) c,← Nat.mul_assoc,← Nat.mul_assoc,Nat.mul_assoc i,Nat.mul_comm _ c,← Nat.mul_assoc],Nat.add_mul_div_right _ _ hpv,Nat.add_mul_mod_self_right]
    · refine ⟨k,by rw [jf e];exact k1,fun v hv ev=>?_⟩
      by_cases evm : v = m
      · subst evm;exact absurd ev e
      · exact k2 v (by omega) ev
 obtain ⟨k,k1,k2⟩:=key _ (Nat.le_refl _)
 refine ⟨k,k1,kT (by rw [eo,hl]) fun v hv=>?_⟩
 rw [eo] at hv
 rw [jF hv]
 by_cases e : gi a.own v = w
 · rw [if_pos e];exact k2 v hv e
 · rw [if_neg e]
   rcases h1 v (by omega) with q|q
   · exact q.symm
   · exact absurd q.1 e
theorem vg {a : Ar} (ha : ArOk a) {w : Int} {u v : Nat} (h : u ≤ v) (hv : v ≤ a.own.length) : cV a w u ≤ cV a w v:=Nat.le_of_dvd (kN ha w v hv) (rO v h)
def jG (a : Ar) : Int:=if cV a 1 a.own.length ≤ 4096 then (cV a 1 a.own.length : Nat) else -1
theorem pD {a : Ar} (h : ArOk a) {k : Nat} (hk : k ≤ a.own.length) (hp : 4096 < cV a 1 k) : jG a = -1:=by
 have:=vg h (w:=1) hk (Nat.le_refl _)
 unfold jG
 rw [if_neg (by omega)]
theorem lP {a : Ar} (hp : cV a 1 a.own.length ≤ 4096) : jG a = (cV a 1 a.own.length : Nat):=by unfold jG;rw [if_pos hp]
end Go.Proofs.YtiadchinhofieaaGreat
namespace Go.Proofs.YtiadchinhofieaaGreat
set_option linter.unusedVariables false
set_option linter.unusedSimpArgs false
open Go.RowKit
def Lex (lt : Wt → Wt → Prop) (n : Nat) (A B A' B' : Nat → Wt) : Prop :=
 (∀ v,v < n → ¬ lt (A' v) (A v)) ∧ ((∃ v,v < n ∧ lt (A v) (A' v)) ∨ (∀ v,v < n → A v = A' v) ∧ (∀ v,v < n → ¬ lt (B' v) (B v)) ∧ ∃ v,v < n ∧ lt (B v) (B' v))
structure OrdW (Ok : Wt → Prop) (lt : Wt → Wt → Prop) : Prop where
 irr : ∀ a,¬ lt a a
 tr : ∀ a b c,lt a b → lt b c → lt a c
 tot : ∀ a b,Ok a → Ok b → a = b ∨ lt a b ∨ lt b a
section
variable {Ok : Wt → Prop} {lt : Wt → Wt → Prop} (O : OrdW Ok lt) {n : Nat}
include O
theorem vi {a b c : Wt} (ha : Ok a) (hb : Ok b) (h : ¬ lt b a) (k : ¬ lt c b) : ¬ lt c a:=fun q=>by
 rcases O.tot a b ha hb with e|r|r
 · subst e;exact k q
 · exact k (O.tr _ _ _ q r)
 · exact h r
theorem rP {a b c : Wt} (hb : Ok b) (hc : Ok c) (h : lt a b) (k : ¬ lt c b) : lt a c:=by
 rcases O.tot b c hb hc with e|r|r
 · subst e;exact h
 · exact O.tr _ _ _ h r
 · exact absurd r k
theorem rQ {A B : Nat → Wt} : ¬ Lex lt n A B A B:=by
 rintro ⟨_,⟨v,_,h⟩|⟨_,_,v,_,h⟩⟩ <;> exact O.irr _ h
theorem vj {A B A' B' A2 B2 : Nat → Wt} (hA : ∀ v,v < n → Ok (A v)) (hA' : ∀ v,v < n → Ok (A' v)) (hA2 : ∀ v,v < n → Ok (A2 v)) (hB : ∀ v,v < n → Ok (B v)) (hB' : ∀ v,v < n → Ok (B' v)) (hB2 : ∀ v,v < n → Ok (B2 v)) (h : Lex lt n A B A' B') (k : Lex lt n A' B' A2 B2) : Lex lt n A B A2 B2:=by
 obtain ⟨h1,h2⟩:=h
 obtain ⟨k1,k2⟩:=k
 refine ⟨fun v hv=>vi O (hA v hv) (hA' v hv) (h1 v hv) (k1 v hv),?_⟩
 rcases h2 with ⟨v,hv,h2⟩|⟨h2,h3,h4⟩
 · exact .inl ⟨v,hv,rP O (hA' v hv) (hA2 v hv) h2 (k1 v hv)⟩
 · rcases k2 with ⟨v,hv,k2⟩|⟨k2,k3,k4⟩
   · exact .inl ⟨v,hv,by rw [h2 v hv];exact k2⟩
   · obtain ⟨v,hv,h4⟩:=h4
     exact .inr ⟨fun v hv=>(h2 v hv).trans (k2 v hv),fun v hv=>vi O (hB v hv) (hB' v hv) (h3 v hv) (k3 v hv),v,hv,rP O (hB' v hv) (hB2 v hv) h4 (k3 v hv)⟩
end
theorem yL {R : Nat → Nat → Prop} (irr : ∀ i,¬ R i i) (tr : ∀ i j k,R i j → R j k → R i k) : ∀ m,0 < m → ∃ k,k < m ∧ ∀ j,j < m → ¬ R j k:=by
 intro m
 induction m with
 | zero => intro h; omega
 | succ m ih =>
   intro _
   by_cases hm : m = 0
   · subst hm
     exact ⟨0,by omega,fun j hj=>by obtain rfl : j = 0:=(by omega);exact irr _⟩
   · obtain ⟨k,k1,k2⟩:=ih (by omega)
     by_cases hc : R m k
     · refine ⟨m,by omega,fun j hj hr=>?_⟩
       by_cases e : j = m
       · subst e;exact irr _ hr
       · exact k2 j (by omega) (tr _ _ _ hr hc)
     · refine ⟨k,by omega,fun j hj hr=>?_⟩
       by_cases e : j = m
       · subst e;exact hc hr
       · exact k2 j (by omega) hr
theorem vm (g : Pa) : OrdW (WtOk g) fun a b=>bX g b a :=
 ⟨fun a=>cP,fun a b c h k=>fX k h,fun a b ha hb=>by
  by_cases s : w9 a b
  · exact .inl s.eq
  · exact .inr (pj ha hb s).symm⟩
def cQ (g : Pa) : Nat:=cV g.ar 1 g.ar.own.length
noncomputable def phi (g : Pa) (σ : List Int) (k v : Nat) : Wt:=wtF g (nxP g.ar σ (cZ g.ar 1 k)) v
noncomputable def wst (g : Pa) (σ : List Int) : Nat → Nat → Wt
 | 0, _ => ⟨0, [], 0⟩
 | k + 1, v => if k = 0 then phi g σ 0 v else if tf (bX g (wst g σ k v) (phi g σ k v)) then phi g σ k v else wst g σ k v
noncomputable def WW (g : Pa) (σ : List Int) (v : Nat) : Wt:=wst g σ (cQ g) v
section
variable {g : Pa} (hs : dr g)
include hs
theorem fL {σ τ : List Int} (h0 : b9 g.ar 0 σ) (h1 : b9 g.ar 1 τ) : ∀ x,x < g.prio.length → nxP g.ar σ τ x < g.prio.length:=fun x hx=>(eT hs.1 h0 h1 hx).2.1
theorem xI {σ τ : List Int} (h0 : b9 g.ar 0 σ) (h1 : b9 g.ar 1 τ) {v : Nat} (hv : v < g.prio.length) : WtOk g (wtF g (nxP g.ar σ τ) v):=lO hs.2 (fL hs h0 h1) hv
theorem j7 {σ : List Int} (h0 : b9 g.ar 0 σ) (k : Nat) {v : Nat} (hv : v < g.prio.length) : WtOk g (phi g σ k v):=xI hs h0 (cI hs.1.ar 1 k) hv
theorem eV : 0 < cQ g:=kN hs.1.ar 1 _ (Nat.le_refl _)
theorem qW {σ : List Int} (h0 : b9 g.ar 0 σ) {v : Nat} (hv : v < g.prio.length) : ∀ k,0 < k → (∃ j,j < k ∧ wst g σ k v = phi g σ j v) ∧ ∀ j,j < k → ¬ bX g (wst g σ k v) (phi g σ j v):=by
 intro k
 induction k with
 | zero => intro h; omega
 | succ k ih =>
   intro _
   by_cases hk : k = 0
   · subst hk
     have e : wst g σ 1 v = phi g σ 0 v:=rfl
     rw [e]
     exact ⟨⟨0,by omega,rfl⟩,fun j hj=>by obtain rfl : j = 0:=(by omega);exact cP⟩
   · obtain ⟨⟨i,i1,i2⟩,h2⟩:=ih (by omega)
     have hok : WtOk g (wst g σ k v):=by rw [i2];exact j7 hs h0 i hv
     by_cases hb : bX g (wst g σ k v) (phi g σ k v)
     · have e : wst g σ (k + 1) v = phi g σ k v:=by show (if _ then _ else _) = _;rw [if_neg hk,aP hb,fO]
       rw [e]
       refine ⟨⟨k,by omega,rfl⟩,fun j hj=>?_⟩
       by_cases ej : j = k
       · subst ej;exact cP
       · exact fun q=>h2 j (by omega) (fX hb q)
     · have e : wst g σ (k + 1) v = wst g σ k v:=by show (if _ then _ else _) = _;rw [if_neg hk,aq hb,fu]
       rw [e]
       refine ⟨⟨i,by omega,i2⟩,fun j hj=>?_⟩
       by_cases ej : j = k
       · subst ej;exact hb
       · exact h2 j (by omega)
theorem qX {σ : List Int} (h0 : b9 g.ar 0 σ) {v : Nat} (hv : v < g.prio.length) {k : Nat} (hk : 0 < k) : WtOk g (wst g σ k v):=by
 obtain ⟨⟨j,_,e⟩,_⟩:=qW hs h0 hv k hk
 rw [e];exact j7 hs h0 j hv
theorem gy {σ : List Int} (h0 : b9 g.ar 0 σ) {v : Nat} (hv : v < g.prio.length) : WtOk g (WW g σ v):=qX hs h0 hv (eV hs)
theorem xJ {σ : List Int} (h0 : b9 g.ar 0 σ) {v : Nat} (hv : v < g.prio.length) : ∃ j,WW g σ v = phi g σ j v:=by
 obtain ⟨⟨j,_,e⟩,_⟩:=qW hs h0 hv _ (eV hs)
 exact ⟨j,e⟩
theorem xK {σ τ : List Int} (h0 : b9 g.ar 0 σ) (h1 : b9 g.ar 1 τ) {v : Nat} (hv : v < g.prio.length) : ¬ bX g (WW g σ v) (wtF g (nxP g.ar σ τ) v):=by
 obtain ⟨k,k1,k2⟩:=nS hs.1.ar h1
 have:=(qW hs h0 hv _ (eV hs)).2 k k1
 unfold phi at this
 rw [k2] at this
 exact this
theorem vr {w : Int} {ps : List Int} (h : b9 g.ar w ps) {v u : Nat} (ho : gi g.ar.own v = w) (hu : (u : Int) ∈ gr g.ar.nxt v) (hv : v < g.prio.length) : b9 g.ar w (ps.set v u):=by
 have hl:=hs.1.len
 obtain ⟨⟨h1,h2⟩,h3⟩:=h
 refine ⟨⟨by rw [List.length_set];exact h1,fun x hx=>?_⟩,fun x hx e=>?_⟩
 · rw [List.length_set] at hx
   rw [dY (by omega)]
   by_cases e : x = v
   · subst e;rw [if_pos rfl];exact .inr ⟨ho,hu⟩
   · rw [if_neg e];exact h2 x hx
 · rw [List.length_set] at hx
   rw [dY (by omega)]
   by_cases e : x = v
   · subst e;rw [if_pos rfl];omega
   · rw [if_neg e];exact h3 x hx ‹_›
theorem ip {v : Nat} (hv : v < g.prio.length) : gi g.ar.own v = 0 ∨ gi g.ar.own v = 1:=by
 have:=hs.1.ar.vert v (by have:=hs.1.len;omega)
 omega
theorem yM {σ : List Int} (h0 : b9 g.ar 0 σ) : ∃ k,∀ v,v < g.prio.length → gi g.ar.own v = 1 → ∀ u : Nat,(u : Int) ∈ gr g.ar.nxt v → ¬ bX g (phi g σ k (nxP g.ar σ (cZ g.ar 1 k) v)) (phi g σ k u):=by
 have hl:=hs.1.len
 have hF:=fun k=>fL hs h0 (cI hs.1.ar 1 k)
 have hO : ∀ (k : Nat) {v : Nat},v < g.prio.length → WtOk g (phi g σ k v):=fun k _ hv=>j7 hs h0 k hv
 have O:=vm g
 obtain ⟨k,k1,k2⟩:=yL (R:=fun j k=>Lex (fun a b=>bX g b a) g.prio.length (phi g σ j) (fun v=>phi g σ j (nxP g.ar σ (cZ g.ar 1 j) v)) (phi g σ k) (fun v=>phi g σ k (nxP g.ar σ (cZ g.ar 1 k) v)))
  (fun i=>rQ O) (fun i j k h1 h2=>vj O (fun v hv=>hO i hv) (fun v hv=>hO j hv) (fun v hv=>hO k hv) (fun v hv=>hO i (hF i v hv)) (fun v hv=>hO j (hF j v hv)) (fun v hv=>hO k (hF k v hv)) h1 h2) (cQ g) (eV hs)
 refine ⟨k,fun v hv ho u hu hb=>?_⟩
 have hun : u < g.prio.length:=by have:=jb hs.1 hv hu;omega
 obtain ⟨j,j1,j2⟩:=nS hs.1.ar (vr hs (cI hs.1.ar 1 k) ho hu hv)
 have ej : ∀ x,x < g.prio.length → nxP g.ar σ (cZ g.ar 1 j) x = if x = v then u else nxP g.ar σ (cZ g.ar 1 k) x:=by
  intro x hx
  unfold nxP
  rw [j2,dY (by rw [eo];omega)]
  by_cases e : x = v
  · subst e;rw [if_pos rfl,if_pos rfl,if_neg (by omega)];exact Int.toNat_natCast u
  · rw [if_neg e,if_neg e]
 have hle : ∀ x,x < g.prio.length → ¬ bX g (phi g σ j x) (phi g σ k x):=fun x hx=>by
  refine rN hs.2 (hF k) (hF j) (fun y hy=>?_) hx
  rw [ej y hy]
  by_cases e : y = v
  · subst e;rw [if_pos rfl];exact kJ hb
  · rw [if_neg e];exact cP
 refine k2 j j1 ⟨hle,?_⟩
 by_cases hc : ∃ x,x < g.prio.length ∧ bX g (phi g σ k x) (phi g σ j x)
 · exact .inl hc
 · have heq : ∀ x,x < g.prio.length → phi g σ j x = phi g σ k x:=fun x hx=>nR (hO j hx) (hO k hx) (hle x hx) fun q=>hc ⟨x,hx,q⟩
   refine .inr ⟨heq,fun x hx=>?_,v,hv,?_⟩
   · show ¬ bX g (phi g σ j (nxP g.ar σ (cZ g.ar 1 j) x)) (phi g σ k (nxP g.ar σ (cZ g.ar 1 k) x))
     rw [heq _ (hF j x hx),ej x hx]
     by_cases e : x = v
     · subst e;rw [if_pos rfl];exact kJ hb
     · rw [if_neg e];exact cP
   · show bX g (phi g σ k (nxP g.ar σ (cZ g.ar 1 k) v)) (phi g σ j (nxP g.ar σ (cZ g.ar 1 j) v))
     rw [heq _ (hF j v hv),ej v hv,if_pos rfl]
     exact hb
omit hs in
theorem kt {σ τ : List Int} {v : Nat} (h : gi g.ar.own v = 0) : nxP g.ar σ τ v = (gi σ v).toNat:=by unfold nxP;rw [if_pos h]
omit hs in
theorem vt {σ τ : List Int} {v : Nat} (h : gi g.ar.own v = 1) : nxP g.ar σ τ v = (gi τ v).toNat:=by unfold nxP;rw [if_neg (by omega)]
theorem nT {σ : List Int} (h0 : b9 g.ar 0 σ) : ∃ k,(∀ v,v < g.prio.length → WW g σ v = phi g σ k v) ∧ ∀ v,v < g.prio.length → gi g.ar.own v = 1 → ∀ u : Nat,(u : Int) ∈ gr g.ar.nxt v → ¬ bX g (WW g σ (nxP g.ar σ (cZ g.ar 1 k) v)) (WW g σ u):=by
 obtain ⟨k,hk⟩:=yM hs h0
 have hF:=fun k=>fL hs h0 (cI hs.1.ar 1 k)
 have heq : ∀ v,v < g.prio.length → WW g σ v = phi g σ k v:=by
  intro v hv
  obtain ⟨j,hj⟩:=xJ hs h0 hv
  refine nR (gy hs h0 hv) (j7 hs h0 k hv) (xK hs h0 (cI hs.1.ar 1 k) hv) ?_
  rw [hj]
  refine qV hs.2 (hF k) (hF j) (fun x hx=>?_) hv
  rcases ip hs hx with e|e
  · rw [kt e,kt e];exact cP
  · exact hk x hx e _ (eT hs.1 h0 (cI hs.1.ar 1 j) hx).1
 refine ⟨k,heq,fun v hv ho u hu=>?_⟩
 rw [heq _ (hF k v hv),heq u (by have:=jb hs.1 hv hu;omega)]
 exact hk v hv ho u hu
theorem f9 {σ : List Int} (h0 : b9 g.ar 0 σ) {v : Nat} (hv : v < g.prio.length) (ho : gi g.ar.own v = 0) : gi σ v ∈ gr g.ar.nxt v ∧ (((gi σ v).toNat : Nat) : Int) = gi σ v ∧ (gi σ v).toNat < g.prio.length:=by
 have hl:=hs.1.len
 have h1:=h0.2 v (by have:=h0.1.1;omega) ho
 have h2 : gi σ v ∈ gr g.ar.nxt v:=(h0.1.2 v (by have:=h0.1.1;omega)).elim (fun h=>by omega) fun h=>h.2
 have:=jb hs.1 hv h2
 exact ⟨h2,by omega,by omega⟩
theorem AA {σ σ' : List Int} (h0 : b9 g.ar 0 σ) (h0' : b9 g.ar 0 σ') (H : ∀ v,v < g.prio.length → gi g.ar.own v = 0 → ¬ bX g (WW g σ (gi σ v).toNat) (WW g σ (gi σ' v).toNat)) {v : Nat} (hv : v < g.prio.length) : ¬ bX g (WW g σ v) (WW g σ' v):=by
 obtain ⟨k,k1,k2⟩:=nT hs h0
 obtain ⟨j,hj⟩:=xJ hs h0' hv
 have hF:=fL hs h0 (cI hs.1.ar 1 k)
 have hF':=fL hs h0' (cI hs.1.ar 1 j)
 rw [hj,k1 v hv]
 refine qV hs.2 hF hF' (fun x hx=>?_) hv
 have e1:=k1 _ (hF x hx)
 have e2:=k1 _ (hF' x hx)
 unfold phi at e1 e2
 rw [← e1,← e2]
 rcases ip hs hx with e|e
 · rw [kt e,kt e];exact H x hx e
 · exact k2 x hx e _ (eT hs.1 h0' (cI hs.1.ar 1 j) hx).1
theorem xc {σ σ' : List Int} (h0 : b9 g.ar 0 σ) (h0' : b9 g.ar 0 σ') (H : ∀ v,v < g.prio.length → gi g.ar.own v = 0 → ∀ u : Nat,(u : Int) ∈ gr g.ar.nxt v → ¬ bX g (WW g σ u) (WW g σ (gi σ v).toNat)) {v : Nat} (hv : v < g.prio.length) : ¬ bX g (WW g σ' v) (WW g σ v):=by
 obtain ⟨k,k1,k2⟩:=nT hs h0
 have hR:=cI hs.1.ar 1 k
 have hF:=fL hs h0 hR
 have hF':=fL hs h0' hR
 refine nQ (gy hs h0' hv) (xI hs h0' hR hv) (xK hs h0' hR hv) ?_
 rw [k1 v hv]
 refine rN hs.2 hF hF' (fun x hx=>?_) hv
 have e1:=k1 _ (hF x hx)
 have e2:=k1 _ (hF' x hx)
 unfold phi at e1 e2
 rw [← e1,← e2]
 rcases ip hs hx with e|e
 · have h1:=(eT hs.1 h0' hR hx).1
   rw [kt e] at h1 ⊢
   rw [kt e]
   exact H x hx e _ h1
 · rw [vt e,vt e];exact cP
end
end Go.Proofs.YtiadchinhofieaaGreat
namespace Go.Proofs.YtiadchinhofieaaGreat
set_option linter.unusedVariables false
set_option linter.unusedSimpArgs false
open Go.RowKit
noncomputable def pk (g : Pa) (w : Nat → Wt) (row : List Int) (b : Int) : Nat → Int
 | 0 => b
 | k + 1 => if tf (bX g (w (gi row k).toNat) (w (pk g w row b k).toNat)) then gi row k else pk g w row b k
section
variable {g : Pa} {w : Nat → Wt} {row : List Int}
theorem jg {b : Int} {k : Nat} (h : bX g (w (gi row k).toNat) (w (pk g w row b k).toNat)) : pk g w row b (k + 1) = gi row k:=by
 show (if tf _ then _ else _) = _;rw [aP h,fO]
theorem jH {b : Int} {k : Nat} (h : ¬ bX g (w (gi row k).toNat) (w (pk g w row b k).toNat)) : pk g w row b (k + 1) = pk g w row b k:=by
 show (if tf _ then _ else _) = _;rw [aq h,fu]
theorem rR {b : Int} (hb : b ∈ row) : ∀ k,k ≤ row.length → pk g w row b k ∈ row:=by
 intro k
 induction k with
 | zero => exact fun _ => hb
 | succ k ih =>
   intro h
   by_cases c : bX g (w (gi row k).toNat) (w (pk g w row b k).toNat)
   · rw [jg c];exact cD (by omega)
   · rw [jH c];exact ih (by omega)
theorem AB {b : Int} : ∀ k,pk g w row b k = b ∨ bX g (w (pk g w row b k).toNat) (w b.toNat):=by
 intro k
 induction k with
 | zero => exact .inl rfl
 | succ k ih =>
   by_cases c : bX g (w (gi row k).toNat) (w (pk g w row b k).toNat)
   · rw [jg c]
     rcases ih with e|h
     · rw [e] at c;exact .inr c
     · exact .inr (fX c h)
   · rw [jH c];exact ih
variable (hw : ∀ u,u ∈ row → WtOk g (w u.toNat))
include hw
omit hw in
theorem yN {b : Int} (hb : b ∈ row) : ∀ k,k ≤ row.length → ∀ i,i < k → ¬ bX g (w (gi row i).toNat) (w (pk g w row b k).toNat):=by
 intro k
 induction k with
 | zero => exact fun _ i hi => absurd hi (Nat.not_lt_zero _)
 | succ k ih =>
   intro h i hi
   have hp:=rR (g:=g) (w:=w) hb k (by omega)
   by_cases c : bX g (w (gi row k).toNat) (w (pk g w row b k).toNat)
   · rw [jg c]
     by_cases e : i = k
     · subst e;exact cP
     · exact fun q=>ih (by omega) i (by omega) (fX q c)
   · rw [jH c]
     by_cases e : i = k
     · subst e;exact c
     · exact ih (by omega) i (by omega)
theorem yO {c : Int} (hc : c ∈ row) : ∀ k,0 < k → k ≤ row.length → pk g w row c k = if tf (bX g (w (pk g w row (gi row 0) k).toNat) (w c.toNat)) then pk g w row (gi row 0) k else c:=by
 intro k
 induction k with
 | zero => intro h; omega
 | succ k ih =>
   intro _ hk
   by_cases k0 : k = 0
   · subst k0
     have e1 : pk g w row (gi row 0) 1 = gi row 0:=by
      have : pk g w row (gi row 0) 0 = gi row 0:=rfl
      rw [jH (by rw [this];exact cP)];rfl
     rw [e1]
     rfl
   · have h1:=ih (by omega) (by omega)
     have hb:=rR (g:=g) (w:=w) (b:=gi row 0) (cD (by omega)) k (by omega)
     have hx : gi row k ∈ row:=cD (by omega)
     obtain ⟨b,hbe⟩ : ∃ b,b = pk g w row (gi row 0) k:=⟨_,rfl⟩
     obtain ⟨d,hde⟩ : ∃ d,d = pk g w row c k:=⟨_,rfl⟩
     rw [← hbe] at h1 hb
     rw [← hde] at h1
     by_cases c1 : bX g (w (gi row k).toNat) (w b.toNat)
     · have e1 : pk g w row (gi row 0) (k + 1) = gi row k:=jg (by rw [← hbe];exact c1)
       rw [e1]
       by_cases c2 : bX g (w b.toNat) (w c.toNat)
       · rw [aP c2,fO] at h1
         rw [aP (fX c1 c2),fO]
         exact jg (by rw [← hde,h1];exact c1)
       · rw [aq c2,fu] at h1
         by_cases c3 : bX g (w (gi row k).toNat) (w c.toNat)
         · rw [aP c3,fO]
           exact jg (by rw [← hde,h1];exact c3)
         · rw [aq c3,fu,jH (by rw [← hde,h1];exact c3),← hde,h1]
     · have e1 : pk g w row (gi row 0) (k + 1) = b:=by rw [jH (by rw [← hbe];exact c1),← hbe]
       rw [e1]
       by_cases c2 : bX g (w b.toNat) (w c.toNat)
       · rw [aP c2,fO] at h1 ⊢
         rw [jH (by rw [← hde,h1];exact c1),← hde,h1]
       · rw [aq c2,fu] at h1 ⊢
         rw [jH (by rw [← hde,h1];exact nQ (hw _ hx) (hw _ hb) c1 c2),← hde,h1]
end
noncomputable def dK (g : Pa) (σ : List Int) : List Int:=tab g.ar.own.length fun v=>if gi g.ar.own v = 0 then pk g (WW g σ) (gr g.ar.nxt v) (gi σ v) (gr g.ar.nxt v).length else -1
def j8 (g : Pa) : List Int:=tab g.ar.own.length fun v=>if gi g.ar.own v = 0 then gi (gr g.ar.nxt v) 0 else -1
section
variable {g : Pa} (hs : dr g)
theorem jI (g : Pa) (σ : List Int) : (dK g σ).length = g.ar.own.length:=cr _ _
theorem kO {σ : List Int} {v : Nat} (hv : v < g.ar.own.length) (ho : gi g.ar.own v = 0) : gi (dK g σ) v = pk g (WW g σ) (gr g.ar.nxt v) (gi σ v) (gr g.ar.nxt v).length:=by
 unfold dK;rw [cU _ hv,if_pos ho]
theorem nU {σ : List Int} {v : Nat} (hv : v < g.ar.own.length) (ho : gi g.ar.own v ≠ 0) : gi (dK g σ) v = -1:=by
 unfold dK;rw [cU _ hv,if_neg ho]
include hs
theorem vu {σ : List Int} (h0 : b9 g.ar 0 σ) {v : Nat} (hv : v < g.prio.length) : ∀ u,u ∈ gr g.ar.nxt v → WtOk g (WW g σ u.toNat):=fun u hu=>gy hs h0 (by have:=jb hs.1 hv hu;omega)
theorem qY : b9 g.ar 0 (j8 g):=by
 have hl:=hs.1.len
 refine ⟨⟨cr _ _,fun v hv=>?_⟩,fun v hv e=>?_⟩
 · rw [j8,cr] at hv
   have h:=(hs.1.ar.vert v hv).2.2
   rw [j8,cU _ hv]
   by_cases e : gi g.ar.own v = 0
   · rw [if_pos e];exact .inr ⟨e,cD (by omega)⟩
   · rw [if_neg e];exact .inl rfl
 · rw [j8,cr] at hv
   have h:=(hs.1.ar.vert v hv).2.2
   rw [j8,cU _ hv,if_pos e]
   exact (h.2.2 0 (by omega)).1
theorem iq {σ : List Int} (h0 : b9 g.ar 0 σ) : b9 g.ar 0 (dK g σ):=by
 have hl:=hs.1.len
 have key : ∀ v,v < g.ar.own.length → gi g.ar.own v = 0 → gi (dK g σ) v ∈ gr g.ar.nxt v:=fun v hv e=>by
  rw [kO hv e];exact rR (f9 hs h0 (by omega) e).1 _ (Nat.le_refl _)
 refine ⟨⟨jI g σ,fun v hv=>?_⟩,fun v hv e=>?_⟩
 · rw [jI] at hv
   by_cases e : gi g.ar.own v = 0
   · exact .inr ⟨e,key v hv e⟩
   · exact .inl (nU hv e)
 · rw [jI] at hv
   have:=jb hs.1 (by omega) (key v hv e)
   omega
theorem vv {σ : List Int} (h0 : b9 g.ar 0 σ) {v : Nat} (hv : v < g.prio.length) (ho : gi g.ar.own v = 0) : gi (dK g σ) v = gi σ v ∨ bX g (WW g σ (gi (dK g σ) v).toNat) (WW g σ (gi σ v).toNat):=by
 rw [kO (by have:=hs.1.len;omega) ho];exact AB _
theorem mL {σ : List Int} (h0 : b9 g.ar 0 σ) {v : Nat} (hv : v < g.prio.length) (ho : gi g.ar.own v = 0) : ¬ bX g (WW g σ (gi σ v).toNat) (WW g σ (gi (dK g σ) v).toNat):=by
 rcases vv hs h0 hv ho with e|h
 · rw [e];exact cP
 · exact kJ h
theorem nV {σ : List Int} (h0 : b9 g.ar 0 σ) {v : Nat} (hv : v < g.prio.length) (ho : gi g.ar.own v = 0) {u : Int} (hu : u ∈ gr g.ar.nxt v) : ¬ bX g (WW g σ u.toNat) (WW g σ (gi (dK g σ) v).toNat):=by
 obtain ⟨i,hi,e⟩:=cR hu
 rw [kO (by have:=hs.1.len;omega) ho,← e]
 exact yN (f9 hs h0 hv ho).1 _ (Nat.le_refl _) i hi
theorem yP {σ : List Int} (h0 : b9 g.ar 0 σ) {v : Nat} (hv : v < g.prio.length) : ¬ bX g (WW g σ v) (WW g (dK g σ) v) :=
 AA hs h0 (iq hs h0) (fun x hx ho=>mL hs h0 hx ho) hv
theorem xd {σ σ' : List Int} (h0 : b9 g.ar 0 σ) (h0' : b9 g.ar 0 σ') (h : ∀ v,v < g.prio.length → gi g.ar.own v = 0 → gi σ' v = gi σ v) : σ' = σ:=by
 have hl:=hs.1.len
 refine kT (by rw [h0.1.1,h0'.1.1]) fun v hv=>?_
 have hv' : v < g.prio.length:=by have:=h0'.1.1;omega
 by_cases e : gi g.ar.own v = 0
 · exact h v hv' e
 · rcases h0.1.2 v (by have:=h0.1.1;omega) with q|q
   · rcases h0'.1.2 v hv with r|r
     · rw [q,r]
     · exact absurd r.1 e
   · exact absurd q.1 e
theorem yQ {σ : List Int} (h0 : b9 g.ar 0 σ) : dK g σ ≠ σ ↔ ∃ v,v < g.prio.length ∧ gi g.ar.own v = 0 ∧ ∃ u,u ∈ gr g.ar.nxt v ∧ bX g (WW g σ u.toNat) (WW g σ (gi σ v).toNat):=by
 constructor
 · intro h
   refine Classical.byContradiction fun hc=>h (xd hs h0 (iq hs h0) fun v hv ho=>?_)
   rcases vv hs h0 hv ho with e|q
   · exact e
   · exact absurd ⟨v,hv,ho,_,(f9 hs (iq hs h0) hv ho).1,q⟩ hc
 · rintro ⟨v,hv,ho,u,hu,q⟩ e
   have:=nV hs h0 hv ho hu
   rw [e] at this
   exact this q
theorem rS {σ : List Int} (h0 : b9 g.ar 0 σ) (h : dK g σ = σ) {v : Nat} (hv : v < g.prio.length) (ho : gi g.ar.own v = 0) {u : Nat} (hu : (u : Int) ∈ gr g.ar.nxt v) : ¬ bX g (WW g σ u) (WW g σ (gi σ v).toNat):=by
 have:=nV hs h0 hv ho hu
 rw [h,Int.toNat_natCast] at this
 exact this
noncomputable def mP (g : Pa) (σ : List Int) : Nat:=num (fun i=>Lex (fun a b=>bX g b a) g.prio.length (WW g σ) (fun v=>WW g σ (gi σ v).toNat) (WW g (cZ g.ar 0 i)) (fun v=>WW g (cZ g.ar 0 i) (gi (cZ g.ar 0 i) v).toNat)) (cV g.ar 0 g.ar.own.length)
theorem rT {σ : List Int} (h0 : b9 g.ar 0 σ) {v : Nat} (hv : v < g.prio.length) : (gi σ v).toNat < g.prio.length:=by
 have hl:=hs.1.len
 by_cases e : gi g.ar.own v = 0
 · exact (f9 hs h0 hv e).2.2
 · rcases h0.1.2 v (by have:=h0.1.1;omega) with q|q
   · rw [q];show (-1 : Int).toNat < _;have : (-1 : Int).toNat = 0:=rfl;omega
   · exact absurd q.1 e
theorem xL {σ : List Int} (h0 : b9 g.ar 0 σ) (h : dK g σ ≠ σ) : mP g (dK g σ) < mP g σ:=by
 have h1:=iq hs h0
 have O:=vm g
 have hA:=fun {ρ : List Int} (hρ : b9 g.ar 0 ρ) v (hv : v < g.prio.length)=>gy hs hρ hv
 have hB:=fun {ρ : List Int} (hρ : b9 g.ar 0 ρ) v (hv : v < g.prio.length)=>gy hs hρ (rT hs hρ hv)
 have hR:=fun i=>cI hs.1.ar 0 i
 have up : Lex (fun a b=>bX g b a) g.prio.length (WW g σ) (fun v=>WW g σ (gi σ v).toNat) (WW g (dK g σ)) (fun v=>WW g (dK g σ) (gi (dK g σ) v).toNat):=by
  have hge:=fun v (hv : v < g.prio.length)=>yP hs h0 hv
  refine ⟨hge,?_⟩
  by_cases hc : ∃ v,v < g.prio.length ∧ bX g (WW g (dK g σ) v) (WW g σ v)
  · exact .inl hc
  · have heq : ∀ v,v < g.prio.length → WW g σ v = WW g (dK g σ) v:=fun v hv=>nR (gy hs h0 hv) (gy hs h1 hv) (hge v hv) fun q=>hc ⟨v,hv,q⟩
    refine .inr ⟨heq,fun v hv=>?_,?_⟩
    · show ¬ bX g (WW g σ (gi σ v).toNat) (WW g (dK g σ) (gi (dK g σ) v).toNat)
      rw [← heq _ (rT hs h1 hv)]
      by_cases e : gi g.ar.own v = 0
      · exact mL hs h0 hv e
      · have hl:=hs.1.len
        have e1 : gi σ v = -1:=(h0.1.2 v (by have:=h0.1.1;omega)).elim id fun q=>absurd q.1 e
        rw [nU (by omega) e,e1];exact cP
    · obtain ⟨v,hv,ho,u,hu,q⟩:=(yQ hs h0).1 h
      refine ⟨v,hv,?_⟩
      show bX g (WW g (dK g σ) (gi (dK g σ) v).toNat) (WW g σ (gi σ v).toNat)
      rw [← heq _ (rT hs h1 hv)]
      exact px (vu hs h0 hv u hu) (gy hs h0 (rT hs h1 hv)) q (nV hs h0 hv ho hu)
 refine nE (fun i _ hi=>vj O (hA h0) (hA h1) (hA (hR i)) (hB h0) (hB h1) (hB (hR i)) up hi) ?_
 obtain ⟨i,i1,i2⟩:=nS hs.1.ar h1
 refine ⟨i,i1,?_,?_⟩
 · simp only [i2];exact up
 · simp only [i2];exact rQ O
noncomputable def itB (g : Pa) : Nat → List Int
 | 0 => j8 g
 | k + 1 => dK g (itB g k)
theorem jJ : ∀ k,b9 g.ar 0 (itB g k):=by
 intro k
 induction k with
 | zero => exact qY hs
 | succ k ih => exact iq hs ih
theorem vw : ∃ k,itB g (k + 1) = itB g k:=by
 have key : ∀ m k,mP g (itB g k) ≤ m → ∃ k,itB g (k + 1) = itB g k:=by
  intro m
  induction m with
  | zero =>
    intro k hk
    refine ⟨k,Classical.byContradiction fun h=>?_⟩
    have:=xL hs (jJ hs k) h
    omega
  | succ m ih =>
    intro k hk
    by_cases h : itB g (k + 1) = itB g k
    · exact ⟨k,h⟩
    · have:=xL hs (jJ hs k) h
      exact ih (k + 1) (by show mP g (dK g _) ≤ m;omega)
 exact key _ 0 (Nat.le_refl _)
noncomputable def nB (g : Pa) : Nat:=@dite _ (∃ k,itB g (k + 1) = itB g k ∧ ∀ j,j < k → itB g (j + 1) ≠ itB g j) (Classical.propDecidable _) (fun h=>Classical.choose h) fun _=>0
theorem xM : itB g (nB g + 1) = itB g (nB g) ∧ ∀ j,j < nB g → itB g (j + 1) ≠ itB g j:=by
 have hx:=lL (vw hs)
 have : nB g = Classical.choose hx:=dif_pos hx
 rw [this];exact Classical.choose_spec hx
noncomputable def dL (g : Pa) : List Int:=itB g (nB g)
theorem fh : b9 g.ar 0 (dL g):=jJ hs _
theorem pE : dK g (dL g) = dL g:=(xM hs).1
theorem xe {σ : List Int} (h0 : b9 g.ar 0 σ) {v : Nat} (hv : v < g.prio.length) : ¬ bX g (WW g σ v) (WW g (dL g) v) :=
 xc hs (fh hs) h0 (fun v hv ho u hu=>rS hs (fh hs) (pE hs) hv ho hu) hv
end
end Go.Proofs.YtiadchinhofieaaGreat
