/-
  The improved plan, the best plan, and who wins.
-/
import Derived.Test.YtlodllmpndflcaaZoT1
import Derived.Test.YtlodllmpndflcaaZoR7
import Derived.Test.YtlodllmpndflcaaZoD5
namespace Go.Proofs.Ytlodllmpndflcaa
set_option linter.unusedVariables false
set_option linter.unusedSimpArgs false
open Go.RowKit
theorem lI {P : Nat → Prop} (h : ∃ i,P i) : ∃ i,P i ∧ ∀ j,j < i → ¬ P j:=by
 obtain ⟨i,hi⟩:=h
 induction i using Nat.strongRecOn with
 | ind i ih =>
   by_cases hc : ∃ j,j < i ∧ P j
   · obtain ⟨j,h1,h2⟩:=hc;exact ih j h1 h2
   · exact ⟨i,hi,fun j hj hp=>hc ⟨j,hj,hp⟩⟩
def itF (f : Nat → Nat) (v : Nat) : Nat → Nat
 | 0 => v
 | k + 1 => f (itF f v k)
theorem bS (f : Nat → Nat) (v i : Nat) : ∀ j,itF f v (i + j) = itF f (itF f v i) j:=by
 intro j
 induction j with
 | zero => rfl
 | succ j ih => show f (itF f v (i + j)) = f _; rw [ih]
theorem eZ {f : Nat → Nat} {n v : Nat} (hf : ∀ x,x < n → f x < n) (hv : v < n) : ∀ k,itF f v k < n:=by
 intro k
 induction k with
 | zero => exact hv
 | succ k ih => exact hf _ ih
theorem iH {f : Nat → Nat} {v p : Nat} (h : itF f v p = v) (hp : 0 < p) : ∀ j,∃ r,r < p ∧ itF f v j = itF f v r:=by
 intro j
 induction j with
 | zero => exact ⟨0, hp, rfl⟩
 | succ j ih =>
   obtain ⟨r,h1,h2⟩:=ih
   by_cases e : r + 1 < p
   · exact ⟨r + 1,e,by show f _ = f _;rw [h2]⟩
   · refine ⟨0,hp,?_⟩
     show f _ = v
     rw [h2]
     have : r + 1 = p:=by omega
     rw [← this] at h
     exact h
section
variable {g : Pa}
theorem tA (F : Nat → Int) : ∀ k,∃ m,m ≤ k ∧ ∀ j,j ≤ k → ¬ Hv g (F j) (F m):=by
 intro k
 induction k with
 | zero => exact ⟨0, Nat.le_refl _, fun j hj => by
   obtain rfl : j = 0:=by omega
   exact fun h=>gz h h⟩
 | succ k ih =>
   obtain ⟨m,h1,h2⟩:=ih
   by_cases hc : Hv g (F (k + 1)) (F m)
   · refine ⟨k + 1,Nat.le_refl _,fun j hj hh=>?_⟩
     by_cases e : j = k + 1
     · subst e;exact gz hh hh
     · exact h2 j (by omega) (im hh hc)
   · refine ⟨m,by omega,fun j hj hh=>?_⟩
     by_cases e : j = k + 1
     · subst e;exact hc hh
     · exact h2 j (by omega) hh
structure IsHd (g : Pa) (f : Nat → Nat) (v h : Nat) : Prop where
 rc : ∃ i,itF f v i = h
 lp : ∃ p,0 < p ∧ itF f h p = h
 mx : ∀ j,¬ Hv g (itF f h j) h
theorem vx {f : Nat → Nat} {n v : Nat} (hf : ∀ x,x < n → f x < n) (hv : v < n) : ∃ h,IsHd g f v h:=by
 obtain ⟨a,b,hab,e⟩ : ∃ a b,a < b ∧ itF f v a = itF f v b:=Classical.byContradiction fun hc=>by
  have:=iG (k:=n + 1) (eZ hf hv) fun i j hi _ e=>hc ⟨i,j,hi,e⟩
  omega
 have hp : itF f (itF f v a) (b - a) = itF f v a:=by rw [← bS,show a + (b - a) = b by omega];exact e.symm
 have hp0 : 0 < b - a:=by omega
 generalize b - a = p at hp hp0
 obtain ⟨m,h1,h2⟩:=tA (g:=g) (fun j=>(itF f (itF f v a) j : Int)) p
 refine ⟨itF f (itF f v a) m,⟨a + m,bS _ _ _ _⟩,⟨p,hp0,?_⟩,fun j=>?_⟩
 · rw [← bS,Nat.add_comm,bS,hp]
 · rw [← bS]
   obtain ⟨r,r1,r2⟩:=iH hp hp0 (m + j)
   rw [r2]
   exact h2 r (by omega)
theorem rU {f : Nat → Nat} {v h h' : Nat} (H : IsHd g f v h) (H' : IsHd g f v h') : h = h':=by
 obtain ⟨i,hi⟩:=H.rc
 obtain ⟨j,hj⟩:=H'.rc
 have key : ∀ {a b x y : Nat},IsHd g f v x → IsHd g f v y → itF f v a = x → itF f v b = y → a ≤ b → x = y:=by
  intro a b x y X Y ha hb hab
  have e1 : itF f x (b - a) = y:=by rw [← ha,← bS,show a + (b - a) = b by omega];exact hb
  obtain ⟨p,p0,p1⟩:=X.lp
  have e2 : ∃ c,itF f y c = x:=by
   obtain ⟨r,r1,r2⟩:=iH p1 p0 (b - a)
   refine ⟨p - r,?_⟩
   rw [← e1,r2,← bS,show r + (p - r) = p by omega];exact p1
  obtain ⟨c,hc⟩:=e2
  have m1:=X.mx (b - a)
  rw [e1] at m1
  have m2:=Y.mx c
  rw [hc] at m2
  by_cases e : x = y
  · exact e
  · rcases kF (g:=g) (x:=(x : Int)) (y:=y) (by omega) with q|q
    · exact absurd q m2
    · exact absurd q m1
 rcases Nat.le_total i j with q|q
 · exact key H H' hi hj q
 · exact (key H' H hj hi q).symm
noncomputable def hdF (g : Pa) (f : Nat → Nat) (v : Nat) : Nat:=@dite _ (∃ h,IsHd g f v h) (Classical.propDecidable _) (fun h=>Classical.choose h) fun _=>0
theorem mD {f : Nat → Nat} {v h : Nat} (H : IsHd g f v h) : hdF g f v = h:=by
 have hx : ∃ h,IsHd g f v h:=⟨h,H⟩
 have : hdF g f v = Classical.choose hx:=dif_pos hx
 rw [this]
 exact rU (Classical.choose_spec hx) H
noncomputable def wyF (g : Pa) (f : Nat → Nat) (v : Nat) : Nat:=@dite _ (∃ d,itF f v d = hdF g f v ∧ ∀ j,j < d → itF f v j ≠ hdF g f v) (Classical.propDecidable _) (fun h=>Classical.choose h) fun _=>0
theorem tB {f : Nat → Nat} {v d : Nat} (h1 : itF f v d = hdF g f v) (h2 : ∀ j,j < d → itF f v j ≠ hdF g f v) : wyF g f v = d:=by
 have hx : ∃ d,itF f v d = hdF g f v ∧ ∀ j,j < d → itF f v j ≠ hdF g f v:=⟨d,h1,h2⟩
 have e : wyF g f v = Classical.choose hx:=dif_pos hx
 obtain ⟨k1,k2⟩:=Classical.choose_spec hx
 rw [← e] at k1 k2
 rcases Nat.lt_trichotomy (wyF g f v) d with q|q|q
 · exact absurd k1 (h2 _ q)
 · exact q
 · exact absurd h1 (k2 _ q)
def OvP (g : Pa) (f : Nat → Nat) (v x : Nat) : Prop:=Hv g x (hdF g f v) ∧ ∃ i,i < wyF g f v ∧ itF f v i = x
noncomputable def wtF (g : Pa) (f : Nat → Nat) (v : Nat) : Wt:=⟨hdF g f v,lst (OvP g f v) g.prio.length,wyF g f v⟩
section
variable {f : Nat → Nat} (hf : ∀ x,x < g.prio.length → f x < g.prio.length)
include hf
theorem qv {v : Nat} (hv : v < g.prio.length) : IsHd g f v (hdF g f v):=by
 obtain ⟨h,H⟩:=vx (g:=g) hf hv
 rw [mD H];exact H
theorem qw {v : Nat} (hv : v < g.prio.length) : hdF g f v < g.prio.length:=by
 obtain ⟨i,h⟩:=(qv hf hv).rc
 rw [← h];exact eZ hf hv i
theorem kJ {v : Nat} (hv : v < g.prio.length) : itF f v (wyF g f v) = hdF g f v ∧ ∀ j,j < wyF g f v → itF f v j ≠ hdF g f v:=by
 obtain ⟨d,h1,h2⟩:=lI (qv hf hv).rc
 rw [tB h1 h2];exact ⟨h1,h2⟩
theorem qx {v : Nat} (hv : v < g.prio.length) : wyF g f v ≤ g.prio.length:=by
 obtain ⟨h1,h2⟩:=kJ hf hv
 have:=iG (k:=wyF g f v) (eZ hf hv) fun i j hi hj e=>?_
 · exact this
 · refine h2 (wyF g f v - (j - i)) (by omega) ?_
   have e2:=bS f v j (wyF g f v - j)
   rw [← e,← bS,show j + (wyF g f v - j) = wyF g f v by omega,h1,show i + (wyF g f v - j) = wyF g f v - (j - i) by omega] at e2
   exact e2.symm
end
theorem dW (p : Nat → Prop) : ∀ k : Nat,cZ (lst p k) k:=by
 intro k
 induction k with
 | zero => exact fun j hj => absurd hj (Nat.not_lt_zero _)
 | succ k ih =>
   by_cases h : p k
   · rw [gh h]
     intro j hj
     by_cases e : j < (lst p k).length
     · have h1:=ih j e
       rw [g7 e]
       refine ⟨h1.1,by omega,fun h0=>?_⟩
       rw [g7 (by omega)]
       exact h1.2.2 h0
     · have e2 : j = (lst p k).length:=by simp at hj;omega
       rw [e2,lH]
       refine ⟨by omega,by omega,fun h0=>?_⟩
       rw [g7 (by omega)]
       have:=ih ((lst p k).length - 1) (by omega)
       omega
   · rw [iR h]
     exact fun j hj=>by have:=ih j hj;exact ⟨this.1,by omega,this.2.2⟩
def HR (g : Pa) (a b : Int) : Prop:=(EvP g a ∧ ¬ EvP g b) ∨ (EvP g a ∧ EvP g b ∧ Hv g a b) ∨ (¬ EvP g a ∧ ¬ EvP g b ∧ Hv g b a)
theorem jZ {a : Wt} : ¬ d6 g a a:=oK ⟨rfl,rfl,rfl⟩
theorem tC {f : Nat → Nat} (hn : g.prio.length ≤ 12) (hf : ∀ x,x < g.prio.length → f x < g.prio.length) {v : Nat} (hv : v < g.prio.length) : WtOk g (wtF g f v):=by
 have h1:=qw hf hv
 have h2:=qx hf hv
 refine ⟨⟨by show (0 : Int) ≤ (hdF g f v : Nat);omega,by show ((hdF g f v : Nat) : Int) < _;omega⟩,dW _ _,⟨by show (0 : Int) ≤ (wyF g f v : Nat);omega,by show ((wyF g f v : Nat) : Int) ≤ 12;omega⟩,fun j hj=>?_⟩
 obtain ⟨x,_,h,e⟩:=fv.1 (ee hj)
 have e : gi (wtF g f v).ov j = x:=e
 rw [e]
 exact h.1
section
variable {f f' : Nat → Nat} (hn : g.prio.length ≤ 12) (hf : ∀ x,x < g.prio.length → f x < g.prio.length) (hf' : ∀ x,x < g.prio.length → f' x < g.prio.length)
def Ups (g : Pa) (f s : Nat → Nat) : Prop:=∀ k,s k < g.prio.length ∧ ¬ d6 g (wtF g f (f (s k))) (wtF g f (s (k + 1)))
variable (H : ∀ x,x < g.prio.length → ¬ d6 g (wtF g f (f x)) (wtF g f (f' x)))
include hn hf hf' H
end
end
end Go.Proofs.Ytlodllmpndflcaa
namespace Go.Proofs.Ytlodllmpndflcaa
set_option linter.unusedVariables false
set_option linter.unusedSimpArgs false
open Go.RowKit
def cC (a : Ar) (w : Int) : Nat → Nat
 | 0 => 1
 | v + 1 => if gi a.own v = w then cC a w v * (gr a.nxt v).length else cC a w v
def cB (a : Ar) (w : Int) (k : Nat) : List Int:=tab a.own.length fun v=>if gi a.own v = w then gi (gr a.nxt v) (k / cC a w v % (gr a.nxt v).length) else -1
theorem gB {a : Ar} {w : Int} {v : Nat} (h : gi a.own v = w) : cC a w (v + 1) = cC a w v * (gr a.nxt v).length:=if_pos h
theorem hH {a : Ar} {w : Int} {v : Nat} (h : gi a.own v ≠ w) : cC a w (v + 1) = cC a w v:=if_neg h
theorem nB {a : Ar} (ha : ArOk a) (w : Int) : ∀ v,v ≤ a.own.length → 0 < cC a w v:=by
 intro v
 induction v with
 | zero => exact fun _ => Nat.one_pos
 | succ v ih =>
   intro h
   have h1:=ih (by omega)
   have h2:=(ha.vert v (by omega)).2.2.1
   by_cases e : gi a.own v = w
   · rw [gB e];exact Nat.mul_pos h1 (by omega)
   · rw [hH e];exact h1
theorem rV {a : Ar} {w : Int} {u : Nat} : ∀ v,u ≤ v → cC a w u ∣ cC a w v:=by
 intro v
 induction v with
 | zero => intro h; obtain rfl : u = 0 := (by omega); exact Nat.dvd_refl _
 | succ v ih =>
   intro h
   by_cases e0 : u = v + 1
   · subst e0;exact Nat.dvd_refl _
   · have h1:=ih (by omega)
     by_cases e : gi a.own v = w
     · rw [gB e];exact Nat.dvd_trans h1 (Nat.dvd_mul_right _ _)
     · rw [hH e];exact h1
theorem fu (a : Ar) (w : Int) (k : Nat) : (cB a w k).length = a.own.length:=dG _ _
theorem iI {a : Ar} {w : Int} {k v : Nat} (hv : v < a.own.length) : gi (cB a w k) v = if gi a.own v = w then gi (gr a.nxt v) (k / cC a w v % (gr a.nxt v).length) else -1:=dj _ hv
theorem fJ {a : Ar} (ha : ArOk a) (w : Int) (k : Nat) : cz a w (cB a w k):=by
 have hin : ∀ v,v < a.own.length → k / cC a w v % (gr a.nxt v).length < (gr a.nxt v).length:=fun v hv=>Nat.mod_lt _ (by have:=(ha.vert v hv).2.2.1;omega)
 refine ⟨⟨fu a w k,fun v hv=>?_⟩,fun v hv e=>?_⟩
 · rw [fu] at hv
   rw [iI hv]
   by_cases e : gi a.own v = w
   · rw [if_pos e];exact .inr ⟨e,ee (hin v hv)⟩
   · rw [if_neg e];exact .inl rfl
 · rw [fu] at hv
   rw [iI hv,if_pos e]
   exact ((ha.vert v hv).2.2.2.2 _ (hin v hv)).1
theorem qy {a : Ar} (ha : ArOk a) {w : Int} {u v : Nat} (h : u ≤ v) (hv : v ≤ a.own.length) : cC a w u ≤ cC a w v:=Nat.le_of_dvd (nB ha w v hv) (rV v h)
def ip (a : Ar) : Int:=if cC a 1 a.own.length ≤ 4096 then (cC a 1 a.own.length : Nat) else -1
theorem lJ {a : Ar} (h : ArOk a) {k : Nat} (hk : k ≤ a.own.length) (hp : 4096 < cC a 1 k) : ip a = -1:=by
 have:=qy h (w:=1) hk (Nat.le_refl _)
 unfold ip
 rw [if_neg (by omega)]
theorem je {a : Ar} (hp : cC a 1 a.own.length ≤ 4096) : ip a = (cC a 1 a.own.length : Nat):=by unfold ip;rw [if_pos hp]
end Go.Proofs.Ytlodllmpndflcaa
namespace Go.Proofs.Ytlodllmpndflcaa
set_option linter.unusedVariables false
set_option linter.unusedSimpArgs false
open Go.RowKit
structure OrdW (Ok : Wt → Prop) (lt : Wt → Wt → Prop) : Prop where
 irr : ∀ a,¬ lt a a
 tr : ∀ a b c,lt a b → lt b c → lt a c
 tot : ∀ a b,Ok a → Ok b → a = b ∨ lt a b ∨ lt b a
def cF (g : Pa) : Nat:=cC g.ar 1 g.ar.own.length
noncomputable def phi (g : Pa) (σ : List Int) (k v : Nat) : Wt:=wtF g (nxP g.ar σ (cB g.ar 1 k)) v
noncomputable def wst (g : Pa) (σ : List Int) : Nat → Nat → Wt
 | 0, _ => ⟨0, [], 0⟩
 | k + 1, v => if k = 0 then phi g σ 0 v else if tf (d6 g (wst g σ k v) (phi g σ k v)) then phi g σ k v else wst g σ k v
noncomputable def WW (g : Pa) (σ : List Int) (v : Nat) : Wt:=wst g σ (cF g) v
section
variable {g : Pa} (hs : dU g)
include hs
theorem mE {σ τ : List Int} (h0 : cz g.ar 0 σ) (h1 : cz g.ar 1 τ) : ∀ x,x < g.prio.length → nxP g.ar σ τ x < g.prio.length:=fun x hx=>(jd hs.1 h0 h1 hx).2.1
theorem vy {σ τ : List Int} (h0 : cz g.ar 0 σ) (h1 : cz g.ar 1 τ) {v : Nat} (hv : v < g.prio.length) : WtOk g (wtF g (nxP g.ar σ τ) v):=tC hs.2 (mE hs h0 h1) hv
theorem kK {σ : List Int} (h0 : cz g.ar 0 σ) (k : Nat) {v : Nat} (hv : v < g.prio.length) : WtOk g (phi g σ k v):=vy hs h0 (fJ hs.1.ar 1 k) hv
theorem gC : 0 < cF g:=nB hs.1.ar 1 _ (Nat.le_refl _)
theorem tD {σ : List Int} (h0 : cz g.ar 0 σ) {v : Nat} (hv : v < g.prio.length) : ∀ k,0 < k → (∃ j,j < k ∧ wst g σ k v = phi g σ j v) ∧ ∀ j,j < k → ¬ d6 g (wst g σ k v) (phi g σ j v):=by
 intro k
 induction k with
 | zero => intro h; omega
 | succ k ih =>
   intro _
   by_cases hk : k = 0
   · subst hk
     have e : wst g σ 1 v = phi g σ 0 v:=rfl
     rw [e]
     exact ⟨⟨0,by omega,rfl⟩,fun j hj=>by obtain rfl : j = 0:=(by omega);exact jZ⟩
   · obtain ⟨⟨i,i1,i2⟩,h2⟩:=ih (by omega)
     have hok : WtOk g (wst g σ k v):=by rw [i2];exact kK hs h0 i hv
     by_cases hb : d6 g (wst g σ k v) (phi g σ k v)
     · have e : wst g σ (k + 1) v = phi g σ k v:=by show (if _ then _ else _) = _;rw [if_neg hk,aA hb,gT]
       rw [e]
       refine ⟨⟨k,by omega,rfl⟩,fun j hj=>?_⟩
       by_cases ej : j = k
       · subst ej;exact jZ
       · exact fun q=>h2 j (by omega) (rT hb q)
     · have e : wst g σ (k + 1) v = wst g σ k v:=by show (if _ then _ else _) = _;rw [if_neg hk,ao hb,fO]
       rw [e]
       refine ⟨⟨i,by omega,i2⟩,fun j hj=>?_⟩
       by_cases ej : j = k
       · subst ej;exact hb
       · exact h2 j (by omega)
theorem mF {σ : List Int} (h0 : cz g.ar 0 σ) {v : Nat} (hv : v < g.prio.length) {k : Nat} (hk : 0 < k) : WtOk g (wst g σ k v):=by
 obtain ⟨⟨j,_,e⟩,_⟩:=tD hs h0 hv k hk
 rw [e];exact kK hs h0 j hv
theorem vz {σ : List Int} (h0 : cz g.ar 0 σ) {v : Nat} (hv : v < g.prio.length) : WtOk g (WW g σ v):=mF hs h0 hv (gC hs)
end
end Go.Proofs.Ytlodllmpndflcaa
namespace Go.Proofs.Ytlodllmpndflcaa
set_option linter.unusedVariables false
set_option linter.unusedSimpArgs false
open Go.RowKit
end Go.Proofs.Ytlodllmpndflcaa
