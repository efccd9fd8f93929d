/-
  Parity games in plain words: attraction, dominions (a region that a player wins by a strategy of single moves), and who wins: two dominions of different players are apart; the recursive solver's step.
-/
import Derived.Test.YtlodllmpndflcaaZoCa
namespace Go.Proofs.Ytlodllmpndflcaa
set_option linter.unusedVariables false
set_option linter.unusedSimpArgs false
namespace PG
structure Gm where
 own : Nat → Int
 prio : Nat → Int
 E : Nat → Nat → Prop
 own01 : ∀ v,own v = 0 ∨ own v = 1
 bnd : ∃ B : Nat,∀ v,prio v ≤ B
 nn : ∀ v,0 ≤ prio v
variable {G : Gm}
def ny (G : Gm) (who : Int) (S T : Nat → Prop) : Nat → Nat → Prop
 | 0, v => S v ∧ T v
 | k + 1, v => ny G who S T k v ∨ (S v ∧ G.own v = who ∧ ∃ u, G.E v u ∧ ny G who S T k u) ∨ (S v ∧ G.own v ≠ who ∧ (∃ u, G.E v u ∧ S u) ∧ ∀ u, G.E v u → S u → ny G who S T k u)
def Attr (G : Gm) (who : Int) (S T : Nat → Prop) (v : Nat) : Prop:=∃ k,ny G who S T k v
theorem attr_least {who : Int} {S T X : Nat → Prop} (h0 : ∀ v,S v → T v → X v) (h1 : ∀ v u,S v → G.own v = who → G.E v u → X u → X v)
  (h2 : ∀ v,S v → G.own v ≠ who → (∃ u,G.E v u ∧ S u) → (∀ u,G.E v u → S u → X u) → X v) : ∀ v,Attr G who S T v → X v:=by
 rintro v ⟨k,hk⟩
 induction k generalizing v with
 | zero => exact h0 v hk.1 hk.2
 | succ k ih =>
   rcases hk with h|⟨a,b,u,c,d⟩|⟨a,b,c,d⟩
   · exact ih v h
   · exact h1 v u a b c (ih u d)
   · exact h2 v a b c fun u hu hs=>ih u (d u hu hs)
def oH (G : Gm) (i : Int) (R : Nat → Prop) (σ : Nat → Nat) (f : Nat → Nat) : Prop:=∀ k,R (f k) ∧ G.E (f k) (f (k + 1)) ∧ (G.own (f k) = i → f (k + 1) = σ (f k))
def oI (G : Gm) (f : Nat → Nat) (p : Int) : Prop:=(∀ k,G.prio (f k) ≤ p) ∧ ∀ M,∃ k,M ≤ k ∧ G.prio (f k) = p
def wY (G : Gm) (i : Int) (R : Nat → Prop) (σ : Nat → Nat) : Prop:=∀ f p,oH G i R σ f → oI G f p → p % 2 = i
structure DomBy (G : Gm) (i : Int) (S R : Nat → Prop) (σ : Nat → Nat) : Prop where
 sub : ∀ v,R v → S v
 mine : ∀ v,R v → G.own v = i → G.E v (σ v) ∧ R (σ v)
 yours : ∀ v u,R v → G.own v ≠ i → G.E v u → S u → R u
 wins : wY G i R σ
def Dom (G : Gm) (i : Int) (S R : Nat → Prop) : Prop:=∃ σ,DomBy G i S R σ
theorem oH.shift {i : Int} {R : Nat → Prop} {σ f : Nat → Nat} (h : oH G i R σ f) (m : Nat) : oH G i R σ (fun k=>f (m + k)):=fun k=>h (m + k)
theorem oI.shift {f : Nat → Nat} {p : Int} (h : oI G f p) (m : Nat) : oI G (fun k=>f (m + k)) p :=
 ⟨fun k=>h.1 (m + k),fun M=>let ⟨k,hk,e⟩:=h.2 (m + M);⟨k - m,by omega,by simp only;rw [show m + (k - m) = k by omega];exact e⟩⟩
theorem rP (f : Nat → Nat) : ∃ m p,oI G (fun k=>f (m + k)) p:=by
 obtain ⟨B,hB⟩:=G.bnd
 have key : ∀ B : Nat,∀ m,(∀ k,G.prio (f (m + k)) ≤ B) → ∃ m p,oI G (fun k=>f (m + k)) p:=by
  intro B
  induction B with
  | zero =>
    intro m h
    refine ⟨m,0,h,fun M=>⟨M,Nat.le_refl _,?_⟩⟩
    have:=h M;have:=G.nn (f (m + M));simp only at *;omega
  | succ B ih =>
    intro m h
    by_cases hc : ∀ M,∃ k,M ≤ k ∧ G.prio (f (m + k)) = ((B + 1 : Nat) : Int)
    · exact ⟨m,_,h,hc⟩
    · obtain ⟨M,hM⟩:=Classical.not_forall.1 hc
      refine ih (m + M) fun k=>?_
      have h1:=h (M + k)
      have h2 : ¬ G.prio (f (m + (M + k))) = ((B + 1 : Nat) : Int):=fun e=>hM ⟨M + k,by omega,e⟩
      rw [show m + M + k = m + (M + k) by omega]
      omega
 exact key B 0 fun k=>hB _
theorem oJ {i j : Int} {S R R' : Nat → Prop} (hi : i = 0 ∨ i = 1) (hj : j = 1 - i) (h : Dom G i S R) (h' : Dom G j S R') (v : Nat) (hv : R v) (hv' : R' v) : False:=by
 obtain ⟨σ,d⟩:=h
 obtain ⟨τ,d'⟩:=h'
 let st : Nat → Nat:=fun v=>@ite _ (G.own v = i) (Classical.propDecidable _) (σ v) (τ v)
 let f : Nat → Nat:=fun k=>Nat.rec v (fun _ x=>st x) k
 have hf : ∀ k,R (f k) ∧ R' (f k):=by
  intro k
  induction k with
  | zero => exact ⟨hv, hv'⟩
  | succ k ih =>
    obtain ⟨a,b⟩:=ih
    show R (st (f k)) ∧ R' (st (f k))
    simp only [st]
    by_cases ho : G.own (f k) = i
    · rw [if_pos ho]
      obtain ⟨e,r⟩:=d.mine _ a ho
      exact ⟨r,d'.yours _ _ b (by omega) e (d.sub _ r)⟩
    · rw [if_neg ho]
      obtain ⟨e,r⟩:=d'.mine _ b (by have:=G.own01 (f k);omega)
      exact ⟨d.yours _ _ a ho e (d'.sub _ r),r⟩
 have hE : ∀ k,G.E (f k) (f (k + 1)):=by
  intro k
  obtain ⟨a,b⟩:=hf k
  show G.E (f k) (st (f k))
  simp only [st]
  by_cases ho : G.own (f k) = i
  · rw [if_pos ho];exact (d.mine _ a ho).1
  · rw [if_neg ho];exact (d'.mine _ b (by have:=G.own01 (f k);omega)).1
 have p1 : oH G i R σ f:=fun k=>⟨(hf k).1,hE k,fun ho=>by show st (f k) = _;simp only [st];rw [if_pos ho]⟩
 have p2 : oH G j R' τ f:=fun k=>⟨(hf k).2,hE k,fun ho=>by show st (f k) = _;simp only [st];rw [if_neg (by omega)]⟩
 obtain ⟨m,p,ht⟩:=rP (G:=G) f
 have e1:=d.wins _ _ (p1.shift m) ht
 have e2:=d'.wins _ _ (p2.shift m) ht
 omega
structure Split (G : Gm) (S A B : Nat → Prop) : Prop where
 zero : Dom G 0 S A
 one : Dom G 1 S B
 all : ∀ v,S v → A v ∨ B v
theorem Split.not {S A B : Nat → Prop} (h : Split G S A B) (v : Nat) (ha : A v) (hb : B v) : False:=oJ (Or.inl rfl) (by omega) h.zero h.one v ha hb
def eD (G : Gm) (i : Int) (S A B : Nat → Prop) : Prop:=Dom G i S A ∧ Dom G (1 - i) S B ∧ ∀ v,S v → A v ∨ B v
theorem eD.split {S A B : Nat → Prop} (h : eD G 0 S A B) : Split G S A B:=⟨h.1,h.2.1,h.2.2⟩
theorem eD.split1 {S A B : Nat → Prop} (h : eD G 1 S A B) : Split G S B A:=⟨h.2.1,h.1,fun v hv=>(h.2.2 v hv).symm⟩
end PG
end Go.Proofs.Ytlodllmpndflcaa
namespace Go.Proofs.Ytlodllmpndflcaa
set_option linter.unusedVariables false
set_option linter.unusedSimpArgs false
open Go.RowKit
noncomputable def num (p : Nat → Prop) : Nat → Nat
 | 0 => 0
 | k + 1 => num p k + @ite _ (p k) (Classical.propDecidable _) 1 0
theorem eY {p : Nat → Prop} {k : Nat} (h : p k) : num p (k + 1) = num p k + 1:=by show num p k + _ = _;rw [if_pos h]
theorem f6 {p : Nat → Prop} {k : Nat} (h : ¬ p k) : num p (k + 1) = num p k:=by show num p k + _ = _;rw [if_neg h];rfl
theorem jX {p q : Nat → Prop} : ∀ {k : Nat},(∀ t,t < k → (p t ↔ q t)) → num p k = num q k:=by
 intro k
 induction k with
 | zero => intro _; rfl
 | succ k ih =>
   intro h
   by_cases hp : p k
   · rw [eY hp,eY ((h k (by omega)).1 hp),ih fun t ht=>h t (by omega)]
   · rw [f6 hp,f6 (fun hq=>hp ((h k (by omega)).2 hq)),ih fun t ht=>h t (by omega)]
theorem lG {p : Nat → Prop} : ∀ {k : Nat},num p k = 0 ↔ ∀ t,t < k → ¬ p t:=by
 intro k
 induction k with
 | zero => exact ⟨fun _ t h => by omega, fun _ => rfl⟩
 | succ k ih =>
   by_cases hp : p k
   · rw [eY hp]
     exact ⟨fun h=>by omega,fun h=>absurd hp (h k (by omega))⟩
   · rw [f6 hp,ih]
     refine ⟨fun h t ht=>?_,fun h t ht=>h t (by omega)⟩
     rcases Nat.lt_or_ge t k with h'|h'
     · exact h t h'
     · have : t = k:=by omega
       subst this;exact hp
theorem tu {p : Nat → Prop} : ∀ {k : Nat},num p k ≤ k:=by
 intro k
 induction k with
 | zero => exact Nat.le_refl _
 | succ k ih =>
   by_cases hp : p k
   · rw [eY hp];omega
   · rw [f6 hp];omega
theorem qj {p q : Nat → Prop} {t0 : Nat} : ∀ {k : Nat},t0 < k → p t0 → (∀ t,t < k → (q t ↔ p t ∧ t ≠ t0)) → num p k = num q k + 1:=by
 intro k
 induction k with
 | zero => intro h; omega
 | succ k ih =>
   intro h hp hq
   by_cases e : t0 = k
   · subst e
     rw [eY hp,f6 (fun h'=>((hq _ (by omega)).1 h').2 rfl),jX (p:=p) (q:=q) fun t ht=>⟨fun h1=>(hq t (by omega)).2 ⟨h1,by omega⟩,fun h1=>((hq t (by omega)).1 h1).1⟩]
   · have:=ih (by omega) hp fun t ht=>hq t (by omega)
     by_cases hk : p k
     · rw [eY hk,eY ((hq k (by omega)).2 ⟨hk,fun e'=>e e'.symm⟩),this]
     · rw [f6 hk,f6 (fun h'=>hk ((hq k (by omega)).1 h').1),this]
theorem g7 {q : List Int} {x : Int} {j : Nat} (h : j < q.length) : gi (q ++ [x]) j = gi q j:=by simp [gi,List.getD_eq_getElem?_getD,List.getElem?_append_left h]
theorem lH (q : List Int) (x : Int) : gi (q ++ [x]) q.length = x:=by simp [gi,List.getD_eq_getElem?_getD]
structure Gr (G : PG.Gm) (n : Nat) (row prv : Nat → List Int) (ok : Nat → Nat → Prop) : Prop where
 edge : ∀ v u,G.E v u ↔ v < n ∧ u < n ∧ ok v u ∧ ∃ t,t < (row v).length ∧ gi (row v) t = (u : Int)
 uniq : ∀ v s t,v < n → s < (row v).length → t < (row v).length → gi (row v) s = gi (row v) t → s = t
 rng : ∀ v t,v < n → t < (row v).length → 0 ≤ gi (row v) t ∧ gi (row v) t < n
 pv : ∀ u v : Nat,u < n → ((∃ t,t < (prv u).length ∧ gi (prv u) t = (v : Int)) ↔ v < n ∧ ∃ t,t < (row v).length ∧ gi (row v) t = (u : Int))
 puniq : ∀ u s t,u < n → s < (prv u).length → t < (prv u).length → gi (prv u) s = gi (prv u) t → s = t
 prng : ∀ u t,u < n → t < (prv u).length → 0 ≤ gi (prv u) t ∧ gi (prv u) t < n
def Dn (G : PG.Gm) (prv : Nat → List Int) (q : List Int) (i k : Nat) (v u : Nat) : Prop :=
 G.E v u ∧ ((∃ j,j < i ∧ j < q.length ∧ gi q j = (u : Int)) ∨ (i < q.length ∧ gi q i = (u : Int) ∧ ∃ t,t < k ∧ t < (prv u).length ∧ gi (prv u) t = (v : Int)))
noncomputable def rem (row : Nat → List Int) (ok : Nat → Nat → Prop) (S : Nat → Prop) (D : Nat → Nat → Prop) (v : Nat) : Nat :=
 num (fun t=>(S (gi (row v) t).toNat ∧ ok v (gi (row v) t).toNat) ∧ ¬ D v (gi (row v) t).toNat) (row v).length
section
variable {G : PG.Gm} {n : Nat} {row prv : Nat → List Int} {ok : Nat → Nat → Prop} {who : Int} {S T : Nat → Prop} {lz : Bool}
structure AInv (G : PG.Gm) (n : Nat) (row prv : Nat → List Int) (ok : Nat → Nat → Prop) (who : Int) (S T : Nat → Prop) (lz : Bool) (q : List Int) (i k : Nat) (out : List Bool) (left : List Int) : Prop where
 ol : out.length = n
 ll : left.length = n
 qn : q.length = num (fun v=>gb out v = true) n
 qr : ∀ j,j < q.length → 0 ≤ gi q j ∧ gi q j < n ∧ gb out (gi q j).toNat = true
 qu : ∀ a b,a < q.length → b < q.length → gi q a = gi q b → a = b
 qo : ∀ v,v < n → gb out v = true → ∃ j,j < q.length ∧ gi q j = (v : Int)
 ga : ∀ v,v < n → gb out v = true → PG.Attr G who S T v
 go : ∀ v,v < n → S v → T v → gb out v = true
 mi : ∀ v u,S v → gb out v = false → G.own v = who → ¬ Dn G prv q i k v u
 yo : ∀ v,S v → gb out v = false → G.own v ≠ who → 1 ≤ rem row ok S (Dn G prv q i k) v ∧ (gi left v = rem row ok S (Dn G prv q i k) v ∨ (lz = true ∧ gi left v = 0 ∧ ∀ u,¬ Dn G prv q i k v u))
theorem nz {q : List Int} {i k u w : Nat} (hi : i < q.length) (hu : gi q i = (u : Int)) (hk : k < (prv u).length) (hw : gi (prv u) k = (w : Int)) (v' u' : Nat) : Dn G prv q i (k + 1) v' u' ↔ Dn G prv q i k v' u' ∨ (v' = w ∧ u' = u ∧ G.E w u):=by
 unfold Dn
 constructor
 · rintro ⟨hE,h|⟨h1,h2,t,h3,h4,h5⟩⟩
   · exact .inl ⟨hE,.inl h⟩
   · rcases Nat.lt_or_ge t k with h|h
     · exact .inl ⟨hE,.inr ⟨h1,h2,t,h,h4,h5⟩⟩
     · have e : t = k:=by omega
       have e2 : u' = u:=by omega
       subst e e2
       have e3 : v' = w:=by omega
       subst e3
       exact .inr ⟨rfl,rfl,hE⟩
 · rintro (⟨hE,h|⟨h1,h2,t,h3,h4⟩⟩|⟨rfl,rfl,hE⟩)
   · exact ⟨hE,.inl h⟩
   · exact ⟨hE,.inr ⟨h1,h2,t,by omega,h4⟩⟩
   · exact ⟨hE,.inr ⟨hi,hu,k,by omega,hk,hw⟩⟩
theorem tv (hG : Gr G n row prv ok) {q : List Int} {i u : Nat} (hi : i < q.length) (hu : gi q i = (u : Int)) (v' u' : Nat) : Dn G prv q (i + 1) 0 v' u' ↔ Dn G prv q i (prv u).length v' u':=by
 unfold Dn
 constructor
 · rintro ⟨hE,⟨j,h1,h2,h3⟩|⟨_,_,t,h,_⟩⟩
   · rcases Nat.lt_or_ge j i with h|h
     · exact ⟨hE,.inl ⟨j,h,h2,h3⟩⟩
     · have e : j = i:=by omega
       subst e
       have e2 : u' = u:=by omega
       subst e2
       obtain ⟨a,b,c,d⟩:=(hG.edge v' u').1 hE
       obtain ⟨t,t1,t2⟩:=(hG.pv u' v' b).2 ⟨a,d⟩
       exact ⟨hE,.inr ⟨h2,h3,t,t1,t1,t2⟩⟩
   · omega
 · rintro ⟨hE,⟨j,h1,h2,h3⟩|⟨h1,h2,h3⟩⟩
   · exact ⟨hE,.inl ⟨j,by omega,h2,h3⟩⟩
   · exact ⟨hE,.inl ⟨i,by omega,h1,h2⟩⟩
theorem g8 {D D' : Nat → Nat → Prop} {v : Nat} (h : ∀ u,D v u ↔ D' v u) : rem row ok S D v = rem row ok S D' v :=
 jX fun t _=>and_congr Iff.rfl (not_congr (h _))
theorem AInv.cast {q : List Int} {i k i' k' : Nat} {out : List Bool} {left : List Int} (h : AInv G n row prv ok who S T lz q i k out left) (hD : ∀ v u,Dn G prv q i' k' v u ↔ Dn G prv q i k v u) : AInv G n row prv ok who S T lz q i' k' out left :=
 ⟨h.ol,h.ll,h.qn,h.qr,h.qu,h.qo,h.ga,h.go,fun v u a b c d=>h.mi v u a b c ((hD v u).1 d),fun v a b c=>by
  obtain ⟨h1,h2⟩:=h.yo v a b c
  rw [g8 (hD v)]
  exact ⟨h1,h2.imp id fun ⟨x,y,z⟩=>⟨x,y,fun u hu=>z u ((hD v u).1 hu)⟩⟩⟩
theorem AInv.next (hG : Gr G n row prv ok) {q : List Int} {i u : Nat} {out : List Bool} {left : List Int} (hi : i < q.length) (hu : gi q i = (u : Int)) (h : AInv G n row prv ok who S T lz q i (prv u).length out left) : AInv G n row prv ok who S T lz q (i + 1) 0 out left :=
 h.cast (tv hG hi hu)
theorem AInv.skip {q : List Int} {i k u w : Nat} {out : List Bool} {left : List Int} (hi : i < q.length) (hu : gi q i = (u : Int)) (hk : k < (prv u).length) (hw : gi (prv u) k = (w : Int)) (h : AInv G n row prv ok who S T lz q i k out left) (hs : ¬ S w ∨ gb out w = true ∨ ¬ G.E w u) :
  AInv G n row prv ok who S T lz q i (k + 1) out left:=by
 have key : ∀ v,S v → gb out v = false → ∀ u',Dn G prv q i (k + 1) v u' ↔ Dn G prv q i k v u':=fun v hS ho u'=>by
  rw [nz hi hu hk hw]
  refine ⟨fun h=>h.elim id fun ⟨a,b,c⟩=>?_,.inl⟩
  subst a
  rcases hs with h|h|h
  · exact absurd hS h
  · rw [ho] at h;cases h
  · exact absurd c h
 refine ⟨h.ol,h.ll,h.qn,h.qr,h.qu,h.qo,h.ga,h.go,fun v u' a b c d=>h.mi v u' a b c ((key v a b u').1 d),fun v a b c=>?_⟩
 obtain ⟨h1,h2⟩:=h.yo v a b c
 rw [g8 (key v a b)]
 exact ⟨h1,h2.imp id fun ⟨x,y,z⟩=>⟨x,y,fun u hu=>z u ((key v a b u).1 hu)⟩⟩
theorem AInv.keep (hG : Gr G n row prv ok) {q : List Int} {i k u w : Nat} {out : List Bool} {left : List Int} (hi : i < q.length) (hu : gi q i = (u : Int)) (hk : k < (prv u).length) (hw : gi (prv u) k = (w : Int)) (hwn : w < n) (h : AInv G n row prv ok who S T lz q i k out left) (how : G.own w ≠ who)
  (hr : 1 ≤ rem row ok S (Dn G prv q i (k + 1)) w) : AInv G n row prv ok who S T lz q i (k + 1) out (left.set w (rem row ok S (Dn G prv q i (k + 1)) w)):=by
 have hlt : w < left.length:=by rw [h.ll];exact hwn
 have key : ∀ v,v ≠ w → ∀ u',Dn G prv q i (k + 1) v u' ↔ Dn G prv q i k v u':=fun v hv u'=>by
  rw [nz hi hu hk hw]
  exact ⟨fun h=>h.elim id fun ⟨a,_⟩=>absurd a hv,.inl⟩
 refine ⟨h.ol,by rw [List.length_set];exact h.ll,h.qn,h.qr,h.qu,h.qo,h.ga,h.go,fun v u' a b c d=>?_,fun v a b c=>?_⟩
 · exact h.mi v u' a b c ((key v (fun e=>how (by rw [← e];exact c)) u').1 d)
 · rw [pf hlt]
   by_cases e : v = w
   · subst e;rw [if_pos rfl];exact ⟨hr,.inl rfl⟩
   · rw [if_neg e,g8 (key v e)]
     obtain ⟨h3,h4⟩:=h.yo v a b c
     exact ⟨h3,h4.imp id fun ⟨x,y,z⟩=>⟨x,y,fun u hu=>z u ((key v e u).1 hu)⟩⟩
theorem AInv.done (hG : Gr G n row prv ok) (hSn : ∀ v,S v → v < n) {q : List Int} {i : Nat} {out : List Bool} {left : List Int} (h : AInv G n row prv ok who S T lz q i 0 out left) (hi : q.length ≤ i) : ∀ v,v < n → (gb out v = true ↔ PG.Attr G who S T v):=by
 have hall : ∀ v u,G.E v u → gb out u = true → Dn G prv q i 0 v u:=fun v u hE ho=>by
  obtain ⟨j,h1,h2⟩:=h.qo u ((hG.edge v u).1 hE).2.1 ho
  exact ⟨hE,.inl ⟨j,by omega,h1,h2⟩⟩
 have hb : ∀ v,¬ gb out v = true → gb out v = false:=fun v hv=>by cases hq : gb out v <;> simp_all
 intro v hv
 refine ⟨h.ga v hv,fun ha=>?_⟩
 refine PG.attr_least (X:=fun v=>gb out v = true) (fun v a b=>h.go v (hSn v a) a b) (fun v u a b c d=>?_) (fun v a b c d=>?_) v ha
 · exact Classical.byContradiction fun hn=>h.mi v u a (hb v hn) b (hall v u c d)
 · refine Classical.byContradiction fun hn=>?_
   have h1:=(h.yo v a (hb v hn) b).1
   have h2 : rem row ok S (Dn G prv q i 0) v = 0:=lG.2 fun t ht ⟨⟨x,y⟩,z⟩=>by
    have hvn:=hSn v a
    obtain ⟨r0,r1⟩:=hG.rng v t hvn ht
    have hE : G.E v (gi (row v) t).toNat:=(hG.edge _ _).2 ⟨hvn,by omega,y,t,ht,by omega⟩
    exact z (hall v _ hE (d _ hE x))
   omega
end
end Go.Proofs.Ytlodllmpndflcaa
namespace Go.Proofs.Ytlodllmpndflcaa
set_option linter.unusedVariables false
set_option linter.unusedSimpArgs false
open Go.RowKit
namespace PG
variable {G : PG.Gm} {n : Nat}
theorem eD.ex {S A B : Nat → Prop} {i : Int} (hi : i = 0 ∨ i = 1) (h : eD G i S A B) : ∃ A' B',Split G S A' B':=by
 rcases hi with rfl|rfl
 · exact ⟨_,_,h.split⟩
 · exact ⟨_,_,h.split1⟩
end PG
end Go.Proofs.Ytlodllmpndflcaa
