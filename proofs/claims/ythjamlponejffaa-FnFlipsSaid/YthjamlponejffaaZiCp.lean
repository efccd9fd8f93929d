/-
  Parity games in plain words: attraction, dominions (a region that a player wins by a strategy of single moves), and who wins: two dominions of different players are apart; the recursive solver's step.
-/
import Derived.Test.YthjamlponejffaaZiCa
namespace Go.Proofs.Ythjamlponejffaa
set_option linter.unusedVariables false
set_option linter.unusedSimpArgs false
namespace PG
structure Gm where
 own : Nat → Int
 prio : Nat → Int
 E : Nat → Nat → Prop
 own01 : ∀ v,own v = 0 ∨ own v = 1
 bnd : ∃ B : Nat,∀ v,prio v ≤ B
 nn : ∀ v,0 ≤ prio v
variable {G : Gm}
def Total (G : Gm) (S : Nat → Prop) : Prop:=∀ v,S v → ∃ u,G.E v u ∧ S u
def Diff (S T : Nat → Prop) (v : Nat) : Prop:=S v ∧ ¬ T v
def dk (G : Gm) (who : Int) (S T : Nat → Prop) : Nat → Nat → Prop
 | 0, v => S v ∧ T v
 | k + 1, v => dk G who S T k v ∨ (S v ∧ G.own v = who ∧ ∃ u, G.E v u ∧ dk G who S T k u) ∨ (S v ∧ G.own v ≠ who ∧ (∃ u, G.E v u ∧ S u) ∧ ∀ u, G.E v u → S u → dk G who S T k u)
def Attr (G : Gm) (who : Int) (S T : Nat → Prop) (v : Nat) : Prop:=∃ k,dk G who S T k v
theorem mf {who : Int} {S T : Nat → Prop} {k v : Nat} (h : dk G who S T k v) : dk G who S T (k + 1) v:=Or.inl h
theorem mg {who : Int} {S T : Nat → Prop} {j k v : Nat} (hjk : j ≤ k) (h : dk G who S T j v) : dk G who S T k v:=by
 induction k with
 | zero => have : j = 0 := by omega
           subst this;exact h
 | succ k ih =>
   by_cases e : j = k + 1
   · subst e;exact h
   · exact mf (ih (by omega))
theorem pn {who : Int} {S T : Nat → Prop} : ∀ {k v : Nat},dk G who S T k v → S v:=by
 intro k
 induction k with
 | zero => intro v h; exact h.1
 | succ k ih =>
   intro v h
   rcases h with h|h|h
   · exact ih h
   · exact h.1
   · exact h.1
theorem attr_in {who : Int} {S T : Nat → Prop} {v : Nat} (h : Attr G who S T v) : S v:=let ⟨_,h⟩:=h;pn h
theorem attr_goal {who : Int} {S T : Nat → Prop} {v : Nat} (h1 : S v) (h2 : T v) : Attr G who S T v:=⟨0,h1,h2⟩
theorem attr_mine {who : Int} {S T : Nat → Prop} {v u : Nat} (h1 : S v) (h2 : G.own v = who) (h3 : G.E v u) (h4 : Attr G who S T u) : Attr G who S T v :=
 let ⟨k,h⟩:=h4;⟨k + 1,Or.inr (Or.inl ⟨h1,h2,u,h3,h⟩)⟩
theorem nQ {n : Nat} {Q : Nat → Prop} {A : Nat → Nat → Prop} (hm : ∀ j k v,j ≤ k → A j v → A k v) (h : ∀ v,Q v → v < n → ∃ k,A k v) : ∃ k,∀ v,Q v → v < n → A k v:=by
 induction n with
 | zero => exact ⟨0, fun v _ h => by omega⟩
 | succ n ih =>
   obtain ⟨k,hk⟩:=ih fun v hv hn=>h v hv (by omega)
   by_cases hq : Q n
   · obtain ⟨j,hj⟩:=h n hq (by omega)
     refine ⟨j + k,fun v hv hn=>?_⟩
     by_cases e : v = n
     · subst e;exact hm _ _ _ (by omega) hj
     · exact hm _ _ _ (by omega) (hk v hv (by omega))
   · refine ⟨k,fun v hv hn=>?_⟩
     by_cases e : v = n
     · subst e;exact absurd hv hq
     · exact hk v hv (by omega)
def Fin (G : Gm) (n : Nat) : Prop:=∀ v u,G.E v u → u < n
theorem attr_yours {who : Int} {S T : Nat → Prop} {n v : Nat} (hf : Fin G n) (h1 : S v) (h2 : G.own v ≠ who) (h3 : ∃ u,G.E v u ∧ S u) (h4 : ∀ u,G.E v u → S u → Attr G who S T u) : Attr G who S T v:=by
 obtain ⟨k,hk⟩:=nQ (n:=n) (Q:=fun u=>G.E v u ∧ S u) (A:=fun k u=>dk G who S T k u) (fun j k v h h'=>mg h h') (fun u hu _=>h4 u hu.1 hu.2)
 exact ⟨k + 1,Or.inr (Or.inr ⟨h1,h2,h3,fun u hu hs=>hk u ⟨hu,hs⟩ (hf v u hu)⟩)⟩
theorem attr_least {who : Int} {S T X : Nat → Prop} (h0 : ∀ v,S v → T v → X v) (h1 : ∀ v u,S v → G.own v = who → G.E v u → X u → X v)
  (h2 : ∀ v,S v → G.own v ≠ who → (∃ u,G.E v u ∧ S u) → (∀ u,G.E v u → S u → X u) → X v) : ∀ v,Attr G who S T v → X v:=by
 rintro v ⟨k,hk⟩
 induction k generalizing v with
 | zero => exact h0 v hk.1 hk.2
 | succ k ih =>
   rcases hk with h|⟨a,b,u,c,d⟩|⟨a,b,c,d⟩
   · exact ih v h
   · exact h1 v u a b c (ih u d)
   · exact h2 v a b c fun u hu hs=>ih u (d u hu hs)
theorem total_diff {who : Int} {S T : Nat → Prop} {n : Nat} (hf : Fin G n) (h : Total G S) : Total G (Diff S (Attr G who S T)):=by
 rintro v ⟨hv,ha⟩
 by_cases ho : G.own v = who
 · obtain ⟨u,hu,hs⟩:=h v hv
   exact ⟨u,hu,hs,fun hx=>ha (attr_mine hv ho hu hx)⟩
 · refine Classical.byContradiction fun hno=>ha (attr_yours hf hv ho (h v hv) fun u hu hs=>?_)
   refine Classical.byContradiction fun hx=>hno ⟨u,hu,hs,hx⟩
def Play (G : Gm) (i : Int) (R : Nat → Prop) (σ : Nat → Nat) (f : Nat → Nat) : Prop:=∀ k,R (f k) ∧ G.E (f k) (f (k + 1)) ∧ (G.own (f k) = i → f (k + 1) = σ (f k))
def nR (G : Gm) (f : Nat → Nat) (p : Int) : Prop:=(∀ k,G.prio (f k) ≤ p) ∧ ∀ M,∃ k,M ≤ k ∧ G.prio (f k) = p
def uY (G : Gm) (i : Int) (R : Nat → Prop) (σ : Nat → Nat) : Prop:=∀ f p,Play G i R σ f → nR G f p → p % 2 = i
structure DomBy (G : Gm) (i : Int) (S R : Nat → Prop) (σ : Nat → Nat) : Prop where
 sub : ∀ v,R v → S v
 mine : ∀ v,R v → G.own v = i → G.E v (σ v) ∧ R (σ v)
 yours : ∀ v u,R v → G.own v ≠ i → G.E v u → S u → R u
 wins : uY G i R σ
def Dom (G : Gm) (i : Int) (S R : Nat → Prop) : Prop:=∃ σ,DomBy G i S R σ
theorem Play.shift {i : Int} {R : Nat → Prop} {σ f : Nat → Nat} (h : Play G i R σ f) (m : Nat) : Play G i R σ (fun k=>f (m + k)):=fun k=>h (m + k)
theorem nR.shift {f : Nat → Nat} {p : Int} (h : nR G f p) (m : Nat) : nR G (fun k=>f (m + k)) p :=
 ⟨fun k=>h.1 (m + k),fun M=>let ⟨k,hk,e⟩:=h.2 (m + M);⟨k - m,by omega,by simp only;rw [show m + (k - m) = k by omega];exact e⟩⟩
theorem tops_ex (f : Nat → Nat) : ∃ m p,nR G (fun k=>f (m + k)) p:=by
 obtain ⟨B,hB⟩:=G.bnd
 have key : ∀ B : Nat,∀ m,(∀ k,G.prio (f (m + k)) ≤ B) → ∃ m p,nR G (fun k=>f (m + k)) p:=by
  intro B
  induction B with
  | zero =>
    intro m h
    refine ⟨m,0,h,fun M=>⟨M,Nat.le_refl _,?_⟩⟩
    have:=h M;have:=G.nn (f (m + M));simp only at *;omega
  | succ B ih =>
    intro m h
    by_cases hc : ∀ M,∃ k,M ≤ k ∧ G.prio (f (m + k)) = ((B + 1 : Nat) : Int)
    · exact ⟨m,_,h,hc⟩
    · obtain ⟨M,hM⟩:=Classical.not_forall.1 hc
      refine ih (m + M) fun k=>?_
      have h1:=h (M + k)
      have h2 : ¬ G.prio (f (m + (M + k))) = ((B + 1 : Nat) : Int):=fun e=>hM ⟨M + k,by omega,e⟩
      rw [show m + M + k = m + (M + k) by omega]
      omega
 exact key B 0 fun k=>hB _
theorem dom_apart {i j : Int} {S R R' : Nat → Prop} (hi : i = 0 ∨ i = 1) (hj : j = 1 - i) (h : Dom G i S R) (h' : Dom G j S R') (v : Nat) (hv : R v) (hv' : R' v) : False:=by
 obtain ⟨σ,d⟩:=h
 obtain ⟨τ,d'⟩:=h'
 let st : Nat → Nat:=fun v=>@ite _ (G.own v = i) (Classical.propDecidable _) (σ v) (τ v)
 let f : Nat → Nat:=fun k=>Nat.rec v (fun _ x=>st x) k
 have hf : ∀ k,R (f k) ∧ R' (f k):=by
  intro k
  induction k with
  | zero => exact ⟨hv, hv'⟩
  | succ k ih =>
    obtain ⟨a,b⟩:=ih
    show R (st (f k)) ∧ R' (st (f k))
    simp only [st]
    by_cases ho : G.own (f k) = i
    · rw [if_pos ho]
      obtain ⟨e,r⟩:=d.mine _ a ho
      exact ⟨r,d'.yours _ _ b (by omega) e (d.sub _ r)⟩
    · rw [if_neg ho]
      obtain ⟨e,r⟩:=d'.mine _ b (by have:=G.own01 (f k);omega)
      exact ⟨d.yours _ _ a ho e (d'.sub _ r),r⟩
 have hE : ∀ k,G.E (f k) (f (k + 1)):=by
  intro k
  obtain ⟨a,b⟩:=hf k
  show G.E (f k) (st (f k))
  simp only [st]
  by_cases ho : G.own (f k) = i
  · rw [if_pos ho];exact (d.mine _ a ho).1
  · rw [if_neg ho];exact (d'.mine _ b (by have:=G.own01 (f k);omega)).1
 have p1 : Play G i R σ f:=fun k=>⟨(hf k).1,hE k,fun ho=>by show st (f k) = _;simp only [st];rw [if_pos ho]⟩
 have p2 : Play G j R' τ f:=fun k=>⟨(hf k).2,hE k,fun ho=>by show st (f k) = _;simp only [st];rw [if_neg (by omega)]⟩
 obtain ⟨m,p,ht⟩:=tops_ex (G:=G) f
 have e1:=d.wins _ _ (p1.shift m) ht
 have e2:=d'.wins _ _ (p2.shift m) ht
 omega
theorem eJ (i : Int) (S : Nat → Prop) : Dom G i S (fun _=>False) :=
 ⟨fun v=>v,fun _ h=>h.elim,fun _ h=>h.elim,fun _ _ h=>h.elim,fun _ _ h _=>(h 0).1.elim⟩
noncomputable def sel (D : Nat → Prop) (τ σ : Nat → Nat) (v : Nat) : Nat:=@ite _ (D v) (Classical.propDecidable _) (τ v) (σ v)
theorem dJ {D : Nat → Prop} {τ σ : Nat → Nat} {v : Nat} (h : D v) : sel D τ σ v = τ v:=if_pos h
theorem ef {D : Nat → Prop} {τ σ : Nat → Nat} {v : Nat} (h : ¬ D v) : sel D τ σ v = σ v:=if_neg h
theorem po {i : Int} {S D Y : Nat → Prop} (h : Dom G i (Diff S D) Y) (hc : ∀ v u,Y v → G.own v ≠ i → G.E v u → S u → ¬ D u) : Dom G i S Y:=by
 obtain ⟨σ,d⟩:=h
 exact ⟨σ,fun v hv=>(d.sub v hv).1,d.mine,fun v u hv ho he hs=>d.yours v u hv ho he ⟨hs,hc v u hv ho he hs⟩,d.wins⟩
theorem nS {j : Int} {S D X : Nat → Prop} (hX : Dom G j (Diff S D) X) (hD : Dom G j S D) : Dom G j S (fun v=>X v ∨ D v):=by
 obtain ⟨σ,d⟩:=hX
 obtain ⟨τ,e⟩:=hD
 refine ⟨sel D τ σ,?_,?_,?_,?_⟩
 · rintro v (h|h)
   · exact (d.sub v h).1
   · exact e.sub v h
 · intro v hv ho
   by_cases hd : D v
   · rw [dJ hd];exact ⟨(e.mine v hd ho).1,Or.inr (e.mine v hd ho).2⟩
   · rw [ef hd]
     have hx : X v:=hv.resolve_right hd
     exact ⟨(d.mine v hx ho).1,Or.inl (d.mine v hx ho).2⟩
 · intro v u hv ho he hs
   by_cases hd : D v
   · exact Or.inr (e.yours v u hd ho he hs)
   · by_cases hu : D u
     · exact Or.inr hu
     · exact Or.inl (d.yours v u (hv.resolve_right hd) ho he ⟨hs,hu⟩)
 · intro f p hp ht
   by_cases hx : ∃ m,D (f m)
   · obtain ⟨m,hm⟩:=hx
     have hall : ∀ k,D (f (m + k)):=by
      intro k
      induction k with
      | zero => exact hm
      | succ k ih =>
        obtain ⟨a,b,c⟩:=hp (m + k)
        by_cases ho : G.own (f (m + k)) = j
        · have:=c ho
          rw [dJ ih] at this
          rw [show m + (k + 1) = m + k + 1 by omega,this]
          exact (e.mine _ ih ho).2
        · refine e.yours _ _ ih ho b ?_
          rcases (hp (m + k + 1)).1 with h|h
          · exact (d.sub _ h).1
          · exact e.sub _ h
     refine e.wins (fun k=>f (m + k)) p (fun k=>⟨hall k,(hp (m + k)).2.1,fun ho=>?_⟩) (ht.shift m)
     have:=(hp (m + k)).2.2 ho
     rw [dJ (hall k)] at this
     exact this
   · have hno : ∀ m,¬ D (f m):=fun m hm=>hx ⟨m,hm⟩
     refine d.wins f p (fun k=>⟨(hp k).1.resolve_right (hno k),(hp k).2.1,fun ho=>?_⟩) ht
     have:=(hp k).2.2 ho
     rw [ef (hno k)] at this
     exact this
theorem iL (who : Int) (S T : Nat → Prop) : ∃ (σ : Nat → Nat),(∀ v,Attr G who S T v → ¬ T v → G.own v = who → G.E v (σ v) ∧ Attr G who S T (σ v)) ∧
  ∀ f : Nat → Nat,(∀ k,S (f k)) → (∀ k,G.E (f k) (f (k + 1))) → (∀ k,Attr G who S T (f k) → ¬ T (f k) → G.own (f k) = who → f (k + 1) = σ (f k)) → Attr G who S T (f 0) → ∃ k,T (f k):=by

 have hmin : ∀ v,Attr G who S T v → ∃ k,dk G who S T k v ∧ ∀ j,j < k → ¬ dk G who S T j v:=by
  rintro v ⟨k,hk⟩
  induction k using Nat.strongRecOn with
  | _ k ih =>
    by_cases h : ∃ j,j < k ∧ dk G who S T j v
    · obtain ⟨j,hj,hv⟩:=h
      exact ih j hj hv
    · exact ⟨k,hk,fun j hj hv=>h ⟨j,hj,hv⟩⟩
 have hex : ∀ v,∃ u,∀ k,(dk G who S T (k + 1) v ∧ ∀ j,j < k + 1 → ¬ dk G who S T j v) → G.own v = who → G.E v u ∧ dk G who S T k u:=by
  intro v
  by_cases h : ∃ k,(dk G who S T (k + 1) v ∧ ∀ j,j < k + 1 → ¬ dk G who S T j v) ∧ G.own v = who
  · obtain ⟨k,⟨h1,h2⟩,ho⟩:=h
    rcases h1 with h1|⟨_,_,u,he,hu⟩|⟨_,hn,_⟩
    · exact absurd h1 (h2 k (by omega))
    · refine ⟨u,fun j hj _=>?_⟩
      have : j = k:=by
       refine Classical.byContradiction fun hne=>?_
       rcases Nat.lt_or_gt_of_ne hne with hl|hl
       · exact h2 (j + 1) (by omega) hj.1
       · exact hj.2 (k + 1) (by omega) (Or.inr (Or.inl ⟨‹_›,‹_›,u,he,hu⟩))
      subst this
      exact ⟨he,hu⟩
    · exact absurd ho hn
  · exact ⟨v,fun k hk ho=>absurd ⟨k,hk,ho⟩ h⟩
 refine ⟨fun v=>Classical.choose (hex v),?_,?_⟩
 · intro v hv ht ho
   obtain ⟨k,hk,hm⟩:=hmin v hv
   cases k with
   | zero => exact absurd hk.2 ht
   | succ k =>
     have:=Classical.choose_spec (hex v) k ⟨hk,hm⟩ ho
     exact ⟨this.1,k,this.2⟩
 · intro f hS hE hσ h0
   have key : ∀ k m,dk G who S T k (f m) → ∃ m,T (f m):=by
    intro k
    induction k using Nat.strongRecOn with
    | _ k ih =>
      intro m hk
      by_cases hT : T (f m)
      · exact ⟨m,hT⟩
      obtain ⟨j,hj,hm⟩:=hmin (f m) ⟨k,hk⟩
      have hjk : j ≤ k:=Nat.le_of_not_lt fun hl=>hm k hl hk
      cases j with
      | zero => exact absurd hj.2 hT
      | succ j =>
        by_cases ho : G.own (f m) = who
        · have h1:=Classical.choose_spec (hex (f m)) j ⟨hj,hm⟩ ho
          have h2 : f (m + 1) = Classical.choose (hex (f m)):=hσ m ⟨_,hj⟩ hT ho
          exact ih j (by omega) (m + 1) (by rw [h2];exact h1.2)
        · rcases hj with h1|⟨_,h1,_⟩|⟨_,_,_,h1⟩
          · exact absurd h1 (hm j (by omega))
          · exact absurd h1 ho
          · exact ih j (by omega) (m + 1) (h1 _ (hE m) (hS (m + 1)))
   obtain ⟨k,hk⟩:=h0
   exact key k 0 hk
theorem pp {j : Int} {S W : Nat → Prop} (h : Dom G j S W) : Dom G j S (Attr G j S W):=by
 obtain ⟨τ,d⟩:=h
 obtain ⟨σ,s1,s2⟩:=iL (G:=G) j S W
 refine ⟨sel W τ σ,fun v hv=>attr_in hv,?_,?_,?_⟩
 · intro v hv ho
   by_cases hw : W v
   · rw [dJ hw]
     have:=d.mine v hw ho
     exact ⟨this.1,attr_goal (d.sub _ this.2) this.2⟩
   · rw [ef hw];exact s1 v hv hw ho
 · rintro v u ⟨k,hk⟩ ho he hs
   by_cases hw : W v
   · exact attr_goal hs (d.yours v u hw ho he hs)
   · induction k with
     | zero => exact absurd hk.2 hw
     | succ k ih =>
       rcases hk with h|⟨_,h,_⟩|⟨_,_,_,h⟩
       · exact ih h
       · exact absurd h ho
       · exact ⟨k,h u he hs⟩
 · intro f p hp ht
   obtain ⟨m,hm⟩:=s2 f (fun k=>attr_in (hp k).1) (fun k=>(hp k).2.1) (fun k _ hn ho=>by have:=(hp k).2.2 ho;rwa [ef hn] at this) (hp 0).1
   have hall : ∀ k,W (f (m + k)):=by
    intro k
    induction k with
    | zero => exact hm
    | succ k ih =>
      obtain ⟨a,b,c⟩:=hp (m + k)
      by_cases ho : G.own (f (m + k)) = j
      · have:=c ho
        rw [dJ ih] at this
        rw [show m + (k + 1) = m + k + 1 by omega,this]
        exact (d.mine _ ih ho).2
      · exact d.yours _ _ ih ho b (attr_in (hp (m + k + 1)).1)
   refine d.wins (fun k=>f (m + k)) p (fun k=>⟨hall k,(hp (m + k)).2.1,fun ho=>?_⟩) (ht.shift m)
   have:=(hp (m + k)).2.2 ho
   rw [dJ (hall k)] at this
   exact this
theorem qM {i d : Int} {S T : Nat → Prop} (hd : d % 2 = i) (ht : Total G S) (hT : ∀ v,S v → T v → G.prio v = d) (hm : ∀ v,S v → G.prio v ≤ d)
  (h : Dom G i (Diff S (Attr G i S T)) (Diff S (Attr G i S T))) : Dom G i S S:=by
 obtain ⟨τ,e⟩:=h
 obtain ⟨σ,s1,s2⟩:=iL (G:=G) i S T
 have hsome : ∀ v,∃ u,S v → G.E v u ∧ S u:=fun v=>by
  by_cases hv : S v
  · obtain ⟨u,hu⟩:=ht v hv;exact ⟨u,fun _=>hu⟩
  · exact ⟨0,fun h=>absurd h hv⟩
 refine ⟨sel (Attr G i S T) (sel T (fun v=>Classical.choose (hsome v)) σ) τ,fun _ h=>h,?_,fun _ _ _ _ _ h=>h,?_⟩
 · intro v hv ho
   by_cases ha : Attr G i S T v
   · rw [dJ ha]
     by_cases hT' : T v
     · rw [dJ hT'];exact Classical.choose_spec (hsome v) hv
     · rw [ef hT'];exact ⟨(s1 v ha hT' ho).1,attr_in (s1 v ha hT' ho).2⟩
   · rw [ef ha]
     have:=e.mine v ⟨hv,ha⟩ ho
     exact ⟨this.1,this.2.1⟩
 · intro f p hp hto
   by_cases hx : ∃ m,Attr G i S T (f m)
   · obtain ⟨m,hm'⟩:=hx
     obtain ⟨k,hk⟩:=s2 (fun k=>f (m + k)) (fun k=>(hp (m + k)).1) (fun k=>(hp (m + k)).2.1) (fun k ha hn ho=>by have:=(hp (m + k)).2.2 ho;rwa [dJ ha,ef hn] at this) hm'
     have h1:=hT _ (hp (m + k)).1 hk
     have h2:=hto.1 (m + k)
     obtain ⟨q,_,hq⟩:=hto.2 0
     have h3:=hm _ (hp q).1
     have : p = d:=by omega
     rw [this];exact hd
   · refine e.wins f p (fun k=>⟨⟨(hp k).1,fun ha=>hx ⟨k,ha⟩⟩,(hp k).2.1,fun ho=>?_⟩) hto
     have:=(hp k).2.2 ho
     rwa [ef (fun ha=>hx ⟨k,ha⟩)] at this
def Won (G : Gm) (i : Int) (S : Nat → Prop) (v : Nat) : Prop:=∃ R,Dom G i S R ∧ R v
structure Split (G : Gm) (S A B : Nat → Prop) : Prop where
 zero : Dom G 0 S A
 one : Dom G 1 S B
 all : ∀ v,S v → A v ∨ B v
theorem Split.won0 {S A B : Nat → Prop} (h : Split G S A B) (v : Nat) : Won G 0 S v ↔ A v:=by
 refine ⟨fun ⟨R,d,hr⟩=>?_,fun ha=>⟨A,h.zero,ha⟩⟩
 obtain ⟨σ,d'⟩:=id d
 rcases h.all v (d'.sub v hr) with h1|h1
 · exact h1
 · exact (dom_apart (Or.inl rfl) (by omega) d h.one v hr h1).elim
theorem Split.won1 {S A B : Nat → Prop} (h : Split G S A B) (v : Nat) : Won G 1 S v ↔ B v:=by
 refine ⟨fun ⟨R,d,hr⟩=>?_,fun ha=>⟨B,h.one,ha⟩⟩
 obtain ⟨σ,d'⟩:=id d
 rcases h.all v (d'.sub v hr) with h1|h1
 · exact (dom_apart (Or.inr rfl) (by omega) d h.zero v hr h1).elim
 · exact h1
theorem Split.not {S A B : Nat → Prop} (h : Split G S A B) (v : Nat) (ha : A v) (hb : B v) : False:=dom_apart (Or.inl rfl) (by omega) h.zero h.one v ha hb
def cF (G : Gm) (i : Int) (S A B : Nat → Prop) : Prop:=Dom G i S A ∧ Dom G (1 - i) S B ∧ ∀ v,S v → A v ∨ B v
theorem cF.split {S A B : Nat → Prop} (h : cF G 0 S A B) : Split G S A B:=⟨h.1,h.2.1,h.2.2⟩
theorem cF.split1 {S A B : Nat → Prop} (h : cF G 1 S A B) : Split G S B A:=⟨h.2.1,h.1,fun v hv=>(h.2.2 v hv).symm⟩
theorem ki {i : Int} {S S' R R' : Nat → Prop} (hS : ∀ v,S v ↔ S' v) (hR : ∀ v,R v ↔ R' v) (h : Dom G i S R) : Dom G i S' R':=by
 rw [← (funext fun v=>propext (hS v) : S = S'),← (funext fun v=>propext (hR v) : R = R')];exact h
theorem kW {i d : Int} {S T : Nat → Prop} (hd : d % 2 = i) (ht : Total G S) (hT : ∀ v,S v → T v → G.prio v = d) (hm : ∀ v,S v → G.prio v ≤ d)
  {A B : Nat → Prop} (h : cF G i (Diff S (Attr G i S T)) A B) (hB : ∀ v,¬ B v) : Dom G i S S:=by
 refine qM hd ht hT hm (ki (fun _=>Iff.rfl) (fun v=>⟨fun ha=>?_,fun hr=>(h.2.2 v hr).resolve_right (hB v)⟩) h.1)
 obtain ⟨σ,e⟩:=h.1
 exact e.sub v ha
theorem jC {i : Int} {S T : Nat → Prop} (hi : i = 0 ∨ i = 1) {A B : Nat → Prop} (h : cF G i (Diff S (Attr G i S T)) A B) : Dom G (1 - i) S (Attr G (1 - i) S B):=by
 refine pp (po h.2.1 fun v u hv ho he hs hu=>?_)
 obtain ⟨σ,e⟩:=h.2.1
 have hx:=e.sub v hv
 exact hx.2 (attr_mine hx.1 (by have:=G.own01 v;omega) he hu)
theorem iM {i : Int} {S L : Nat → Prop} (hi : i = 0 ∨ i = 1) (hL : Dom G (1 - i) S (Attr G (1 - i) S L)) {A B : Nat → Prop} (h : cF G i (Diff S (Attr G (1 - i) S L)) A B) :
  cF G i S A (fun v=>B v ∨ Attr G (1 - i) S L v):=by
 refine ⟨po h.1 fun v u hv ho he hs hu=>?_,nS h.2.1 hL,fun v hv=>?_⟩
 · obtain ⟨σ,e⟩:=h.1
   have hx:=e.sub v hv
   exact hx.2 (attr_mine hx.1 (by have:=G.own01 v;omega) he hu)
 · by_cases ha : Attr G (1 - i) S L v
   · exact Or.inr (Or.inr ha)
   · rcases h.2.2 v ⟨hv,ha⟩ with h|h
     · exact Or.inl h
     · exact Or.inr (Or.inl h)
end PG
end Go.Proofs.Ythjamlponejffaa
namespace Go.Proofs.Ythjamlponejffaa
set_option linter.unusedVariables false
set_option linter.unusedSimpArgs false
open Go.RowKit
noncomputable def num (p : Nat → Prop) : Nat → Nat
 | 0 => 0
 | k + 1 => num p k + @ite _ (p k) (Classical.propDecidable _) 1 0
theorem bP {p : Nat → Prop} {k : Nat} (h : p k) : num p (k + 1) = num p k + 1:=by show num p k + _ = _;rw [if_pos h]
theorem cM {p : Nat → Prop} {k : Nat} (h : ¬ p k) : num p (k + 1) = num p k:=by show num p k + _ = _;rw [if_neg h];rfl
theorem jD {p q : Nat → Prop} : ∀ {k : Nat},(∀ t,t < k → (p t ↔ q t)) → num p k = num q k:=by
 intro k
 induction k with
 | zero => intro _; rfl
 | succ k ih =>
   intro h
   by_cases hp : p k
   · rw [bP hp,bP ((h k (by omega)).1 hp),ih fun t ht=>h t (by omega)]
   · rw [cM hp,cM (fun hq=>hp ((h k (by omega)).2 hq)),ih fun t ht=>h t (by omega)]
theorem gu {p : Nat → Prop} : ∀ {k : Nat},num p k = 0 ↔ ∀ t,t < k → ¬ p t:=by
 intro k
 induction k with
 | zero => exact ⟨fun _ t h => by omega, fun _ => rfl⟩
 | succ k ih =>
   by_cases hp : p k
   · rw [bP hp]
     exact ⟨fun h=>by omega,fun h=>absurd hp (h k (by omega))⟩
   · rw [cM hp,ih]
     refine ⟨fun h t ht=>?_,fun h t ht=>h t (by omega)⟩
     rcases Nat.lt_or_ge t k with h'|h'
     · exact h t h'
     · have : t = k:=by omega
       subst this;exact hp
theorem pq {p : Nat → Prop} : ∀ {k : Nat},num p k ≤ k:=by
 intro k
 induction k with
 | zero => exact Nat.le_refl _
 | succ k ih =>
   by_cases hp : p k
   · rw [bP hp];omega
   · rw [cM hp];omega
theorem kX {p q : Nat → Prop} {t0 : Nat} : ∀ {k : Nat},t0 < k → p t0 → (∀ t,t < k → (q t ↔ p t ∧ t ≠ t0)) → num p k = num q k + 1:=by
 intro k
 induction k with
 | zero => intro h; omega
 | succ k ih =>
   intro h hp hq
   by_cases e : t0 = k
   · subst e
     rw [bP hp,cM (fun h'=>((hq _ (by omega)).1 h').2 rfl),jD (p:=p) (q:=q) fun t ht=>⟨fun h1=>(hq t (by omega)).2 ⟨h1,by omega⟩,fun h1=>((hq t (by omega)).1 h1).1⟩]
   · have:=ih (by omega) hp fun t ht=>hq t (by omega)
     by_cases hk : p k
     · rw [bP hk,bP ((hq k (by omega)).2 ⟨hk,fun e'=>e e'.symm⟩),this]
     · rw [cM hk,cM (fun h'=>hk ((hq k (by omega)).1 h').1),this]
theorem cy {q : List Int} {x : Int} {j : Nat} (h : j < q.length) : gi (q ++ [x]) j = gi q j:=by simp [gi,List.getD_eq_getElem?_getD,List.getElem?_append_left h]
theorem dx (q : List Int) (x : Int) : gi (q ++ [x]) q.length = x:=by simp [gi,List.getD_eq_getElem?_getD]
structure Gr (G : PG.Gm) (n : Nat) (row prv : Nat → List Int) (ok : Nat → Nat → Prop) : Prop where
 edge : ∀ v u,G.E v u ↔ v < n ∧ u < n ∧ ok v u ∧ ∃ t,t < (row v).length ∧ gi (row v) t = (u : Int)
 uniq : ∀ v s t,v < n → s < (row v).length → t < (row v).length → gi (row v) s = gi (row v) t → s = t
 rng : ∀ v t,v < n → t < (row v).length → 0 ≤ gi (row v) t ∧ gi (row v) t < n
 pv : ∀ u v : Nat,u < n → ((∃ t,t < (prv u).length ∧ gi (prv u) t = (v : Int)) ↔ v < n ∧ ∃ t,t < (row v).length ∧ gi (row v) t = (u : Int))
 puniq : ∀ u s t,u < n → s < (prv u).length → t < (prv u).length → gi (prv u) s = gi (prv u) t → s = t
 prng : ∀ u t,u < n → t < (prv u).length → 0 ≤ gi (prv u) t ∧ gi (prv u) t < n
def Dn (G : PG.Gm) (prv : Nat → List Int) (q : List Int) (i k : Nat) (v u : Nat) : Prop :=
 G.E v u ∧ ((∃ j,j < i ∧ j < q.length ∧ gi q j = (u : Int)) ∨ (i < q.length ∧ gi q i = (u : Int) ∧ ∃ t,t < k ∧ t < (prv u).length ∧ gi (prv u) t = (v : Int)))
noncomputable def rem (row : Nat → List Int) (ok : Nat → Nat → Prop) (S : Nat → Prop) (D : Nat → Nat → Prop) (v : Nat) : Nat :=
 num (fun t=>(S (gi (row v) t).toNat ∧ ok v (gi (row v) t).toNat) ∧ ¬ D v (gi (row v) t).toNat) (row v).length
section
variable {G : PG.Gm} {n : Nat} {row prv : Nat → List Int} {ok : Nat → Nat → Prop} {who : Int} {S T : Nat → Prop} {lz : Bool}
structure AInv (G : PG.Gm) (n : Nat) (row prv : Nat → List Int) (ok : Nat → Nat → Prop) (who : Int) (S T : Nat → Prop) (lz : Bool) (q : List Int) (i k : Nat) (out : List Bool) (left : List Int) : Prop where
 ol : out.length = n
 ll : left.length = n
 qn : q.length = num (fun v=>gb out v = true) n
 qr : ∀ j,j < q.length → 0 ≤ gi q j ∧ gi q j < n ∧ gb out (gi q j).toNat = true
 qu : ∀ a b,a < q.length → b < q.length → gi q a = gi q b → a = b
 qo : ∀ v,v < n → gb out v = true → ∃ j,j < q.length ∧ gi q j = (v : Int)
 ga : ∀ v,v < n → gb out v = true → PG.Attr G who S T v
 go : ∀ v,v < n → S v → T v → gb out v = true
 mi : ∀ v u,S v → gb out v = false → G.own v = who → ¬ Dn G prv q i k v u
 yo : ∀ v,S v → gb out v = false → G.own v ≠ who → 1 ≤ rem row ok S (Dn G prv q i k) v ∧ (gi left v = rem row ok S (Dn G prv q i k) v ∨ (lz = true ∧ gi left v = 0 ∧ ∀ u,¬ Dn G prv q i k v u))
theorem AInv.qle {q : List Int} {i k : Nat} {out : List Bool} {left : List Int} (h : AInv G n row prv ok who S T lz q i k out left) : q.length ≤ n:=by rw [h.qn];exact pq
theorem kj (q : List Int) (v u : Nat) : ¬ Dn G prv q 0 0 v u:=fun ⟨_,h⟩=>by
 rcases h with ⟨j,h,_⟩|⟨_,_,t,h,_⟩ <;> omega
theorem rZ {q : List Int} {x : Int} {i k v u : Nat} (hi : i < q.length) : Dn G prv (q ++ [x]) i k v u ↔ Dn G prv q i k v u:=by
 unfold Dn
 rw [cy hi]
 refine and_congr Iff.rfl (or_congr ⟨fun ⟨j,a,b,c⟩=>⟨j,a,by omega,by rwa [cy (by omega)] at c⟩,fun ⟨j,a,b,c⟩=>⟨j,a,by simp;omega,by rwa [cy b]⟩⟩ ⟨fun ⟨a,b⟩=>⟨hi,b⟩,fun ⟨a,b⟩=>⟨by simp;omega,b⟩⟩)
theorem ig {q : List Int} {i k u w : Nat} (hi : i < q.length) (hu : gi q i = (u : Int)) (hk : k < (prv u).length) (hw : gi (prv u) k = (w : Int)) (v' u' : Nat) : Dn G prv q i (k + 1) v' u' ↔ Dn G prv q i k v' u' ∨ (v' = w ∧ u' = u ∧ G.E w u):=by
 unfold Dn
 constructor
 · rintro ⟨hE,h|⟨h1,h2,t,h3,h4,h5⟩⟩
   · exact .inl ⟨hE,.inl h⟩
   · rcases Nat.lt_or_ge t k with h|h
     · exact .inl ⟨hE,.inr ⟨h1,h2,t,h,h4,h5⟩⟩
     · have e : t = k:=by omega
       have e2 : u' = u:=by omega
       subst e e2
       have e3 : v' = w:=by omega
       subst e3
       exact .inr ⟨rfl,rfl,hE⟩
 · rintro (⟨hE,h|⟨h1,h2,t,h3,h4⟩⟩|⟨rfl,rfl,hE⟩)
   · exact ⟨hE,.inl h⟩
   · exact ⟨hE,.inr ⟨h1,h2,t,by omega,h4⟩⟩
   · exact ⟨hE,.inr ⟨hi,hu,k,by omega,hk,hw⟩⟩
theorem r6 (hG : Gr G n row prv ok) {q : List Int} {i u : Nat} (hi : i < q.length) (hu : gi q i = (u : Int)) (v' u' : Nat) : Dn G prv q (i + 1) 0 v' u' ↔ Dn G prv q i (prv u).length v' u':=by
 unfold Dn
 constructor
 · rintro ⟨hE,⟨j,h1,h2,h3⟩|⟨_,_,t,h,_⟩⟩
   · rcases Nat.lt_or_ge j i with h|h
     · exact ⟨hE,.inl ⟨j,h,h2,h3⟩⟩
     · have e : j = i:=by omega
       subst e
       have e2 : u' = u:=by omega
       subst e2
       obtain ⟨a,b,c,d⟩:=(hG.edge v' u').1 hE
       obtain ⟨t,t1,t2⟩:=(hG.pv u' v' b).2 ⟨a,d⟩
       exact ⟨hE,.inr ⟨h2,h3,t,t1,t1,t2⟩⟩
   · omega
 · rintro ⟨hE,⟨j,h1,h2,h3⟩|⟨h1,h2,h3⟩⟩
   · exact ⟨hE,.inl ⟨j,by omega,h2,h3⟩⟩
   · exact ⟨hE,.inl ⟨i,by omega,h1,h2⟩⟩
theorem eK {D D' : Nat → Nat → Prop} {v : Nat} (h : ∀ u,D v u ↔ D' v u) : rem row ok S D v = rem row ok S D' v :=
 jD fun t _=>and_congr Iff.rfl (not_congr (h _))
theorem AInv.cast {q : List Int} {i k i' k' : Nat} {out : List Bool} {left : List Int} (h : AInv G n row prv ok who S T lz q i k out left) (hD : ∀ v u,Dn G prv q i' k' v u ↔ Dn G prv q i k v u) : AInv G n row prv ok who S T lz q i' k' out left :=
 ⟨h.ol,h.ll,h.qn,h.qr,h.qu,h.qo,h.ga,h.go,fun v u a b c d=>h.mi v u a b c ((hD v u).1 d),fun v a b c=>by
  obtain ⟨h1,h2⟩:=h.yo v a b c
  rw [eK (hD v)]
  exact ⟨h1,h2.imp id fun ⟨x,y,z⟩=>⟨x,y,fun u hu=>z u ((hD v u).1 hu)⟩⟩⟩
theorem AInv.next (hG : Gr G n row prv ok) {q : List Int} {i u : Nat} {out : List Bool} {left : List Int} (hi : i < q.length) (hu : gi q i = (u : Int)) (h : AInv G n row prv ok who S T lz q i (prv u).length out left) : AInv G n row prv ok who S T lz q (i + 1) 0 out left :=
 h.cast (r6 hG hi hu)
theorem AInv.skip {q : List Int} {i k u w : Nat} {out : List Bool} {left : List Int} (hi : i < q.length) (hu : gi q i = (u : Int)) (hk : k < (prv u).length) (hw : gi (prv u) k = (w : Int)) (h : AInv G n row prv ok who S T lz q i k out left) (hs : ¬ S w ∨ gb out w = true ∨ ¬ G.E w u) :
  AInv G n row prv ok who S T lz q i (k + 1) out left:=by
 have key : ∀ v,S v → gb out v = false → ∀ u',Dn G prv q i (k + 1) v u' ↔ Dn G prv q i k v u':=fun v hS ho u'=>by
  rw [ig hi hu hk hw]
  refine ⟨fun h=>h.elim id fun ⟨a,b,c⟩=>?_,.inl⟩
  subst a
  rcases hs with h|h|h
  · exact absurd hS h
  · rw [ho] at h;cases h
  · exact absurd c h
 refine ⟨h.ol,h.ll,h.qn,h.qr,h.qu,h.qo,h.ga,h.go,fun v u' a b c d=>h.mi v u' a b c ((key v a b u').1 d),fun v a b c=>?_⟩
 obtain ⟨h1,h2⟩:=h.yo v a b c
 rw [eK (key v a b)]
 exact ⟨h1,h2.imp id fun ⟨x,y,z⟩=>⟨x,y,fun u hu=>z u ((key v a b u).1 hu)⟩⟩
theorem AInv.mark {q : List Int} {i k u w : Nat} {out : List Bool} {left : List Int} (hi : i < q.length) (hu : gi q i = (u : Int)) (hk : k < (prv u).length) (hw : gi (prv u) k = (w : Int)) (hwn : w < n) (h : AInv G n row prv ok who S T lz q i k out left) (ho : gb out w = false) (ha : PG.Attr G who S T w) {left' : List Int}
  (hl : left'.length = n) (hl' : ∀ v,v ≠ w → gi left' v = gi left v) : AInv G n row prv ok who S T lz (q ++ [(w : Int)]) i (k + 1) (out.set w true) left':=by
 have hlt : w < out.length:=by rw [h.ol];exact hwn
 have hg : ∀ v,gb (out.set w true) v = if v = w then true else gb out v:=fun v=>gx hlt
 have hne : ∀ v,gb (out.set w true) v = false → v ≠ w ∧ gb out v = false:=fun v hv=>by
  rw [hg] at hv
  split at hv
  · cases hv
  · exact ⟨by assumption,hv⟩
 have key : ∀ v,v ≠ w → ∀ u',Dn G prv (q ++ [(w : Int)]) i (k + 1) v u' ↔ Dn G prv q i k v u':=fun v hv u'=>by
  rw [rZ hi,ig hi hu hk hw]
  exact ⟨fun h=>h.elim id fun ⟨a,_⟩=>absurd a hv,.inl⟩
 have hnot : ∀ j,j < q.length → gi q j ≠ (w : Int):=fun j hj e=>by
  have:=(h.qr j hj).2.2
  rw [e,Int.toNat_natCast,ho] at this;cases this
 refine ⟨by rw [List.length_set];exact h.ol,hl,?_,fun j hj=>?_,fun a b hx hy e=>?_,fun v hv hv'=>?_,fun v hv hv'=>?_,fun v hv h1 h2=>?_,fun v u' a b c d=>?_,fun v a b c=>?_⟩
 · rw [List.length_append,h.qn]
   exact (kX hwn (by rw [hg,if_pos rfl]) fun t ht=>⟨fun h'=>⟨by rw [hg];split <;> first|rfl|exact h',fun e=>by rw [e,ho] at h';cases h'⟩,fun ⟨h1,h2⟩=>by rwa [hg,if_neg h2] at h1⟩).symm
 · rw [List.length_append,List.length_singleton] at hj
   rcases Nat.lt_or_ge j q.length with h'|h'
   · rw [cy h']
     obtain ⟨a,b,c⟩:=h.qr j h'
     exact ⟨a,b,by rw [hg];split <;> first|rfl|exact c⟩
   · have e : j = q.length:=by omega
     subst e
     rw [dx]
     exact ⟨by omega,by omega,by rw [hg,Int.toNat_natCast,if_pos rfl]⟩
 · rw [List.length_append,List.length_singleton] at hx hy
   rcases Nat.lt_or_ge a q.length with h1|h1 <;> rcases Nat.lt_or_ge b q.length with h2|h2
   · rw [cy h1,cy h2] at e;exact h.qu a b h1 h2 e
   · have e2 : b = q.length:=by omega
     subst e2
     rw [cy h1,dx] at e
     exact absurd e (hnot a h1)
   · have e2 : a = q.length:=by omega
     subst e2
     rw [cy h2,dx] at e
     exact absurd e.symm (hnot b h2)
   · omega
 · rw [hg] at hv'
   split at hv'
   · rename_i e;subst e;exact ⟨q.length,by simp,dx _ _⟩
   · obtain ⟨j,h1,h2⟩:=h.qo v hv hv'
     exact ⟨j,by simp;omega,by rw [cy h1];exact h2⟩
 · rw [hg] at hv'
   split at hv'
   · rename_i e;subst e;exact ha
   · exact h.ga v hv hv'
 · rw [hg]
   split
   · rfl
   · exact h.go v hv h1 h2
 · obtain ⟨h1,h2⟩:=hne v b
   exact h.mi v u' a h2 c ((key v h1 u').1 d)
 · obtain ⟨h1,h2⟩:=hne v b
   obtain ⟨h3,h4⟩:=h.yo v a h2 c
   rw [eK (key v h1),hl' v h1]
   exact ⟨h3,h4.imp id fun ⟨x,y,z⟩=>⟨x,y,fun u hu=>z u ((key v h1 u).1 hu)⟩⟩
theorem kY (hG : Gr G n row prv ok) {q : List Int} {i k u w : Nat} {out : List Bool} {left : List Int} (hi : i < q.length) (hu : gi q i = (u : Int)) (hk : k < (prv u).length) (hw : gi (prv u) k = (w : Int)) (h : AInv G n row prv ok who S T lz q i k out left) (hE : G.E w u) :
  rem row ok S (Dn G prv q i k) w = rem row ok S (Dn G prv q i (k + 1)) w + 1:=by
 obtain ⟨hwn,hun,hok,t0,ht0,et0⟩:=(hG.edge w u).1 hE
 have hSu : S u:=by
  have:=(h.qr i hi).2.2
  rw [hu,Int.toNat_natCast] at this
  exact PG.attr_in (h.ga u hun this)
 have hnd : ¬ Dn G prv q i k w u:=by
  rintro ⟨_,⟨j,a,b,c⟩|⟨_,_,t,a,b,c⟩⟩
  · have:=h.qu j i b hi (c.trans hu.symm);omega
  · have:=hG.puniq u t k hun b hk (c.trans hw.symm);omega
 unfold rem
 refine kX ht0 ⟨⟨by rw [et0,Int.toNat_natCast];exact hSu,by rw [et0,Int.toNat_natCast];exact hok⟩,by rw [et0,Int.toNat_natCast];exact hnd⟩ fun t ht=>?_
 obtain ⟨r0,r1⟩:=hG.rng w t hwn ht
 rw [ig hi hu hk hw]
 constructor
 · rintro ⟨h1,h2⟩
   refine ⟨⟨h1,fun hd=>h2 (.inl hd)⟩,fun e=>h2 (.inr ⟨rfl,?_,hE⟩)⟩
   rw [e,et0];simp
 · rintro ⟨⟨h1,h2⟩,h3⟩
   refine ⟨h1,fun hd=>hd.elim h2 fun ⟨_,e,_⟩=>h3 (hG.uniq w t t0 hwn ht ht0 ?_)⟩
   rw [et0,← e,Int.toNat_of_nonneg r0]
theorem AInv.keep (hG : Gr G n row prv ok) {q : List Int} {i k u w : Nat} {out : List Bool} {left : List Int} (hi : i < q.length) (hu : gi q i = (u : Int)) (hk : k < (prv u).length) (hw : gi (prv u) k = (w : Int)) (hwn : w < n) (h : AInv G n row prv ok who S T lz q i k out left) (how : G.own w ≠ who)
  (hr : 1 ≤ rem row ok S (Dn G prv q i (k + 1)) w) : AInv G n row prv ok who S T lz q i (k + 1) out (left.set w (rem row ok S (Dn G prv q i (k + 1)) w)):=by
 have hlt : w < left.length:=by rw [h.ll];exact hwn
 have key : ∀ v,v ≠ w → ∀ u',Dn G prv q i (k + 1) v u' ↔ Dn G prv q i k v u':=fun v hv u'=>by
  rw [ig hi hu hk hw]
  exact ⟨fun h=>h.elim id fun ⟨a,_⟩=>absurd a hv,.inl⟩
 refine ⟨h.ol,by rw [List.length_set];exact h.ll,h.qn,h.qr,h.qu,h.qo,h.ga,h.go,fun v u' a b c d=>?_,fun v a b c=>?_⟩
 · exact h.mi v u' a b c ((key v (fun e=>how (by rw [← e];exact c)) u').1 d)
 · rw [eO hlt]
   by_cases e : v = w
   · subst e;rw [if_pos rfl];exact ⟨hr,.inl rfl⟩
   · rw [if_neg e,eK (key v e)]
     obtain ⟨h3,h4⟩:=h.yo v a b c
     exact ⟨h3,h4.imp id fun ⟨x,y,z⟩=>⟨x,y,fun u hu=>z u ((key v e u).1 hu)⟩⟩
theorem AInv.shut (hG : Gr G n row prv ok) {q : List Int} {i k u w : Nat} {out : List Bool} {left : List Int} (h : AInv G n row prv ok who S T lz q i k out left) (hi : i < q.length) (hu : gi q i = (u : Int)) (hk : k < (prv u).length) (hw : gi (prv u) k = (w : Int)) (hS : S w) (how : G.own w ≠ who) (hE : G.E w u)
  (hr : rem row ok S (Dn G prv q i (k + 1)) w = 0) : PG.Attr G who S T w:=by
 obtain ⟨hwn,hun,_⟩:=(hG.edge w u).1 hE
 have hin : ∀ j,j < q.length → ∀ x : Nat,gi q j = (x : Int) → x < n → PG.Attr G who S T x:=fun j hj x e hx=>by
  have:=(h.qr j hj).2.2
  rw [e,Int.toNat_natCast] at this
  exact h.ga x hx this
 refine PG.attr_yours (n:=n) (fun v u h=>((hG.edge v u).1 h).2.1) hS how ⟨u,hE,PG.attr_in (hin i hi u hu hun)⟩ fun x hx hs=>?_
 obtain ⟨_,hxn,hok,t,ht,et⟩:=(hG.edge w x).1 hx
 have hd : Dn G prv q i (k + 1) w x:=Classical.byContradiction fun hn=>(gu.1 hr) t ht ⟨⟨by rw [et,Int.toNat_natCast];exact hs,by rw [et,Int.toNat_natCast];exact hok⟩,by rw [et,Int.toNat_natCast];exact hn⟩
 obtain ⟨_,⟨j,_,b,c⟩|⟨b,c,_⟩⟩:=hd
 · exact hin j b x c hxn
 · exact hin i b x c hxn
theorem AInv.done (hG : Gr G n row prv ok) (hSn : ∀ v,S v → v < n) {q : List Int} {i : Nat} {out : List Bool} {left : List Int} (h : AInv G n row prv ok who S T lz q i 0 out left) (hi : q.length ≤ i) : ∀ v,v < n → (gb out v = true ↔ PG.Attr G who S T v):=by
 have hall : ∀ v u,G.E v u → gb out u = true → Dn G prv q i 0 v u:=fun v u hE ho=>by
  obtain ⟨j,h1,h2⟩:=h.qo u ((hG.edge v u).1 hE).2.1 ho
  exact ⟨hE,.inl ⟨j,by omega,h1,h2⟩⟩
 have hb : ∀ v,¬ gb out v = true → gb out v = false:=fun v hv=>by cases hq : gb out v <;> simp_all
 intro v hv
 refine ⟨h.ga v hv,fun ha=>?_⟩
 refine PG.attr_least (X:=fun v=>gb out v = true) (fun v a b=>h.go v (hSn v a) a b) (fun v u a b c d=>?_) (fun v a b c d=>?_) v ha
 · exact Classical.byContradiction fun hn=>h.mi v u a (hb v hn) b (hall v u c d)
 · refine Classical.byContradiction fun hn=>?_
   have h1:=(h.yo v a (hb v hn) b).1
   have h2 : rem row ok S (Dn G prv q i 0) v = 0:=gu.2 fun t ht ⟨⟨x,y⟩,z⟩=>by
    have hvn:=hSn v a
    obtain ⟨r0,r1⟩:=hG.rng v t hvn ht
    have hE : G.E v (gi (row v) t).toNat:=(hG.edge _ _).2 ⟨hvn,by omega,y,t,ht,by omega⟩
    exact z (hall v _ hE (d _ hE x))
   omega
theorem AInv.start (hG : Gr G n row prv ok) (hSn : ∀ v,S v → v < n) (ht : PG.Total G S) {q : List Int} {out : List Bool} {left : List Int} (h1 : out.length = n) (h2 : left.length = n) (h3 : q.length = num (fun v=>gb out v = true) n)
  (h4 : ∀ j,j < q.length → 0 ≤ gi q j ∧ gi q j < n ∧ gb out (gi q j).toNat = true) (h5 : ∀ a b,a < q.length → b < q.length → gi q a = gi q b → a = b) (h6 : ∀ v,v < n → gb out v = true → ∃ j,j < q.length ∧ gi q j = (v : Int))
  (h7 : ∀ v,v < n → (gb out v = true ↔ S v ∧ T v)) (h8 : ∀ v,S v → gb out v = false → gi left v = rem row ok S (fun _ _=>False) v ∨ (lz = true ∧ gi left v = 0)) : AInv G n row prv ok who S T lz q 0 0 out left:=by
 have e : ∀ v,rem row ok S (Dn G prv q 0 0) v = rem row ok S (fun _ _=>False) v:=fun v=>eK fun u=>⟨fun h=>kj q v u h,fun h=>h.elim⟩
 refine ⟨h1,h2,h3,h4,h5,h6,fun v hv h=>PG.attr_goal ((h7 v hv).1 h).1 ((h7 v hv).1 h).2,fun v hv a b=>(h7 v hv).2 ⟨a,b⟩,fun v u _ _ _=>kj q v u,fun v a b c=>?_⟩
 rw [e]
 refine ⟨?_,(h8 v a b).imp id fun ⟨x,y⟩=>⟨x,y,fun u=>kj q v u⟩⟩
 obtain ⟨u,hE,hu⟩:=ht v a
 obtain ⟨hvn,_,hok,t,h,et⟩:=(hG.edge v u).1 hE
 rcases Nat.eq_zero_or_pos (rem row ok S (fun _ _=>False) v) with h0|h0
 · exact absurd ⟨⟨by rw [et,Int.toNat_natCast];exact hu,by rw [et,Int.toNat_natCast];exact hok⟩,fun h=>h⟩ (gu.1 h0 t h)
 · exact h0
end
end Go.Proofs.Ythjamlponejffaa
namespace Go.Proofs.Ythjamlponejffaa
set_option linter.unusedVariables false
set_option linter.unusedSimpArgs false
open Go.RowKit
theorem mj {p q : Nat → Prop} : ∀ {k : Nat},(∀ t,t < k → q t → p t) → (∃ t,t < k ∧ p t ∧ ¬ q t) → num q k < num p k:=by
 intro k
 induction k with
 | zero => rintro _ ⟨t, h, _⟩; omega
 | succ k ih =>
   rintro h ⟨t,h1,h2,h3⟩
   have hle : ∀ {k : Nat},(∀ t,t < k → q t → p t) → num q k ≤ num p k:=by
    intro k
    induction k with
    | zero => intro _; exact Nat.le_refl _
    | succ k ih =>
      intro h
      have:=ih fun t ht=>h t (by omega)
      by_cases hq : q k
      · rw [bP hq,bP (h k (by omega) hq)];omega
      · rw [cM hq]
        by_cases hp : p k
        · rw [bP hp];omega
        · rw [cM hp];exact this
   rcases Nat.lt_or_ge t k with h'|h'
   · have:=ih (fun t ht=>h t (by omega)) ⟨t,h',h2,h3⟩
     by_cases hq : q k
     · rw [bP hq,bP (h k (by omega) hq)];omega
     · rw [cM hq]
       by_cases hp : p k
       · rw [bP hp];omega
       · rw [cM hp];exact this
   · have e : t = k:=by omega
     subst e
     have:=hle (k:=t) fun s hs=>h s (by omega)
     rw [cM h3,bP h2];omega
namespace PG
variable {G : PG.Gm} {n : Nat}
theorem r7 (S : Nat → Prop) : ∀ n,(∃ v,v < n ∧ S v) → ∃ v,v < n ∧ S v ∧ ∀ u,u < n → S u → G.prio u ≤ G.prio v:=by
 intro n
 induction n with
 | zero => rintro ⟨v, h, _⟩; omega
 | succ n ih =>
   rintro ⟨v,hv,hs⟩
   by_cases hx : ∃ v,v < n ∧ S v
   · obtain ⟨u,h1,h2,h3⟩:=ih hx
     by_cases hn : S n ∧ G.prio u < G.prio n
     · refine ⟨n,by omega,hn.1,fun w hw hsw=>?_⟩
       rcases Nat.lt_or_ge w n with h|h
       · have:=h3 w h hsw;omega
       · have : w = n:=by omega
         subst this;exact Int.le_refl _
     · refine ⟨u,by omega,h2,fun w hw hsw=>?_⟩
       rcases Nat.lt_or_ge w n with h|h
       · exact h3 w h hsw
       · have : w = n:=by omega
         subst this
         rcases Int.lt_or_le (G.prio u) (G.prio w) with h'|h'
         · exact absurd ⟨hsw,h'⟩ hn
         · exact h'
   · have : v = n:=by
      rcases Nat.lt_or_ge v n with h|h
      · exact absurd ⟨v,h,hs⟩ hx
      · omega
     subst this
     refine ⟨v,by omega,hs,fun w hw hsw=>?_⟩
     rcases Nat.lt_or_ge w v with h|h
     · exact absurd ⟨w,h,hsw⟩ hx
     · have : w = v:=by omega
       subst this;exact Int.le_refl _
theorem Split.for_ {S A B : Nat → Prop} (h : Split G S A B) {i : Int} (hi : i = 0 ∨ i = 1) : ∃ A' B',cF G i S A' B':=by
 rcases hi with rfl|rfl
 · exact ⟨A,B,h.zero,h.one,h.all⟩
 · exact ⟨B,A,h.one,h.zero,fun v hv=>(h.all v hv).symm⟩
theorem cF.ex {S A B : Nat → Prop} {i : Int} (hi : i = 0 ∨ i = 1) (h : cF G i S A B) : ∃ A' B',Split G S A' B':=by
 rcases hi with rfl|rfl
 · exact ⟨_,_,h.split⟩
 · exact ⟨_,_,h.split1⟩
theorem pt (hf : Fin G n) : ∀ (N : Nat) (S : Nat → Prop),(∀ v,S v → v < n) → num S n ≤ N → Total G S → ∃ A B,Split G S A B:=by
 intro N
 induction N with
 | zero =>
   intro S hS hN ht
   have hno : ∀ v,¬ S v:=fun v hv=>gu.1 (Nat.le_zero.1 hN) v (hS v hv) hv
   exact ⟨_,_,eJ 0 S,eJ 1 S,fun v hv=>absurd hv (hno v)⟩
 | succ N ih =>
   intro S hS hN ht
   by_cases hx : ∃ v,v < n ∧ S v
   · obtain ⟨v0,h1,h2,h3⟩:=r7 (G:=G) S n hx
     have hi : G.prio v0 % 2 = 0 ∨ G.prio v0 % 2 = 1:=by omega
     have hsm : ∀ (D : Nat → Prop),(∃ v,S v ∧ D v) → num (Diff S D) n ≤ N:=fun D ⟨v,a,b⟩=>by
      have:=mj (p:=S) (q:=Diff S D) (k:=n) (fun t _ h=>h.1) ⟨v,hS v a,a,fun h=>h.2 b⟩
      omega
     obtain ⟨A,B,hAB⟩:=ih (Diff S (Attr G (G.prio v0 % 2) S fun v=>G.prio v = G.prio v0)) (fun v h=>hS v h.1) (hsm _ ⟨v0,h2,attr_goal h2 rfl⟩) (total_diff hf ht)
     obtain ⟨A',B',hF⟩:=hAB.for_ hi
     by_cases hB : ∃ v,B' v
     · obtain ⟨b,hb⟩:=hB
       obtain ⟨σ,eB⟩:=id hF.2.1
       have hbS : S b:=(eB.sub b hb).1
       obtain ⟨A2,B2,h2'⟩:=ih (Diff S (Attr G (1 - G.prio v0 % 2) S B')) (fun v h=>hS v h.1) (hsm _ ⟨b,hbS,attr_goal hbS hb⟩) (total_diff hf ht)
       obtain ⟨A3,B3,hF2⟩:=h2'.for_ hi
       exact (iM hi (jC hi hF) hF2).ex hi
     · have hD:=kW rfl ht (fun v _ h=>h) (fun v hv=>h3 v (hS v hv) hv) hF (fun v h=>hB ⟨v,h⟩)
       exact cF.ex hi ⟨hD,eJ _ _,fun v hv=>.inl hv⟩
   · have hno : ∀ v,¬ S v:=fun v hv=>hx ⟨v,hS v hv,hv⟩
     exact ⟨_,_,eJ 0 S,eJ 1 S,fun v hv=>absurd hv (hno v)⟩
theorem jE (hf : Fin G n) {S : Nat → Prop} (hS : ∀ v,S v → v < n) (ht : Total G S) : Split G S (Won G 0 S) (Won G 1 S):=by
 obtain ⟨A,B,h⟩:=pt hf _ S hS (Nat.le_refl _) ht
 exact ⟨ki (fun _=>Iff.rfl) (fun v=>(h.won0 v).symm) h.zero,ki (fun _=>Iff.rfl) (fun v=>(h.won1 v).symm) h.one,fun v hv=>(h.all v hv).imp (h.won0 v).2 (h.won1 v).2⟩
theorem won_in {i : Int} {S : Nat → Prop} {v : Nat} (h : Won G i S v) : S v:=by
 obtain ⟨R,⟨σ,d⟩,hr⟩:=h
 exact d.sub v hr
theorem won_not (hf : Fin G n) {S : Nat → Prop} (hS : ∀ v,S v → v < n) (ht : Total G S) {v : Nat} (hv : S v) : Won G 1 S v ↔ ¬ Won G 0 S v:=by
 have h:=jE hf hS ht
 refine ⟨fun h1 h0=>h.not v h0 h1,fun h0=>(h.all v hv).resolve_left h0⟩
theorem won_for (hf : Fin G n) {S : Nat → Prop} (hS : ∀ v,S v → v < n) (ht : Total G S) {i : Int} (hi : i = 0 ∨ i = 1) : cF G i S (Won G i S) (Won G (1 - i) S):=by
 have h:=jE hf hS ht
 rcases hi with rfl|rfl
 · exact ⟨h.zero,h.one,h.all⟩
 · exact ⟨h.one,h.zero,fun v hv=>(h.all v hv).symm⟩
theorem win_all (hf : Fin G n) {S T : Nat → Prop} (hS : ∀ v,S v → v < n) (ht : Total G S) {d i : Int} (hd : d % 2 = i) (hT : ∀ v,S v → T v → G.prio v = d) (hm : ∀ v,S v → G.prio v ≤ d)
  (hB : ∀ v,¬ Won G (1 - i) (Diff S (Attr G i S T)) v) : ∀ v,Won G i S v ↔ S v:=by
 have hi : i = 0 ∨ i = 1:=by omega
 have hF:=won_for hf (S:=Diff S (Attr G i S T)) (fun v h=>hS v h.1) (total_diff hf ht) hi
 have hD:=kW hd ht hT hm hF hB
 exact fun v=>⟨won_in,fun h=>⟨S,hD,h⟩⟩
theorem win_some (hf : Fin G n) {S T : Nat → Prop} (hS : ∀ v,S v → v < n) (ht : Total G S) {i : Int} (hi : i = 0 ∨ i = 1) {L : Nat → Prop} (hL : ∀ v,L v ↔ Won G (1 - i) (Diff S (Attr G i S T)) v) :
  ∀ v,(Won G i S v ↔ Won G i (Diff S (Attr G (1 - i) S L)) v) ∧ (Won G (1 - i) S v ↔ Won G (1 - i) (Diff S (Attr G (1 - i) S L)) v ∨ Attr G (1 - i) S L v):=by
 have eL : L = Won G (1 - i) (Diff S (Attr G i S T)):=funext fun v=>propext (hL v)
 subst eL
 have hF:=won_for hf (S:=Diff S (Attr G i S T)) (fun v h=>hS v h.1) (total_diff hf ht) hi
 have hF2:=won_for hf (S:=Diff S (Attr G (1 - i) S (Won G (1 - i) (Diff S (Attr G i S T))))) (fun v h=>hS v h.1) (total_diff hf ht) hi
 have h:=iM hi (jC hi hF) hF2
 intro v
 rcases hi with rfl|rfl
 · exact ⟨h.split.won0 v,h.split.won1 v⟩
 · exact ⟨h.split1.won1 v,h.split1.won0 v⟩
end PG
end Go.Proofs.Ythjamlponejffaa
