/-
  FnMeasured, walked.
-/
import Derived.Test.YtfaefmabjjndeaaZmM9
import Derived.Test.YtfaefmabjjndeaaZmR2
import Derived.Test.YtfaefmabjjndeaaZmR7
import Derived.Test.YtfaefmabjjndeaaZmRA
import Derived.Test.YtfaefmabjjndeaaZmRC
namespace Go.Proofs.Ytfaefmabjjndeaa
set_option linter.unusedVariables false
set_option linter.unusedSimpArgs false
namespace MS
theorem dif_irr {c : Nat} {a : List Int} : ¬ dif c a a:=fun ⟨i,_,_,h⟩=>by omega
theorem qc {c : Nat} {a b d : List Int} (h : dif c a b) (k : dif c b d) : dif c a d:=by
 obtain ⟨i,i1,i2,i3⟩:=h
 obtain ⟨j,j1,j2,j3⟩:=k
 rcases Nat.lt_trichotomy i j with e|e|e
 · exact ⟨i,i1,fun t ht=>(i2 t ht).trans (j2 t (by omega)),by rw [← j2 i e];exact i3⟩
 · subst e;exact ⟨i,i1,fun t ht=>(i2 t ht).trans (j2 t ht),by omega⟩
 · exact ⟨j,j1,fun t ht=>(i2 t (by omega)).trans (j2 t ht),by rw [i2 j e];exact j3⟩
theorem dif_tri (c : Nat) (a b : List Int) : dif c a b ∨ (∀ i,i ≤ c → gi a i = gi b i) ∨ dif c b a:=by
 induction c with
 | zero =>
   rcases Int.lt_trichotomy (gi a 0) (gi b 0) with h|h|h
   · exact .inl ⟨0,Nat.le_refl _,fun t ht=>absurd ht (Nat.not_lt_zero _),h⟩
   · exact .inr (.inl fun i hi=>by rw [show i = 0 by omega];exact h)
   · exact .inr (.inr ⟨0,Nat.le_refl _,fun t ht=>absurd ht (Nat.not_lt_zero _),h⟩)
 | succ c ih =>
   rcases ih with h|h|h
   · exact .inl (dif_mono h (by omega))
   · rcases Int.lt_trichotomy (gi a (c + 1)) (gi b (c + 1)) with k|k|k
     · exact .inl ⟨c + 1,Nat.le_refl _,fun t ht=>h t (by omega),k⟩
     · exact .inr (.inl fun i hi=>by
        by_cases e : i = c + 1
        · rw [e];exact k
        · exact h i (by omega))
     · exact .inr (.inr ⟨c + 1,Nat.le_refl _,fun t ht=>(h t (by omega)).symm,k⟩)
   · exact .inr (.inr (dif_mono h (by omega)))
theorem qY {c : Nat} {a b d : List Int} (h : dif c a b) (k : ∀ i,i ≤ c → gi b i = gi d i) : dif c a d :=
 let ⟨i,i1,i2,i3⟩:=h;⟨i,i1,fun t ht=>(i2 t ht).trans (k t (by omega)),by rw [← k i i1];exact i3⟩
theorem qZ {c : Nat} {a b d : List Int} (h : dif c b d) (k : ∀ i,i ≤ c → gi a i = gi b i) : dif c a d :=
 let ⟨i,i1,i2,i3⟩:=h;⟨i,i1,fun t ht=>(k t (by omega)).trans (i2 t ht),by rw [k i i1];exact i3⟩
theorem xE {c : Nat} {a b d : List Int} (h : dif c a b) (k : ¬ dif c d b) : dif c a d:=by
 rcases dif_tri c d b with e|e|e
 · exact absurd e k
 · exact qY h fun i hi=>(e i hi).symm
 · exact qc h e
theorem nd_dif {c : Nat} {a b d : List Int} (h : ¬ dif c b a) (k : dif c b d) : dif c a d:=by
 rcases dif_tri c a b with e|e|e
 · exact qc e k
 · exact qZ k e
 · exact absurd e h
variable {K : Nat} {mx : Nat → Int}
theorem lx_lost {b : List Int} (hb : Ok K mx b) (h : gi b 0 ≠ 1) : lx b [1]:=(lx_ok hb ok_lost).2 ⟨0,Nat.zero_le _,fun t ht=>absurd ht (Nat.not_lt_zero _),by have:=(hb.live h).2.1;rw [this];decide⟩
theorem ask_ge {c : Nat} {od : Bool} {m b : List Int} (hc : c ≤ K) (hx : ∀ i,0 ≤ mx i) (hm : Ok K mx m) (hb : Ok K mx b) (hl : gi b 0 ≠ 1) (h : ¬ lx b (ask K mx c od m)) : gi m 0 ≠ 1 ∧ ¬ dif c b m ∧ (od = true → dif c m b):=by
 by_cases hm1 : gi m 0 = 1
 · refine absurd (lx_lost hb hl) ?_
   have e : ask K mx c od m = [1]:=if_pos hm1
   rw [e] at h;exact h
 have hcut:=cut_ok hc hx hm hm1
 have hcg : ∀ i,i ≤ c → gi (cut K c m) i = gi m i:=fun i hi=>by rw [gi_cut hc,if_pos hi]
 have hq : Ok K mx (ask K mx c od m):=ask_ok hc hx hm
 rw [lx_ok hb hq] at h
 have hc1 : gi (cut K c m) 0 ≠ 1:=by rw [hcg 0 (Nat.zero_le _)];exact hm1
 cases od with
 | false =>
   have e : ask K mx c false m = cut K c m:=by unfold ask;rw [if_neg hm1];rfl
   rw [e] at h
   exact ⟨hm1,fun hd=>h (dif_mono (qY hd fun i hi=>(hcg i hi).symm) hc),fun e=>by cases e⟩
 | true =>
   have e : ask K mx c true m = inc mx c (cut K c m):=by unfold ask;rw [if_neg hm1];rfl
   rw [e] at h
   have h1:=oi hc hcut hc1
   have h2 : dif c (cut K c m) b:=xE h1 fun hd=>h (dif_mono hd hc)
   have h3 : dif c m b:=qZ h2 fun i hi=>(hcg i hi).symm
   exact ⟨hm1,fun hd=>dif_irr (qc hd h3),fun _=>h3⟩
end MS
open Go.RowKit
theorem mm {p q : Int} (h : p ≤ q) : ∀ os,mZ q os ≤ mZ p os
 | [] => Nat.le_refl _
 | o :: os => by
   have ih:=mm h os
   unfold mZ
   split
   · rw [if_pos (by omega)];omega
   · omega
theorem uA (g : Pa) {p q : Int} (h : p ≤ q) : odC g q ≤ odC g p:=mm h _
theorem nl {p : Int → Prop} : ∀ {us : List Int},(∃ u,u ∈ us ∧ p u) → kV p us ∈ us ∧ p (kV p us):=by
 intro us
 induction us with
 | nil => rintro ⟨u, h, _⟩; cases h
 | cons x us ih =>
   rintro ⟨u,h,hp⟩
   unfold kV
   by_cases e : p x
   · rw [if_pos e];exact ⟨List.mem_cons_self,e⟩
   · rw [if_neg e]
     rcases List.mem_cons.1 h with h|h
     · subst h;exact absurd hp e
     · obtain ⟨a,b⟩:=ih ⟨u,h,hp⟩
       exact ⟨List.mem_cons_of_mem _ a,b⟩
def Liv (g : Pa) (v : Nat) : Prop:=v < g.prio.length ∧ ¬ gi (gr (cI g).least v) 0 = 1
theorem lj {g : Pa} (hs : ec g) {v : Nat} (hv : v < g.prio.length) : MS.Ok (cI g).K (cI g).mx (gr (cI g).least v):=(kg hs).1.1.2 v hv
theorem vT {g : Pa} {t : List (List Int)} {v i : Nat} : (cI g).asks t v i = iw g v (gr t (gi (gr g.ar.nxt v) i).toNat):=rfl
theorem gI {g : Pa} (hs : ec g) {v : Nat} (hv : v < g.prio.length) : (gi g.ar.own v = 0 → ∃ u,u ∈ gr g.ar.nxt v ∧ m8 g v u) ∧ (gi g.ar.own v ≠ 0 → ∀ u,u ∈ gr g.ar.nxt v → m8 g v u):=by
 have hR:=ee hs.1
 have hst:=(kg hs).1.2 v hv
 have hpos : 0 < (gr g.ar.nxt v).length:=hR.pos v hv
 refine ⟨fun ho=>?_,fun ho u hu=>?_⟩
 · obtain ⟨j,h1,h2⟩:=MS.bst_mem ((cI g).mn v) ((cI g).asks (cI g).least v) _ hpos
   refine ⟨gi (gr g.ar.nxt v) j,dz h1,fun hl=>hst ?_⟩
   show MS.lx _ (MS.bst ((cI g).mn v) ((cI g).asks (cI g).least v) (gr g.ar.nxt v).length)
   rw [h2];exact hl
 · obtain ⟨j,h1,h2⟩:=dm hu
   have hmn : (cI g).mn v = false:=ba ho
   have h3:=MS.bst_max ((cI g).asks (cI g).least v) _ j h1
   have h4 : MS.le (MS.bst false ((cI g).asks (cI g).least v) (gr g.ar.nxt v).length) (gr (cI g).least v):=by
    rw [← hmn];exact hst
   have h5:=MS.le_trans h3 h4
   rw [← h2];exact h5
theorem np {g : Pa} (hs : ec g) {v : Nat} (hv : Liv g v) {u : Int} (hu : u ∈ gr g.ar.nxt v) (hm : m8 g v u) : Liv g u.toNat ∧ ¬ MS.dif (odC g (gi g.prio v)) (gr (cI g).least v) (gr (cI g).least u.toNat) ∧ (gi g.prio v % 2 = 1 → MS.dif (odC g (gi g.prio v)) (gr (cI g).least u.toNat) (gr (cI g).least v)):=by
 have hn:=lc hs.1 hv.1 hu
 have hun : u.toNat < g.prio.length:=by omega
 obtain ⟨h1,h2,h3⟩:=MS.ask_ge (kT g _) (ee hs.1).mx0 (lj hs hun) (lj hs hv.1) hv.2 hm
 exact ⟨⟨hun,h1⟩,h2,fun e=>h3 (bP e)⟩
theorem oS {g : Pa} (hs : ec g) : PG.DomBy (pgP g) 0 (gf g) (Liv g) fun v=>(mpV g v).toNat:=by
 have hg:=hs.1
 have hmy : ∀ v,Liv g v → gi g.ar.own v = 0 → mpV g v ∈ gr g.ar.nxt v ∧ m8 g v (mpV g v):=fun v hv ho=>by
  rw [jd ⟨ho,hv.2⟩]
  exact nl ((gI hs hv.1).1 ho)
 have hstep : ∀ x y,Liv g x → (pgP g).E x y → (gi g.ar.own x = 0 → y = (mpV g x).toNat) → (y : Int) ∈ gr g.ar.nxt x ∧ m8 g x y:=fun x y hx he hy=>by
  obtain ⟨_,_,t,ht,e⟩:=(jg _ _).1 he
  by_cases ho : gi g.ar.own x = 0
  · obtain ⟨a,b⟩:=hmy x hx ho
    have:=lc hg hx.1 a
    have e2 : (y : Int) = mpV g x:=by have:=hy ho;omega
    rw [e2];exact ⟨a,b⟩
  · have hm : (y : Int) ∈ gr g.ar.nxt x:=e ▸ dz ht
    exact ⟨hm,(gI hs hx.1).2 ho _ hm⟩
 refine ⟨fun v hv=>hv.1,fun v hv ho=>?_,fun v u hv ho he hu=>?_,PG.wins_of (n:=g.prio.length) (fun v hv=>hv.1) fun v hv hway=>?_⟩
 · rw [iE hg hv.1] at ho
   obtain ⟨a,b⟩:=hmy v hv ho
   have h0:=lc hg hv.1 a
   obtain ⟨t,ht,e⟩:=dm a
   exact ⟨(jg _ _).2 ⟨hv.1,by omega,t,ht,by omega⟩,(np hs hv a b).1⟩
 · rw [iE hg hv.1] at ho
   obtain ⟨a,b⟩:=hstep v u hv he fun h=>absurd h ho
   have:=(np hs hv a b).1
   rwa [Int.toNat_natCast] at this
 · rw [iO hg hv.1]
   have hp:=hg.prio v hv.1
   refine Classical.byContradiction fun hodd=>?_
   have key : ∀ u,PG.Way (fun x y=>(pgP g).E x y ∧ ((pgP g).own x = 0 → y = (mpV g x).toNat)) (fun u=>Liv g u ∧ (pgP g).prio u ≤ (pgP g).prio v) v u → MS.dif (odC g (gi g.prio v)) (gr (cI g).least u) (gr (cI g).least v):=by
    intro u h
    induction h with
    | @one y he l =>
      obtain ⟨a,b⟩:=hstep v y hv he.1 fun ho=>he.2 (by rw [iE hg hv.1];exact ho)
      have h3:=(np hs hv a b).2.2 (by omega)
      rwa [Int.toNat_natCast] at h3
    | @more w y t he l ih =>
      have hw:=t.end
      obtain ⟨a,b⟩:=hstep w y hw.1 he.1 fun ho=>he.2 (by rw [iE hg hw.1.1];exact ho)
      have h2:=(np hs hw.1 a b).2.1
      rw [Int.toNat_natCast] at h2
      have hpw:=hw.2
      rw [iO hg hw.1.1,iO hg hv.1] at hpw
      exact MS.nd_dif (fun hd=>h2 (MS.dif_mono hd (uA g hpw))) ih
   exact MS.dif_irr (key v hway)
end Go.Proofs.Ytfaefmabjjndeaa
namespace Go.Proofs.Ytfaefmabjjndeaa
set_option linter.unusedVariables false
set_option linter.unusedSimpArgs false
open Go.RowKit
inductive Cp (E : Nat → Nat → Prop) (pr : Nat → Int) (p : Int) : Nat → Nat → Prop where
 | zero (v : Nat) : Cp E pr p v 0
 | hit {v u k : Nat} (h : pr v = p) (e : E v u) (t : Cp E pr p u k) : Cp E pr p v (k + 1)
 | pass {v u k : Nat} (h : pr v < p) (e : E v u) (t : Cp E pr p u k) : Cp E pr p v k
theorem we {E : Nat → Nat → Prop} {pr : Nat → Int} {p : Int} {v k : Nat} (h : Cp E pr p v k) (hk : 0 < k) : pr v ≤ p:=by
 cases h with
 | zero => omega
 | hit h e t => omega
 | pass h e t => omega
theorem oT {E : Nat → Nat → Prop} {L : Nat → Prop} {v u x : Nat} (he : E v u) (l : L u) (h : PG.Way E L u x) : PG.Way E L v x:=by
 induction h with
 | one h k => exact .more (.one he l) h k
 | more t h k ih => exact .more ih h k
theorem vU {E : Nat → Nat → Prop} {L : Nat → Prop} {v u x : Nat} (h : PG.Way E L v u) (k : PG.Way E L u x) : PG.Way E L v x:=by
 induction k with
 | one a b => exact .more h a b
 | more t a b ih => exact .more ih a b
theorem vV {E : Nat → Nat → Prop} {pr : Nat → Int} {p : Int} {R : Nat → Prop} (hE : ∀ v u,E v u → R v ∧ R u) {v k : Nat} (h : Cp E pr p v k) : ∃ f : Nat → Nat,(∀ j,j < k → pr (f j) = p ∧ R (f j)) ∧ (∀ j,j + 1 < k → PG.Way E (fun u=>R u ∧ pr u ≤ p) (f j) (f (j + 1))) ∧ (0 < k → v = f 0 ∨ PG.Way E (fun u=>R u ∧ pr u ≤ p) v (f 0)):=by
 induction h with
 | zero v => exact ⟨fun _ => v, fun j h => absurd h (Nat.not_lt_zero _), fun j h => absurd h (Nat.not_lt_zero _), fun h => absurd h (Nat.lt_irrefl _)⟩
 | @hit v u k h e t ih =>
   obtain ⟨f,f1,f2,f3⟩:=ih
   have hv:=(hE v u e).1
   have hw : 0 < k → PG.Way E (fun u=>R u ∧ pr u ≤ p) v (f 0):=fun hk=>by
    rcases f3 hk with e1|e1
    · exact .one (e1 ▸ e) ⟨(f1 0 hk).2,by rw [(f1 0 hk).1];exact Int.le_refl _⟩
    · exact oT e ⟨(hE v u e).2,we t hk⟩ e1
   refine ⟨fun j=>if j = 0 then v else f (j - 1),fun j hj=>?_,fun j hj=>?_,fun _=>.inl rfl⟩
   · simp only
     split
     · exact ⟨h,hv⟩
     · exact f1 (j - 1) (by omega)
   · simp only
     rw [if_neg (show ¬ j + 1 = 0 by omega),Nat.add_sub_cancel]
     split
     · rename_i e0;subst e0;exact hw (by omega)
     · have:=f2 (j - 1) (by omega)
       rwa [show j - 1 + 1 = j by omega] at this
 | @pass v u k h e t ih =>
   obtain ⟨f,f1,f2,f3⟩:=ih
   refine ⟨f,f1,f2,fun hk=>.inr ?_⟩
   rcases f3 hk with e1|e1
   · exact .one (e1 ▸ e) ⟨(f1 0 hk).2,by rw [(f1 0 hk).1];exact Int.le_refl _⟩
   · exact oT e ⟨(hE v u e).2,we t hk⟩ e1
theorem uB (pr : List Int) (p : Int) : ∀ k,fk pr p k = num (fun v=>gi pr v = p) k:=by
 intro k
 induction k with
 | zero => rfl
 | succ k ih =>
   unfold fk
   split
   · rename_i e;rw [dk e,ih]
   · rename_i e;rw [dK e,ih]
theorem uC {g : Pa} (hg : PaOk g) {R : Nat → Prop} {σ : Nat → Nat} (d : PG.DomBy (pgP g) 0 (gf g) R σ) {p : Int} (hp : p % 2 = 1) {v k : Nat} (h : Cp (fun v u=>(R v ∧ R u) ∧ (pgP g).E v u ∧ ((pgP g).own v = 0 → u = σ v)) (pgP g).prio p v k) : (k : Int) ≤ fO g p:=by
 obtain ⟨f,f1,f2,_⟩:=vV (R:=R) (fun v u h=>h.1) h
 rcases Nat.eq_zero_or_pos k with e|hk
 · subst e;exact kd g p
 have chain : ∀ i t,i + t + 1 < k → PG.Way (fun v u=>(R v ∧ R u) ∧ (pgP g).E v u ∧ ((pgP g).own v = 0 → u = σ v)) (fun u=>R u ∧ (pgP g).prio u ≤ p) (f i) (f (i + t + 1)):=by
  intro i t
  induction t with
  | zero => intro h; exact f2 i h
  | succ t ih => intro h; exact vU (ih (by omega)) (f2 (i + t + 1) h)
 have dist : ∀ i j,i < j → j < k → f i ≠ f j:=fun i j hij hj e=>by
  have hw:=chain i (j - i - 1) (by omega)
  rw [show i + (j - i - 1) + 1 = j by omega,← e] at hw
  have hfi:=f1 i (by omega)
  have:=PG.not_bad d.wins (E:=fun v u=>(R v ∧ R u) ∧ (pgP g).E v u ∧ ((pgP g).own v = 0 → u = σ v)) (fun v u _ h=>h.2) hfi.2 (by rw [hfi.1];exact hw)
  rw [hfi.1] at this
  omega
 obtain ⟨F,hF⟩ : ∃ F : Nat → Nat,∀ j,F j = if j < k then f j else f 0:=⟨_,fun _=>rfl⟩
 have hlt : ∀ j,F j < g.prio.length:=fun j=>by
  rw [hF]
  split
  · exact d.sub _ (f1 j (by assumption)).2
  · exact d.sub _ (f1 0 hk).2
 have hn:=oN hlt k fun i j hij hj=>by
  rw [hF,hF,if_pos (show i < k by omega),if_pos hj]
  exact dist i j hij hj
 have hm : num (fun v=>∃ j,j < k ∧ F j = v) g.prio.length ≤ num (fun v=>gi g.prio v = p) g.prio.length:=tS fun t ht ⟨j,hj,e⟩=>by
  rw [hF,if_pos hj] at e
  rw [← e,← iO hg (by rw [e];exact ht)]
  exact (f1 j hj).1
 unfold fO
 rw [uB]
 omega
noncomputable def mxk (Q : Nat → Prop) : Nat → Nat
 | 0 => 0
 | N + 1 => if tf (Q (N + 1)) then N + 1 else mxk Q N
theorem xF (Q : Nat → Prop) : ∀ N,mxk Q N ≤ N:=by
 intro N
 induction N with
 | zero => exact Nat.le_refl _
 | succ N ih => unfold mxk; split <;> omega
theorem xG {Q : Nat → Prop} (h0 : Q 0) : ∀ N,Q (mxk Q N):=by
 intro N
 induction N with
 | zero => exact h0
 | succ N ih =>
   unfold mxk
   by_cases h : Q (N + 1)
   · rw [bP h,mR];exact h
   · rw [ba h,nW];exact ih
theorem xH {Q : Nat → Prop} : ∀ N k,k ≤ N → Q k → k ≤ mxk Q N:=by
 intro N
 induction N with
 | zero => intro k h _; exact h
 | succ N ih =>
   intro k hk h
   unfold mxk
   by_cases e : Q (N + 1)
   · rw [bP e,mR];exact hk
   · rw [ba e,nW]
     by_cases ek : k = N + 1
     · subst ek;exact absurd h e
     · exact ih k (by omega) h
section
variable (g : Pa) (R : Nat → Prop) (σ : Nat → Nat)
def EdS (v u : Nat) : Prop:=(R v ∧ R u) ∧ (pgP g).E v u ∧ ((pgP g).own v = 0 → u = σ v)
noncomputable def dW (p : Int) (v : Nat) : Nat:=mxk (Cp (EdS g R σ) (pgP g).prio p v) (fO g p).toNat
noncomputable def sM (v : Nat) : List Int:=if tf (R v) then tab ((cu g).length + 1) fun i=>if i = 0 then 0 else (dW g R σ (gi (cu g) (i - 1)) v : Int) else [1]
noncomputable def sT : List (List Int):=dv g.prio.length (sM g R σ)
end
theorem q6 (g : Pa) {x : Int} : x ∈ cu g ↔ (0 ≤ x ∧ x < 41 ∧ x % 2 = 1 ∧ x ∈ g.prio):=by
 unfold cu
 rw [List.mem_reverse,fx]
 constructor
 · rintro ⟨v,h1,⟨h2,h3⟩,e⟩;subst e;exact ⟨by omega,by omega,h2,h3⟩
 · rintro ⟨h1,h2,h3,h4⟩
   refine ⟨x.toNat,by omega,?_,by omega⟩
   rw [Int.toNat_of_nonneg h1];exact ⟨h3,h4⟩
variable {g : Pa} {R : Nat → Prop} {σ : Nat → Nat}
theorem yQ (p : Int) (v : Nat) : (dW g R σ p v : Int) ≤ fO g p:=by
 have:=xF (Cp (EdS g R σ) (pgP g).prio p v) (fO g p).toNat
 have:=kd g p
 unfold dW;omega
theorem wg (hg : PaOk g) (d : PG.DomBy (pgP g) 0 (gf g) R σ) {p : Int} (hp : p % 2 = 1) {v k : Nat} (h : Cp (EdS g R σ) (pgP g).prio p v k) : k ≤ dW g R σ p v:=by
 have:=uC hg d hp h
 exact xH _ k (by omega) h
theorem wh (p : Int) (v : Nat) : Cp (EdS g R σ) (pgP g).prio p v (dW g R σ p v):=xG (.zero v) _
theorem q7 (hg : PaOk g) (d : PG.DomBy (pgP g) 0 (gf g) R σ) {p : Int} (hp : p % 2 = 1) {v u : Nat} (he : EdS g R σ v u) (hpv : gi g.prio v ≤ p) : dW g R σ p u ≤ dW g R σ p v ∧ (gi g.prio v = p → dW g R σ p u + 1 ≤ dW g R σ p v):=by
 have hv : (pgP g).prio v = gi g.prio v:=iO hg (d.sub _ he.1.1)
 by_cases e : gi g.prio v = p
 · have:=wg hg d hp (.hit (hv.trans e) he (wh p u))
   exact ⟨by omega,fun _=>this⟩
 · exact ⟨wg hg d hp (.pass (by omega) he (wh p u)),fun h=>absurd h e⟩
theorem uD {v : Nat} (h : R v) : sM g R σ v = tab ((cu g).length + 1) fun i=>if i = 0 then 0 else (dW g R σ (gi (cu g) (i - 1)) v : Int):=by unfold sM;rw [bP h,mR]
theorem uE {v : Nat} (h : ¬ R v) : sM g R σ v = [1]:=by unfold sM;rw [ba h,nW]
theorem uF {v : Nat} (h : R v) : gi (sM g R σ v) 0 = 0:=by rw [uD h,cK _ (by omega)];rfl
theorem uG {v i : Nat} (h : R v) (hi : i < (cu g).length) : gi (sM g R σ v) (i + 1) = (dW g R σ (gi (cu g) i) v : Int):=by rw [uD h,cK _ (by omega),if_neg (by omega)];rfl
theorem mo (v : Nat) : MS.Ok (cI g).K (cI g).mx (sM g R σ v):=by
 by_cases h : R v
 · refine .inr ⟨by rw [uD h];exact cy _ _,uF h,fun i hi=>?_⟩
   rw [uG h hi]
   exact ⟨by omega,yQ _ _⟩
 · rw [uE h];exact .inl rfl
theorem xI (hg : PaOk g) (d : PG.DomBy (pgP g) 0 (gf g) R σ) {v u : Nat} (he : EdS g R σ v u) : MS.le (iw g v (sM g R σ u)) (sM g R σ v):=by
 have hv:=he.1.1
 have hu:=he.1.2
 have hvn : v < g.prio.length:=d.sub _ hv
 have hK : odC g (gi g.prio v) ≤ (cu g).length:=kT _ _
 have hx:=(ee hg).mx0
 have hu0 : gi (sM g R σ u) 0 ≠ 1:=by rw [uF hu];decide
 have hcut:=MS.cut_ok (c:=odC g (gi g.prio v)) hK hx (mo (g:=g) (R:=R) (σ:=σ) u) hu0
 have hcg:=MS.gi_cut (K:=(cu g).length) hK (sM g R σ u)
 have hodd : ∀ i,i < (cu g).length → gi (cu g) i % 2 = 1:=fun i hi=>((q6 g).1 (dz hi)).2.2.1
 have hcomp : ∀ i,i ≤ (cu g).length → gi (MS.cut (cu g).length (odC g (gi g.prio v)) (sM g R σ u)) i ≤ gi (sM g R σ v) i:=fun i hi=>by
  rw [hcg]
  have hnn:=MS.ok_nn (mo (g:=g) (R:=R) (σ:=σ) v) i
  split
  · rcases i with _|i
    · rw [uF hu,uF hv];exact Int.le_refl _
    · rw [uG hu (by omega),uG hv (by omega)]
      have:=(q7 hg d (hodd i (by omega)) he ((kc g _ (by omega)).2 (by omega))).1
      omega
  · exact hnn
 unfold iw MS.ask
 rw [if_neg hu0]
 by_cases ho : gi g.prio v % 2 = 1
 · rw [bP ho,mR]
   obtain ⟨j,hj,ej⟩:=dm ((q6 g).2 ⟨(hg.prio v hvn).1,by have:=(hg.prio v hvn).2;omega,ho,dz hvn⟩)
   have hjc : j < odC g (gi g.prio v):=(kc g _ hj).1 (by omega)
   refine MS.inc_least hK hcut (by rw [hcg,if_pos (Nat.zero_le _)];exact hu0) (fun i hi=>by rw [hcg,if_neg (by omega)]) (mo v) hx ?_
   rcases MS.dif_tri (odC g (gi g.prio v)) (MS.cut (cu g).length (odC g (gi g.prio v)) (sM g R σ u)) (sM g R σ v) with e|e|e
   · exact e
   · have h1:=e (j + 1) (by omega)
     rw [hcg,if_pos (by omega),uG hu hj,uG hv hj] at h1
     have:=(q7 hg d (hodd j hj) he (by omega)).2 ej.symm
     omega
   · obtain ⟨i,i1,_,i3⟩:=e
     have:=hcomp i (by omega)
     omega
 · rw [ba ho,nW]
   show ¬ MS.lx _ _
   rw [MS.lx_ok (mo v) hcut]
   rintro ⟨i,i1,_,i3⟩
   have:=hcomp i i1
   omega
theorem oU {v : Nat} (hv : v < g.prio.length) : gr (sT g R σ) v = sM g R σ v:=dy _ hv
theorem sk (hs : ec g) (d : PG.DomBy (pgP g) 0 (gf g) R σ) : (cI g).Steady (sT g R σ):=by
 have hg:=hs.1
 have hR:=ee hg
 have hT : (cI g).Tab (sT g R σ):=⟨eI _ _,fun v hv=>by rw [oU hv];exact mo v⟩
 refine ⟨hT,fun v hv=>?_⟩
 have hv' : v < g.prio.length:=hv
 have hdem:=MS.dem_ok hR hT hv
 by_cases hr : R v
 · have hask : ∀ i,i < (gr g.ar.nxt v).length → R (gi (gr g.ar.nxt v) i).toNat → (gi g.ar.own v = 0 → (gi (gr g.ar.nxt v) i).toNat = σ v) → MS.le ((cI g).asks (sT g R σ) v i) (gr (sT g R σ) v):=fun i hi hru hso=>by
    have hb:=dS hg hv' hi
    rw [vT,oU hv',oU (by omega)]
    refine xI hg d ⟨⟨hr,hru⟩,ud hg hv' hi,fun ho=>hso ?_⟩
    rw [iE hg hv'] at ho;exact ho
   by_cases ho : gi g.ar.own v = 0
   · obtain ⟨m1,m2⟩:=d.mine v hr (by rw [iE hg hv'];exact ho)
     obtain ⟨_,_,t,ht,e⟩:=(jg _ _).1 m1
     have h1:=hask t ht (by rw [e,Int.toNat_natCast];exact m2) fun _=>by rw [e,Int.toNat_natCast]
     have hmn : (cI g).mn v = true:=bP ho
     have h2:=MS.bst_min ((cI g).asks (sT g R σ) v) _ t ht
     have h3:=MS.le_trans h2 h1
     show ¬ MS.lx _ (MS.bst ((cI g).mn v) ((cI g).asks (sT g R σ) v) (gr g.ar.nxt v).length)
     rw [hmn];exact h3
   · obtain ⟨j,h1,h2⟩:=MS.bst_mem ((cI g).mn v) ((cI g).asks (sT g R σ) v) _ (hR.pos v hv)
     have hb:=dS hg hv' h1
     have hru:=d.yours v _ hr (by rw [iE hg hv'];exact ho) (ud hg hv' h1) (show _ < _ by omega)
     have h3:=hask j h1 hru fun h=>absurd h ho
     show ¬ MS.lx _ (MS.bst ((cI g).mn v) ((cI g).asks (sT g R σ) v) (gr g.ar.nxt v).length)
     have h2' : MS.bst ((cI g).mn v) ((cI g).asks (sT g R σ) v) (gr g.ar.nxt v).length = (cI g).asks (sT g R σ) v j:=h2
     rw [h2'];exact h3
 · rw [oU hv',uE hr,MS.lx_ok MS.ok_lost hdem]
   rintro ⟨i,i1,i2,i3⟩
   rcases i with _|i
   · rcases hdem.h0 with e|e
     · rw [e] at i3;exact absurd i3 (by decide)
     · rw [e] at i3;exact absurd i3 (by decide)
   · have e:=hdem.lost.1 ((i2 0 (by omega)).symm.trans rfl)
     rw [e] at i3;omega
theorem oV (hs : ec g) : mwL g = cj g:=by
 have hg:=hs.1
 refine (kY (by rw [eN];exact cy _ _)).2 fun v hv=>?_
 have hv' : v < g.prio.length:=by rw [mwL,cy] at hv;exact hv
 rw [mwL,cK _ hv']
 by_cases h : gi (gr (cI g).least v) 0 = 1
 · rw [if_pos h]
   refine ((kj hv').resolve_left fun e=>?_).symm
   obtain ⟨R,⟨σ,d⟩,hr⟩:=(ji hg hv' (.inl rfl)).1 e
   have hle:=(kg hs).2 _ (sk hs d) v hv'
   rw [oU hv',(lj hs hv').lost.1 h] at hle
   exact hle (MS.lx_lost (mo v) (by rw [uF hr];decide))
 · rw [if_neg h]
   exact ((ji hg hv' (.inl rfl)).2 ⟨_,⟨_,oS hs⟩,hv',h⟩).symm
end Go.Proofs.Ytfaefmabjjndeaa
namespace Go.Proofs.Ytfaefmabjjndeaa
set_option linter.unusedVariables false
set_option linter.unusedSimpArgs false
open Go.RowKit
attribute [local irreducible] aG cP Aw Le
def jG (ps qs : List Int) (k : Nat) : List Int:=tab k fun v=>if 0 ≤ gi qs v ∧ 0 ≤ gi ps v then gi qs v else gi ps v
theorem uH (ps qs : List Int) (hq : qs.length = ps.length) (hl : ps.length ≤ 1048576) : aG Try.prog 41 [.c (.I ps),.c (.I qs)] [.arr 2 .yes (.I (jG ps qs ps.length))] (fun ns=>.sl (ns.getD 0 0)):=by
 (refine b8 aP Try.func41 rfl rfl (by kernel_rfl) fun hp0 ν hX hN=>?_;simp only [cS,Nat.reduceAdd])
 (repeat' (first|(with_reducible first|(refine hK _ _ ?_;clear hK K)|(refine aa _ ?_;clear aa K)|refine bm ?_|refine ce ?_|refine bd ?_|refine ax ?_|refine au ?_|refine cf ?_|refine aK ?_|refine be ?_|refine cg ?_|refine bf ?_|refine bg rfl ?_|refine bn ?_|refine bh ?_|refine ch ?_|refine bi ?_|refine aJ ?_|refine n_k ?_|refine bj ?_|(refine ae ?_;clear ae X af Y)|(refine af ?_;clear ae X af Y))|(with_reducible refine bt ?_;first|refine bp rfl ?_|refine br rfl ?_)|(with_reducible refine bA ?_;first|refine ay rfl rfl rfl rfl ?_|refine aM rfl rfl rfl ?_|refine bw rfl rfl rfl rfl ?_)|((first|(with_reducible first|refine bu rfl rfl fun K hK=>?_|refine bv rfl rfl fun K aa=>?_|refine aL fun X Y ae af=>?_|refine aN ?_)|(with_reducible refine bA ?_;refine bN rfl rfl fun X Y ae af=>?_));simp (disch:=first|decide|omega|(simp only [List.length_cons,List.length_nil];omega)) only [go_sem,beq_self_eq_true,↓aj,↓ak hN,am hN,reduceIte,reduceCtorEq,Nat.reduceAdd,Nat.reduceLT,Nat.reduceLeDiff,Nat.reduceEqDiff,Nat.reduceSub])|(with_reducible refine And.intro (fun h=>?_) (fun h=>?_) <;> try (exfalso;omega))|(with_reducible refine bo aP hN rfl ?_ ?_;kernel_rfl)|(with_reducible refine And.intro ?_ ?_)|(refine ah ?_;omega)|(exact bz hN (by decide))))
 (refine cr (fun (k : Nat)=>(tmL [(6,.c (.int .i64 k)),(5,.sl (ν 0)),(0,.c (.I ps)),(1,.c (.I qs))],hpL hp0 ν [.arr 2 .yes (.I (jG ps qs k))])) (fun (k : Nat)=>k ≤ ps.length) (fun (k : Nat)=>ps.length - k) ⟨0,?_,bZ hX hN [] ?_ ?_⟩ ?_;(repeat' (first|(with_reducible first|exact bS _|exact bT|exact bU|refine bV ?_ ?_|refine bW ?_ ?_|exact az _|exact bQ _|exact ap _|rfl|exact aU _ _|refine aB ?_|exact bR _|refine aY ?_)|refine bX rfl ?_ ?_|exact aV hN _ rfl rfl rfl|exact aW hN _ rfl rfl rfl|exact aC hN _ rfl rfl rfl (Or.inr rfl)|(refine aX hN _ rfl rfl (by first|exact Or.inr rfl|exact Or.inl rfl) ?_;first|exact aH _|exact aI _)|refine aD hN rfl ?_|refine aE hN rfl rfl ?_|exact aA hN _ rfl rfl|exact aF hN rfl rfl rfl rfl|(with_reducible first|refine aT ?_|refine bJ ?_|refine bK ?_|refine bL ?_|refine bH ?_|refine bI ?_)));(try (any_goals (first|(with_reducible rfl)|(refine ah ?_;omega)))))
 · rfl
 intro k hk
 have htl : (jG ps qs k).length = k:=cy _ _
 have hsu : ∀ x,x = (if 0 ≤ gi qs k ∧ 0 ≤ gi ps k then gi qs k else gi ps k) → jG ps qs (k + 1) = jG ps qs k ++ [x]:=fun x e=>by rw [jG,fe,e];rfl
 by_cases hkl : k < ps.length
 · (repeat' (first|(with_reducible first|(refine hK _ _ ?_;clear hK K)|(refine aa _ ?_;clear aa K)|refine bm ?_|refine ce ?_|refine bd ?_|refine ax ?_|refine au ?_|refine cf ?_|refine aK ?_|refine be ?_|refine cg ?_|refine bf ?_|refine bg rfl ?_|refine bn ?_|refine bh ?_|refine ch ?_|refine bi ?_|refine aJ ?_|refine n_k ?_|refine bj ?_|(refine ae ?_;clear ae X af Y)|(refine af ?_;clear ae X af Y))|(with_reducible refine bt ?_;first|refine bp rfl ?_|refine br rfl ?_)|(with_reducible refine bA ?_;first|refine ay rfl rfl rfl rfl ?_|refine aM rfl rfl rfl ?_|refine bw rfl rfl rfl rfl ?_)|((first|(with_reducible first|refine bu rfl rfl fun K hK=>?_|refine bv rfl rfl fun K aa=>?_|refine aL fun X Y ae af=>?_|refine aN ?_)|(with_reducible refine bA ?_;refine bN rfl rfl fun X Y ae af=>?_));simp (disch:=first|decide|omega|(simp only [List.length_cons,List.length_nil];omega)) only [go_sem,beq_self_eq_true,↓aj,↓ak hN,am hN,reduceIte,reduceCtorEq,Nat.reduceAdd,Nat.reduceLT,Nat.reduceLeDiff,Nat.reduceEqDiff,Nat.reduceSub])|(with_reducible refine And.intro (fun h=>?_) (fun h=>?_) <;> try (exfalso;omega))|(with_reducible refine bo aP hN rfl ?_ ?_;kernel_rfl)|(with_reducible refine And.intro ?_ ?_)|(refine ah ?_;omega)|(exact bz hN (by decide))))
   · (refine ⟨k + 1,⟨?_,?_⟩,bZ hX hN [(0,2)] ?_ ?_⟩;(try any_goals dsimp only);(repeat' (first|(with_reducible first|exact bS _|exact bT|exact bU|refine bV ?_ ?_|refine bW ?_ ?_|exact az _|exact bQ _|exact ap _|rfl|exact aU _ _|refine aB ?_|exact bR _|refine aY ?_)|refine bX rfl ?_ ?_|exact aV hN _ rfl rfl rfl|exact aW hN _ rfl rfl rfl|exact aC hN _ rfl rfl rfl (Or.inr rfl)|(refine aX hN _ rfl rfl (by first|exact Or.inr rfl|exact Or.inl rfl) ?_;first|exact aH _|exact aI _)|refine aD hN rfl ?_|refine aE hN rfl rfl ?_|exact aA hN _ rfl rfl|exact aF hN rfl rfl rfl rfl|(with_reducible first|refine aT ?_|refine bJ ?_|refine bK ?_|refine bL ?_|refine bH ?_|refine bI ?_)));(try (any_goals (first|(with_reducible rfl)|(refine ah ?_;omega)))))
     exact hsu _ (if_pos ⟨by assumption,by assumption⟩).symm
   · (refine ⟨k + 1,⟨?_,?_⟩,bZ hX hN [(0,2)] ?_ ?_⟩;(try any_goals dsimp only);(repeat' (first|(with_reducible first|exact bS _|exact bT|exact bU|refine bV ?_ ?_|refine bW ?_ ?_|exact az _|exact bQ _|exact ap _|rfl|exact aU _ _|refine aB ?_|exact bR _|refine aY ?_)|refine bX rfl ?_ ?_|exact aV hN _ rfl rfl rfl|exact aW hN _ rfl rfl rfl|exact aC hN _ rfl rfl rfl (Or.inr rfl)|(refine aX hN _ rfl rfl (by first|exact Or.inr rfl|exact Or.inl rfl) ?_;first|exact aH _|exact aI _)|refine aD hN rfl ?_|refine aE hN rfl rfl ?_|exact aA hN _ rfl rfl|exact aF hN rfl rfl rfl rfl|(with_reducible first|refine aT ?_|refine bJ ?_|refine bK ?_|refine bL ?_|refine bH ?_|refine bI ?_)));(try (any_goals (first|(with_reducible rfl)|(refine ah ?_;omega)))))
     exact hsu _ (if_neg fun h=>absurd h.2 (by assumption)).symm
   · (refine ⟨k + 1,⟨?_,?_⟩,bZ hX hN [(0,2)] ?_ ?_⟩;(try any_goals dsimp only);(repeat' (first|(with_reducible first|exact bS _|exact bT|exact bU|refine bV ?_ ?_|refine bW ?_ ?_|exact az _|exact bQ _|exact ap _|rfl|exact aU _ _|refine aB ?_|exact bR _|refine aY ?_)|refine bX rfl ?_ ?_|exact aV hN _ rfl rfl rfl|exact aW hN _ rfl rfl rfl|exact aC hN _ rfl rfl rfl (Or.inr rfl)|(refine aX hN _ rfl rfl (by first|exact Or.inr rfl|exact Or.inl rfl) ?_;first|exact aH _|exact aI _)|refine aD hN rfl ?_|refine aE hN rfl rfl ?_|exact aA hN _ rfl rfl|exact aF hN rfl rfl rfl rfl|(with_reducible first|refine aT ?_|refine bJ ?_|refine bK ?_|refine bL ?_|refine bH ?_|refine bI ?_)));(try (any_goals (first|(with_reducible rfl)|(refine ah ?_;omega)))))
     exact hsu _ (if_neg fun h=>absurd h.1 (by assumption)).symm
 · (repeat' (first|(with_reducible first|(refine hK _ _ ?_;clear hK K)|(refine aa _ ?_;clear aa K)|refine bm ?_|refine ce ?_|refine bd ?_|refine ax ?_|refine au ?_|refine cf ?_|refine aK ?_|refine be ?_|refine cg ?_|refine bf ?_|refine bg rfl ?_|refine bn ?_|refine bh ?_|refine ch ?_|refine bi ?_|refine aJ ?_|refine n_k ?_|refine bj ?_|(refine ae ?_;clear ae X af Y)|(refine af ?_;clear ae X af Y))|(with_reducible refine bt ?_;first|refine bp rfl ?_|refine br rfl ?_)|(with_reducible refine bA ?_;first|refine ay rfl rfl rfl rfl ?_|refine aM rfl rfl rfl ?_|refine bw rfl rfl rfl rfl ?_)|((first|(with_reducible first|refine bu rfl rfl fun K hK=>?_|refine bv rfl rfl fun K aa=>?_|refine aL fun X Y ae af=>?_|refine aN ?_)|(with_reducible refine bA ?_;refine bN rfl rfl fun X Y ae af=>?_));simp (disch:=first|decide|omega|(simp only [List.length_cons,List.length_nil];omega)) only [go_sem,beq_self_eq_true,↓aj,↓ak hN,am hN,reduceIte,reduceCtorEq,Nat.reduceAdd,Nat.reduceLT,Nat.reduceLeDiff,Nat.reduceEqDiff,Nat.reduceSub])|(with_reducible refine And.intro (fun h=>?_) (fun h=>?_) <;> try (exfalso;omega))|(with_reducible refine bo aP hN rfl ?_ ?_;kernel_rfl)|(with_reducible refine And.intro ?_ ?_)|(refine ah ?_;omega)|(exact bz hN (by decide))))
   (refine dC hN (i:=0) (.inr rfl) (by first|rfl|(simp (disch:=first|decide|omega|(simp only [List.length_cons,List.length_nil];omega)) only [cw,cA,cF,cG,go_sem,beq_self_eq_true,↓aj,↓ak hN,am hN,reduceIte,reduceCtorEq,Nat.reduceAdd,Nat.reduceLT,Nat.reduceLeDiff,Nat.reduceEqDiff,Nat.reduceSub];rfl)) rfl ?_ rfl)
   rw [show k = ps.length by omega]
theorem qd (g : Pa) (hg : PaOk g) (even odd : List Int) (h0 : eQ g.ar 0 even) (h1 : eQ g.ar 1 odd) (v : Nat) (hv : v < g.prio.length) : aG Try.prog 43 [paA g,.c (.I even),.c (.I odd),.c (.int .i64 v)] [] (fun _=>.c (.int .i64 (en g.prio (eV (itP g.ar even odd v) g.prio.length) (eV (itP g.ar even odd v) g.prio.length).length % 2))):=by
 have c1:=si g hg even odd h0 h1 v hv
 have c2:=qb g hg _ _ (ux hg h0 h1 hv)
 (refine b8 aP Try.func43 rfl rfl (by kernel_rfl) fun hp0 ν hX hN=>?_;simp only [cS,Nat.reduceAdd])
 (repeat' (first|(with_reducible first|(refine hK _ _ ?_;clear hK K)|(refine aa _ ?_;clear aa K)|refine bm ?_|refine ce ?_|refine bd ?_|refine ax ?_|refine au ?_|refine cf ?_|refine aK ?_|refine be ?_|refine cg ?_|refine bf ?_|refine bg rfl ?_|refine bn ?_|refine bh ?_|refine ch ?_|refine bi ?_|refine aJ ?_|refine n_k ?_|refine bj ?_|(refine ae ?_;clear ae X af Y)|(refine af ?_;clear ae X af Y))|(with_reducible refine bt ?_;first|refine bp rfl ?_|refine br rfl ?_)|(with_reducible refine bA ?_;first|refine ay rfl rfl rfl rfl ?_|refine aM rfl rfl rfl ?_|refine bw rfl rfl rfl rfl ?_)|((first|(with_reducible first|refine bu rfl rfl fun K hK=>?_|refine bv rfl rfl fun K aa=>?_|refine aL fun X Y ae af=>?_|refine aN ?_));simp (disch:=first|decide|omega|(simp only [List.length_cons,List.length_nil];omega)) only [go_sem,beq_self_eq_true,↓aj,↓ak hN,am hN,reduceIte,reduceCtorEq,Nat.reduceAdd,Nat.reduceLT,Nat.reduceLeDiff,Nat.reduceEqDiff,Nat.reduceSub])|(with_reducible refine And.intro (fun h=>?_) (fun h=>?_) <;> try (exfalso;omega))|(with_reducible refine bo aP hN rfl ?_ ?_;kernel_rfl)|((first|refine bc (c1) ?_ rfl (fun _=>rfl) ?_|refine bc (c2) ?_ rfl (fun _=>rfl) ?_);focus ((repeat' (first|(with_reducible first|exact aq|refine ao ?_ ?_|exact cn _|refine aZ ?_|exact aS _|exact bG _ _|refine bF ?_|exact aQ _)|exact a8 hN rfl rfl|(refine bE hN rfl ?_;first|exact aH _|exact aI _)|exact aR rfl rfl rfl));done))|(with_reducible first|exact aq|refine ao ?_ ?_|exact cn _|refine aZ ?_|exact aS _|exact bG _ _|refine bF ?_|exact aQ _)|exact a8 hN rfl rfl|(refine bE hN rfl ?_;first|exact aH _|exact aI _)|exact aR rfl rfl rfl|(simp only [bC,List.map_nil])|(with_reducible refine cc ?_)|(with_reducible refine And.intro ?_ ?_)|(refine ah ?_;omega)|(exact bz hN (by decide))))
 (refine cQ (.inr rfl) (by first|rfl|(simp (disch:=first|decide|omega|(simp only [List.length_cons,List.length_nil];omega)) only [cw,cA,cF,cG,go_sem,beq_self_eq_true,↓aj,↓ak hN,am hN,reduceIte,reduceCtorEq,Nat.reduceAdd,Nat.reduceLT,Nat.reduceLeDiff,Nat.reduceEqDiff,Nat.reduceSub];rfl)) ?_)
 rfl
theorem xJ {g : Pa} (hs : ec g) {v : Nat} (hv : v < g.prio.length) (h : 0 ≤ mpV g v) : gi g.ar.own v = 0 ∧ mpV g v ∈ gr g.ar.nxt v:=by
 by_cases hc : gi g.ar.own v = 0 ∧ ¬ gi (gr (cI g).least v) 0 = 1
 · refine ⟨hc.1,?_⟩
   rw [jd hc]
   exact (nl ((gI hs hv).1 hc.1)).1
 · rw [pS hc] at h;omega
theorem uI {g : Pa} (hs : ec g) {ps : List Int} (hp : eQ g.ar 0 ps) : eQ g.ar 0 (jG ps (mpL g) ps.length):=by
 have hg:=hs.1
 have hl:=hg.len
 have hpl:=hp.1.1
 have e1 : (jG ps (mpL g) ps.length).length = ps.length:=cy _ _
 have e2 : ∀ v,v < ps.length → gi (jG ps (mpL g) ps.length) v = if 0 ≤ mpV g v ∧ 0 ≤ gi ps v then mpV g v else gi ps v:=fun v hv=>by rw [jG,cK _ hv,mpL,cK _ (by omega)]
 refine ⟨⟨by omega,fun v hv=>?_⟩,fun v hv ho=>?_⟩
 · rw [e2 v (by omega)]
   split
   · rename_i h
     exact .inr (xJ hs (by omega) h.1)
   · exact hp.1.2 v (by omega)
 · rw [e2 v (by omega)]
   split
   · rename_i h;exact h.1
   · exact hp.2 v (by omega) ho
theorem xK {g : Pa} (hs : ec g) {ps : List Int} (hp : eQ g.ar 0 ps) {v : Nat} (hv : Liv g v) (ho : gi g.ar.own v = 0) : (gi (jG ps (mpL g) ps.length) v).toNat = (mpV g v).toNat:=by
 have hg:=hs.1
 have hl:=hg.len
 have hpl:=hp.1.1
 have hvn:=hv.1
 have hin : mpV g v ∈ gr g.ar.nxt v:=by rw [jd ⟨ho,hv.2⟩];exact (nl ((gI hs hv.1).1 ho)).1
 rw [jG,cK _ (by omega),mpL,cK _ hvn,if_pos ⟨(lc hg hvn hin).1,hp.2 v (by omega) ho⟩]
set_option maxHeartbeats 4000000 in
theorem nq (bs : List Int) (hb : ∀ j,j < bs.length → 0 ≤ gi bs j ∧ gi bs j ≤ 255) (hlb : bs.length ≤ 9223372036854775807) : aG Try.prog 7 [.c (.Y bs)] [] (fun _=>.c (.bool true)):=by
 have hbig:=yM bs hlb
 by_cases hl : bs.length ≤ 4096
 · rw [show decide ((bs.length : Int) > 4096) = false by rw [decide_eq_false_iff_not];omega] at hbig
   have hroll:=xA bs hl hb 907
   generalize wb bs hl hb 907 = d at hroll
   have hgame:=uc d 7 (by omega)
   obtain ⟨hg,hlen,_⟩:=t8 (d:=d) (most:=7) (pm:=6) (by omega) (by omega)
   generalize hG : g7 d 7 6 = G at *
   obtain ⟨g,d1⟩:=G
   simp only at hgame hg hlen
   have hs : ec g:=⟨hg,by omega⟩
   have hln:=hg.len
   have hWl:=eN g
   have hPl : (mpL g).length = g.prio.length:=cy _ _
   have c1:=vD g hs
   have c2:=tH g hs
   rw [oV hs] at c1
   have c3:=sd g hg
   have lk:=pZ (cj g) (cj g) (by omega)
   rw [bP rfl] at lk
   have p1:=oR d1 g.ar hg.ar 0
   have f1:=li hg (who:=0) d1
   generalize iG d1 g.ar 0 = q1 at *
   obtain ⟨Q,d2⟩:=q1
   have p2:=oR d2 g.ar hg.ar 1
   have f2:=li hg (who:=1) d2
   generalize iG d2 g.ar 1 = q2 at *
   obtain ⟨O,d3⟩:=q2
   dsimp only at *
   have hQl:=f1.1.1
   have c4:=uH Q (mpL g) (by omega) (by omega)
   have f3:=uI hs f1
   have hat:=fun v=>xK (v:=v) hs f1
   generalize jG Q (mpL g) Q.length = E at *
   have hwin : ∀ v,v < g.prio.length → gi (cj g) v = 0 → en g.prio (eV (itP g.ar E O v) g.prio.length) (eV (itP g.ar E O v) g.prio.length).length % 2 = 0:=fun v hv h0=>by
    rw [← oV hs,mwL,cK _ hv] at h0
    have hlv : Liv g v:=⟨hv,fun e=>by rw [if_pos e] at h0;omega⟩
    exact uw hg f3 f2 (.inl rfl) (oS hs) hlv fun x hx ho=>by rw [if_pos rfl];exact hat x hx ho
   (refine b8 aP Try.func7 rfl rfl (by kernel_rfl) fun hp0 ν hX hN=>?_;simp only [cS,Nat.reduceAdd])
   (repeat' (first|(with_reducible first|(refine hK _ _ ?_;clear hK K)|(refine aa _ ?_;clear aa K)|refine bm ?_|refine ce ?_|refine bd ?_|refine ax ?_|refine au ?_|refine cf ?_|refine aK ?_|refine be ?_|refine cg ?_|refine bf ?_|refine bg rfl ?_|refine bn ?_|refine bh ?_|refine ch ?_|refine bi ?_|refine aJ ?_|refine n_k ?_|refine bj ?_|(refine ae ?_;clear ae X af Y)|(refine af ?_;clear ae X af Y))|(with_reducible refine bt ?_;first|refine bp rfl ?_|refine br rfl ?_)|(with_reducible refine bA ?_;first|refine ay rfl rfl rfl rfl ?_|refine aM rfl rfl rfl ?_|refine bw rfl rfl rfl rfl ?_)|((first|(with_reducible first|refine bu rfl rfl fun K hK=>?_|refine bv rfl rfl fun K aa=>?_|refine aL fun X Y ae af=>?_|refine aN ?_)|(with_reducible refine bA ?_;refine bN rfl rfl fun X Y ae af=>?_));simp (disch:=first|decide|omega|(simp only [List.length_cons,List.length_nil];omega)) only [go_sem,beq_self_eq_true,↓aj,↓ak hN,am hN,reduceIte,reduceCtorEq,Nat.reduceAdd,Nat.reduceLT,Nat.reduceLeDiff,Nat.reduceEqDiff,Nat.reduceSub])|(with_reducible refine And.intro (fun h=>?_) (fun h=>?_) <;> try (exfalso;omega))|(with_reducible refine bo aP hN rfl ?_ ?_;kernel_rfl)|(refine bc hbig ?_ rfl (fun _=>rfl) ?_)|(refine tn (hroll) rfl (fun ν'=>?_) ?_ ?_;(focus ((repeat' (first|exact ArgMs.nil|refine ArgMs.cons ?_ ?_|exact jx _|exact i7 (by first|exact aS _|exact aQ _|exact aR rfl rfl rfl) rfl|refine ew ?_));done));(focus (first|exact Or.inl (by simp [bB,AV.names]))))|(refine dD (hgame) hN 0 rfl rfl rfl rfl rfl ?_ ?_ ?_ ?_;(focus (simp [bB,AV.names];done));(focus (intro ν' hν;(repeat' (first|exact ArgMs.nil|refine ArgMs.cons ?_ ?_|exact gJ hν|exact gK hν|exact jx _|exact i7 (by first|exact aS _|exact aQ _|exact aR rfl rfl rfl) rfl|(refine gL hN rfl ?_ (by decide);first|exact aH _|exact aI _)|refine ew ?_));done));(focus (first|exact Or.inr ⟨rfl,rfl,fun _=>rfl⟩|exact Or.inl (by simp [bB,AV.names]))))|((first|refine bc (c1) ?_ rfl (fun _=>rfl) ?_|refine bc (c2) ?_ rfl (fun _=>rfl) ?_|refine bc (c3) ?_ rfl (fun _=>rfl) ?_|refine bc (lk) ?_ rfl (fun _=>rfl) ?_);focus ((repeat' (first|(with_reducible first|exact aq|refine ao ?_ ?_|exact cn _|refine aZ ?_|exact aS _|exact bG _ _|refine bF ?_|exact aQ _)|exact a8 hN rfl rfl|(refine bE hN rfl ?_;first|exact aH _|exact aI _)|exact aR rfl rfl rfl));done))|(refine dD (p1) hN 0 rfl rfl rfl rfl rfl ?_ ?_ ?_ ?_;(focus (simp [bB,AV.names];done));(focus (intro ν' hν;(repeat' (first|exact ArgMs.nil|refine ArgMs.cons ?_ ?_|exact gJ hν|exact gK hν|exact jx _|exact i7 (by first|exact aS _|exact aQ _|exact aR rfl rfl rfl) rfl|(refine gL hN rfl ?_ (by decide);first|exact aH _|exact aI _)|refine ew ?_));done));(focus (first|exact Or.inr ⟨rfl,rfl,fun _=>rfl⟩|exact Or.inl (by simp [bB,AV.names]))))|(refine bc (c4) ?_ rfl (fun _=>rfl) ?_;focus ((repeat' (first|(with_reducible first|exact aq|refine ao ?_ ?_|exact cn _|refine aZ ?_|exact aS _|exact bG _ _|refine bF ?_|exact aQ _)|exact a8 hN rfl rfl|(refine bE hN rfl ?_;first|exact aH _|exact aI _)|exact aR rfl rfl rfl));done))|(refine dD (p2) hN 0 rfl rfl rfl rfl rfl ?_ ?_ ?_ ?_;(focus (simp [bB,AV.names];done));(focus (intro ν' hν;(repeat' (first|exact ArgMs.nil|refine ArgMs.cons ?_ ?_|exact gJ hν|exact gK hν|exact jx _|exact i7 (by first|exact aS _|exact aQ _|exact aR rfl rfl rfl) rfl|(refine gL hN rfl ?_ (by decide);first|exact aH _|exact aI _)|refine ew ?_));done));(focus (first|exact Or.inr ⟨rfl,rfl,fun _=>rfl⟩|exact Or.inl (by simp [bB,AV.names]))))|(with_reducible first|exact aq|refine ao ?_ ?_|exact cn _|refine aZ ?_|exact aS _|exact bG _ _|refine bF ?_|exact aQ _)|exact a8 hN rfl rfl|(refine bE hN rfl ?_;first|exact aH _|exact aI _)|exact aR rfl rfl rfl|(simp only [bC,List.map_nil])|(with_reducible refine cc ?_)|(simp (disch:=first|decide|omega|(simp only [List.length_cons,List.length_nil];omega)) only [bC,List.map_cons,List.map_nil,am hN,List.set_cons_zero,List.set_cons_succ])|(with_reducible refine And.intro ?_ ?_)|(refine ah ?_;omega)|(exact bz hN (by decide))))
   (refine cr (fun (v : Nat)=>(tmL [(9,.c (.int .i64 v)),(8,.sl (ν 8)),(7,.sl (ν 7)),(5,.sl (ν 2)),(4,.ad (ν 1) 0)],hpL hp0 ν [.dead,.box [.c (.I g.ar.own),.c (.R g.ar.nxt),.c (.I g.prio)],.arr 2 .yes (.I (cj g)),.dead,.dead,.dead,.dead,.arr 2 .yes (.I E),.arr 2 .yes (.I O)])) (fun (v : Nat)=>v ≤ g.prio.length) (fun (v : Nat)=>g.prio.length - v) ⟨0,?_,bZ hX hN [] ?_ ?_⟩ ?_;(repeat' (first|(with_reducible first|exact bS _|exact bT|exact bU|refine bV ?_ ?_|refine bW ?_ ?_|exact az _|exact bQ _|exact ap _|rfl|exact aU _ _|refine aB ?_|exact bR _|refine aY ?_)|refine bX rfl ?_ ?_|exact aV hN _ rfl rfl rfl|exact aW hN _ rfl rfl rfl|exact aC hN _ rfl rfl rfl (Or.inr rfl)|(refine aX hN _ rfl rfl (by first|exact Or.inr rfl|exact Or.inl rfl) ?_;first|exact aH _|exact aI _)|refine aD hN rfl ?_|refine aE hN rfl rfl ?_|exact aA hN _ rfl rfl|exact aF hN rfl rfl rfl rfl|(with_reducible first|refine aT ?_|refine bJ ?_|refine bK ?_|refine bL ?_|refine bH ?_|refine bI ?_)));(try (any_goals (first|(with_reducible rfl)|(refine ah ?_;omega)))))
   intro v hv
   by_cases hvl : v < g.prio.length
   · have c5:=qd g hg E O f3 f2 v hvl
     by_cases h0 : gi (cj g) v = 0
     · rw [hwin v hvl h0] at c5
       (repeat' (first|(with_reducible first|(refine hK _ _ ?_;clear hK K)|(refine aa _ ?_;clear aa K)|refine bm ?_|refine ce ?_|refine bd ?_|refine ax ?_|refine au ?_|refine cf ?_|refine aK ?_|refine be ?_|refine cg ?_|refine bf ?_|refine bg rfl ?_|refine bn ?_|refine bh ?_|refine ch ?_|refine bi ?_|refine aJ ?_|refine n_k ?_|refine bj ?_|(refine ae ?_;clear ae X af Y)|(refine af ?_;clear ae X af Y))|(with_reducible refine bt ?_;first|refine bp rfl ?_|refine br rfl ?_)|(with_reducible refine bA ?_;first|refine ay rfl rfl rfl rfl ?_|refine aM rfl rfl rfl ?_|refine bw rfl rfl rfl rfl ?_)|((first|(with_reducible first|refine bu rfl rfl fun K hK=>?_|refine bv rfl rfl fun K aa=>?_|refine aL fun X Y ae af=>?_|refine aN ?_)|(with_reducible refine bA ?_;refine bN rfl rfl fun X Y ae af=>?_));simp (disch:=first|decide|omega|(simp only [List.length_cons,List.length_nil];omega)) only [go_sem,beq_self_eq_true,↓aj,↓ak hN,am hN,reduceIte,reduceCtorEq,Nat.reduceAdd,Nat.reduceLT,Nat.reduceLeDiff,Nat.reduceEqDiff,Nat.reduceSub])|(with_reducible refine And.intro (fun h=>?_) (fun h=>?_) <;> try (exfalso;omega))|(with_reducible refine bo aP hN rfl ?_ ?_;kernel_rfl)|(refine bc (c5) ?_ rfl (fun _=>rfl) ?_;focus ((repeat' (first|(with_reducible first|exact aq|refine ao ?_ ?_|exact cn _|refine aZ ?_|exact aS _|exact bG _ _|refine bF ?_|exact aQ _)|exact a8 hN rfl rfl|(refine bE hN rfl ?_;first|exact aH _|exact aI _)|exact aR rfl rfl rfl));done))|(with_reducible first|exact aq|refine ao ?_ ?_|exact cn _|refine aZ ?_|exact aS _|exact bG _ _|refine bF ?_|exact aQ _)|exact a8 hN rfl rfl|(refine bE hN rfl ?_;first|exact aH _|exact aI _)|exact aR rfl rfl rfl|(simp only [bC,List.map_nil])|(with_reducible refine cc ?_)|(with_reducible refine And.intro ?_ ?_)|(refine ah ?_;omega)|(exact bz hN (by decide))))
       all_goals first|(exact absurd h0 (ko (by assumption)))|(refine ⟨v + 1,⟨?_,?_⟩,bZ hX hN [] ?_ ?_⟩;(try any_goals dsimp only);(repeat' (first|(with_reducible first|exact bS _|exact bT|exact bU|refine bV ?_ ?_|refine bW ?_ ?_|exact az _|exact bQ _|exact ap _|rfl|exact aU _ _|refine aB ?_|exact bR _|refine aY ?_)|refine bX rfl ?_ ?_|exact aV hN _ rfl rfl rfl|exact aW hN _ rfl rfl rfl|exact aC hN _ rfl rfl rfl (Or.inr rfl)|(refine aX hN _ rfl rfl (by first|exact Or.inr rfl|exact Or.inl rfl) ?_;first|exact aH _|exact aI _)|refine aD hN rfl ?_|refine aE hN rfl rfl ?_|exact aA hN _ rfl rfl|exact aF hN rfl rfl rfl rfl|(with_reducible first|refine aT ?_|refine bJ ?_|refine bK ?_|refine bL ?_|refine bH ?_|refine bI ?_)));(try (any_goals (first|(with_reducible rfl)|(refine ah ?_;omega)))))
     · (repeat' (first|(with_reducible first|(refine hK _ _ ?_;clear hK K)|(refine aa _ ?_;clear aa K)|refine bm ?_|refine ce ?_|refine bd ?_|refine ax ?_|refine au ?_|refine cf ?_|refine aK ?_|refine be ?_|refine cg ?_|refine bf ?_|refine bg rfl ?_|refine bn ?_|refine bh ?_|refine ch ?_|refine bi ?_|refine aJ ?_|refine n_k ?_|refine bj ?_|(refine ae ?_;clear ae X af Y)|(refine af ?_;clear ae X af Y))|(with_reducible refine bt ?_;first|refine bp rfl ?_|refine br rfl ?_)|(with_reducible refine bA ?_;first|refine ay rfl rfl rfl rfl ?_|refine aM rfl rfl rfl ?_|refine bw rfl rfl rfl rfl ?_)|((first|(with_reducible first|refine bu rfl rfl fun K hK=>?_|refine bv rfl rfl fun K aa=>?_|refine aL fun X Y ae af=>?_|refine aN ?_)|(with_reducible refine bA ?_;refine bN rfl rfl fun X Y ae af=>?_));simp (disch:=first|decide|omega|(simp only [List.length_cons,List.length_nil];omega)) only [go_sem,beq_self_eq_true,↓aj,↓ak hN,am hN,reduceIte,reduceCtorEq,Nat.reduceAdd,Nat.reduceLT,Nat.reduceLeDiff,Nat.reduceEqDiff,Nat.reduceSub])|(with_reducible refine And.intro (fun h=>?_) (fun h=>?_) <;> try (exfalso;omega))|(with_reducible refine bo aP hN rfl ?_ ?_;kernel_rfl)|(with_reducible refine And.intro ?_ ?_)|(refine ah ?_;omega)|(exact bz hN (by decide))))
       all_goals first|(exact absurd (by assumption) h0)|(refine ⟨v + 1,⟨?_,?_⟩,bZ hX hN [] ?_ ?_⟩;(try any_goals dsimp only);(repeat' (first|(with_reducible first|exact bS _|exact bT|exact bU|refine bV ?_ ?_|refine bW ?_ ?_|exact az _|exact bQ _|exact ap _|rfl|exact aU _ _|refine aB ?_|exact bR _|refine aY ?_)|refine bX rfl ?_ ?_|exact aV hN _ rfl rfl rfl|exact aW hN _ rfl rfl rfl|exact aC hN _ rfl rfl rfl (Or.inr rfl)|(refine aX hN _ rfl rfl (by first|exact Or.inr rfl|exact Or.inl rfl) ?_;first|exact aH _|exact aI _)|refine aD hN rfl ?_|refine aE hN rfl rfl ?_|exact aA hN _ rfl rfl|exact aF hN rfl rfl rfl rfl|(with_reducible first|refine aT ?_|refine bJ ?_|refine bK ?_|refine bL ?_|refine bH ?_|refine bI ?_)));(try (any_goals (first|(with_reducible rfl)|(refine ah ?_;omega)))))
   · (repeat' (first|(with_reducible first|(refine hK _ _ ?_;clear hK K)|(refine aa _ ?_;clear aa K)|refine bm ?_|refine ce ?_|refine bd ?_|refine ax ?_|refine au ?_|refine cf ?_|refine aK ?_|refine be ?_|refine cg ?_|refine bf ?_|refine bg rfl ?_|refine bn ?_|refine bh ?_|refine ch ?_|refine bi ?_|refine aJ ?_|refine n_k ?_|refine bj ?_|(refine ae ?_;clear ae X af Y)|(refine af ?_;clear ae X af Y))|(with_reducible refine bt ?_;first|refine bp rfl ?_|refine br rfl ?_)|(with_reducible refine bA ?_;first|refine ay rfl rfl rfl rfl ?_|refine aM rfl rfl rfl ?_|refine bw rfl rfl rfl rfl ?_)|((first|(with_reducible first|refine bu rfl rfl fun K hK=>?_|refine bv rfl rfl fun K aa=>?_|refine aL fun X Y ae af=>?_|refine aN ?_)|(with_reducible refine bA ?_;refine bN rfl rfl fun X Y ae af=>?_));simp (disch:=first|decide|omega|(simp only [List.length_cons,List.length_nil];omega)) only [go_sem,beq_self_eq_true,↓aj,↓ak hN,am hN,reduceIte,reduceCtorEq,Nat.reduceAdd,Nat.reduceLT,Nat.reduceLeDiff,Nat.reduceEqDiff,Nat.reduceSub])|(with_reducible refine And.intro (fun h=>?_) (fun h=>?_) <;> try (exfalso;omega))|(with_reducible refine bo aP hN rfl ?_ ?_;kernel_rfl)|(with_reducible refine And.intro ?_ ?_)|(refine ah ?_;omega)|(exact bz hN (by decide))))
     (refine cQ (.inr rfl) (by first|rfl|(simp (disch:=first|decide|omega|(simp only [List.length_cons,List.length_nil];omega)) only [cw,cA,cF,cG,go_sem,beq_self_eq_true,↓aj,↓ak hN,am hN,reduceIte,reduceCtorEq,Nat.reduceAdd,Nat.reduceLT,Nat.reduceLeDiff,Nat.reduceEqDiff,Nat.reduceSub];rfl)) ?_)
     rfl
 · rw [show decide ((bs.length : Int) > 4096) = true by rw [decide_eq_true_iff];omega] at hbig
   (refine b8 aP Try.func7 rfl rfl (by kernel_rfl) fun hp0 ν hX hN=>?_;simp only [cS,Nat.reduceAdd])
   (repeat' (first|(with_reducible first|(refine hK _ _ ?_;clear hK K)|(refine aa _ ?_;clear aa K)|refine bm ?_|refine ce ?_|refine bd ?_|refine ax ?_|refine au ?_|refine cf ?_|refine aK ?_|refine be ?_|refine cg ?_|refine bf ?_|refine bg rfl ?_|refine bn ?_|refine bh ?_|refine ch ?_|refine bi ?_|refine aJ ?_|refine n_k ?_|refine bj ?_|(refine ae ?_;clear ae X af Y)|(refine af ?_;clear ae X af Y))|(with_reducible refine bt ?_;first|refine bp rfl ?_|refine br rfl ?_)|(with_reducible refine bA ?_;first|refine ay rfl rfl rfl rfl ?_|refine aM rfl rfl rfl ?_|refine bw rfl rfl rfl rfl ?_)|((first|(with_reducible first|refine bu rfl rfl fun K hK=>?_|refine bv rfl rfl fun K aa=>?_|refine aL fun X Y ae af=>?_|refine aN ?_)|(with_reducible refine bA ?_;refine bN rfl rfl fun X Y ae af=>?_));simp (disch:=first|decide|omega|(simp only [List.length_cons,List.length_nil];omega)) only [go_sem,beq_self_eq_true,↓aj,↓ak hN,am hN,reduceIte,reduceCtorEq,Nat.reduceAdd,Nat.reduceLT,Nat.reduceLeDiff,Nat.reduceEqDiff,Nat.reduceSub])|(with_reducible refine And.intro (fun h=>?_) (fun h=>?_) <;> try (exfalso;omega))|(with_reducible refine bo aP hN rfl ?_ ?_;kernel_rfl)|(refine bc hbig ?_ rfl (fun _=>rfl) ?_)|(with_reducible first|exact aq|refine ao ?_ ?_|exact cn _|refine aZ ?_|exact aS _|exact bG _ _|refine bF ?_|exact aQ _)|exact a8 hN rfl rfl|(refine bE hN rfl ?_;first|exact aH _|exact aI _)|exact aR rfl rfl rfl|(simp only [bC,List.map_nil])|(with_reducible refine cc ?_)|(with_reducible refine And.intro ?_ ?_)|(refine ah ?_;omega)|(exact bz hN (by decide))))
   (refine cQ (.inr rfl) (by first|rfl|(simp (disch:=first|decide|omega|(simp only [List.length_cons,List.length_nil];omega)) only [cw,cA,cF,cG,go_sem,beq_self_eq_true,↓aj,↓ak hN,am hN,reduceIte,reduceCtorEq,Nat.reduceAdd,Nat.reduceLT,Nat.reduceLeDiff,Nat.reduceEqDiff,Nat.reduceSub];rfl)) ?_)
   rfl
end Go.Proofs.Ytfaefmabjjndeaa
