/-
  Priority promotion: what a stage reports as won is won. Plain theory, no program.
-/
import Derived.Test.YtfmnikiinfbanaaZwP3
namespace Go.Proofs.Ytfmnikiinfbanaa
set_option linter.unusedVariables false
set_option linter.unusedSimpArgs false
open Go.RowKit
namespace PG
variable {G : PG.Gm}
structure QReg (G : PG.Gm) (B R : Nat → Prop) (p : Int) (σ : Nat → Nat) : Prop where
  wins : Wins G (p % 2) R σ
  mine : ∀ v,R v → G.own v = p % 2 → (∃ u,G.E v u ∧ R u) → G.E v (σ v) ∧ R (σ v)
  esc1 : ∀ v,R v → G.own v = p % 2 → (¬ ∃ u,G.E v u ∧ R u) → G.prio v = p
  esc2 : ∀ v u,R v → G.own v ≠ p % 2 → G.E v u → B u → ¬ R u → G.prio v = p
def QR (G : PG.Gm) (B R : Nat → Prop) (p : Int) : Prop:=∃ σ,QReg G B R p σ
theorem qr_cg {B B' R R' : Nat → Prop} {p : Int} (hB : ∀ v,B' v ↔ B v) (hR : ∀ v,R' v ↔ R v) (h : QR G B R p) : QR G B' R' p:=by
  rw [show B' = B from funext fun v=>propext (hB v),show R' = R from funext fun v=>propext (hR v)];exact h
theorem qr_fresh {B R : Nat → Prop} {p : Int} (h : ∀ v,R v → G.prio v = p) : QR G B R p:=by
  have hex : ∀ v,∃ u,(∃ u,G.E v u ∧ R u) → G.E v u ∧ R u:=fun v=>by
    by_cases hv : ∃ u,G.E v u ∧ R u
    · obtain ⟨u,hu⟩:=hv;exact ⟨u,fun _=>hu⟩
    · exact ⟨0,fun h=>absurd h hv⟩
  refine ⟨fun v=>Classical.choose (hex v),fun f q hp ht=>?_,fun v _ _ hx=>Classical.choose_spec (hex v) hx,fun v hv _ _=>h v hv,fun v u hv _ _ _ _=>h v hv⟩
  obtain ⟨k,_,hk⟩:=ht.2 0
  rw [← hk,h _ (hp k).1]
theorem step_out {f : Nat → Nat} {R : Nat → Prop} : ∀ d k,R (f k) → ¬ R (f (k + d)) → ∃ j,k ≤ j ∧ R (f j) ∧ ¬ R (f (j + 1))
  | 0, k, h, h' => absurd h h'
  | d + 1, k, h, h' => by
    by_cases h1 : R (f (k + d))
    · exact ⟨k + d,by omega,h1,h'⟩
    · exact step_out d k h h1
theorem qr_wins {B R X : Nat → Prop} {p : Int} {σ ρ : Nat → Nat} (hq : QReg G B R p σ) (hX : ∀ v,X v → B v) (hB : ∀ v,B v → G.prio v ≤ p)
    (hρ : ∀ v,R v → G.own v = p % 2 → (∃ u,G.E v u ∧ R u) → ρ v = σ v)
    (ho : ∀ f q,Play G (p % 2) X ρ f → (∀ k,¬ R (f k)) → Tops G f q → q % 2 = p % 2) : Wins G (p % 2) X ρ:=by
  intro f q hp ht
  by_cases h1 : ∃ M,∀ k,R (f (M + k))
  · obtain ⟨M,hM⟩:=h1
    refine hq.wins (fun k=>f (M + k)) q (fun k=>⟨hM k,(hp (M + k)).2.1,fun ho=>?_⟩) (ht.shift M)
    have h2:=(hp (M + k)).2.2 ho
    have h3 : R (f (M + k + 1)):=hM (k + 1)
    rw [hρ _ (hM k) ho ⟨_,(hp (M + k)).2.1,h3⟩] at h2
    exact h2
  by_cases h2 : ∃ M,∀ k,¬ R (f (M + k))
  · obtain ⟨M,hM⟩:=h2
    exact ho (fun k=>f (M + k)) q (hp.shift M) hM (ht.shift M)
  have h3 : ∃ m,R (f m):=Classical.byContradiction fun h=>h2 ⟨0,fun k hk=>h ⟨_,hk⟩⟩
  obtain ⟨m,hm⟩:=h3
  have h4 : ∃ d,¬ R (f (m + d)):=Classical.byContradiction fun h=>h1 ⟨m,fun k=>Classical.byContradiction fun hk=>h ⟨k,hk⟩⟩
  obtain ⟨d,hd⟩:=h4
  obtain ⟨j,_,hj1,hj2⟩:=step_out d m hm hd
  have hpj:=hp j
  have e : G.prio (f j) = p:=by
    by_cases hw : G.own (f j) = p % 2
    · refine hq.esc1 _ hj1 hw fun hx=>hj2 ?_
      have:=(hq.mine _ hj1 hw hx).2
      rw [← hρ _ hj1 hw hx,← hpj.2.2 hw] at this
      exact this
    · exact hq.esc2 _ _ hj1 hw hpj.2.1 (hX _ (hp (j + 1)).1) hj2
  have h5:=ht.1 j
  obtain ⟨k,_,hk⟩:=ht.2 0
  have h6:=hB _ (hX _ (hp k).1)
  have : q = p:=by omega
  rw [this]
theorem attr_esc {who : Int} {S T : Nat → Prop} {v : Nat} (h : Attr G who S T v) (ht : ¬ T v) (ho : G.own v ≠ who) : ∀ u,G.E v u → S u → Attr G who S T u:=by
  obtain ⟨k,hk⟩:=h
  induction k with
  | zero => exact absurd hk.2 ht
  | succ k ih =>
    rcases hk with h|⟨_,h,_⟩|⟨_,_,_,h⟩
    · exact ih h
    · exact absurd h ho
    · exact fun u he hs=>⟨k,h u he hs⟩
theorem qr_pull {B R : Nat → Prop} {p : Int} (hR : ∀ v,R v → B v) (hB : ∀ v,B v → G.prio v ≤ p) (h : QR G B R p) : QR G B (Attr G (p % 2) B R) p:=by
  obtain ⟨σ,hq⟩:=h
  obtain ⟨τ,s1,s2⟩:=attr_strat (G:=G) (p % 2) B R
  have hex : ∀ v,∃ u,(∃ u,G.E v u ∧ Attr G (p % 2) B R u) → G.E v u ∧ Attr G (p % 2) B R u:=fun v=>by
    by_cases hv : ∃ u,G.E v u ∧ Attr G (p % 2) B R u
    · obtain ⟨u,hu⟩:=hv;exact ⟨u,fun _=>hu⟩
    · exact ⟨0,fun h=>absurd h hv⟩
  let ρ:=sel R (sel (fun v=>∃ u,G.E v u ∧ R u) σ fun v=>Classical.choose (hex v)) τ
  have hρ : ∀ v,R v → (∃ u,G.E v u ∧ R u) → ρ v = σ v:=fun v h1 h2=>(sel_pos h1).trans (sel_pos h2)
  have hin : ∀ v,R v → Attr G (p % 2) B R v:=fun v hv=>attr_goal (hR v hv) hv
  refine ⟨ρ,qr_wins hq (fun v hv=>attr_in hv) hB (fun v h1 _ h2=>hρ v h1 h2) ?_,?_,?_,?_⟩
  · intro f q hp hno _
    obtain ⟨k,hk⟩:=s2 f (fun k=>attr_in (hp k).1) (fun k=>(hp k).2.1) (fun k _ hn ho=>by have:=(hp k).2.2 ho;rwa [show ρ (f k) = τ (f k) from sel_neg hn] at this) (hp 0).1
    exact absurd hk (hno k)
  · intro v hv ho hx
    by_cases h1 : R v
    · by_cases h2 : ∃ u,G.E v u ∧ R u
      · rw [hρ v h1 h2]
        have:=hq.mine v h1 ho h2
        exact ⟨this.1,hin _ this.2⟩
      · rw [show ρ v = Classical.choose (hex v) from (sel_pos h1).trans (sel_neg h2)]
        exact Classical.choose_spec (hex v) hx
    · rw [show ρ v = τ v from sel_neg h1]
      exact s1 v hv h1 ho
  · intro v hv ho hx
    by_cases h1 : R v
    · exact hq.esc1 v h1 ho fun ⟨u,h2,h3⟩=>hx ⟨u,h2,hin u h3⟩
    · exact absurd ⟨_,s1 v hv h1 ho⟩ hx
  · intro v u hv ho he hb hx
    by_cases h1 : R v
    · exact hq.esc2 v u h1 ho he hb fun h3=>hx (hin u h3)
    · exact absurd (attr_esc hv h1 ho u he hb) hx
theorem qr_join {B R A : Nat → Prop} {p : Int} {τ : Nat → Nat} (hR : ∀ v,R v → B v) (hA : ∀ v,A v → B v) (hB : ∀ v,B v → G.prio v ≤ p) (h : QR G B R p)
    (hw : Wins G (p % 2) A τ) (hm : ∀ v,A v → G.own v = p % 2 → G.E v (τ v) ∧ A (τ v)) (hy : ∀ v u,A v → G.own v ≠ p % 2 → G.E v u → B u → A u ∨ R u) : QR G B (fun v=>R v ∨ A v) p:=by
  obtain ⟨σ,hq⟩:=h
  have hex : ∀ v,∃ u,(∃ u,G.E v u ∧ (R u ∨ A u)) → G.E v u ∧ (R u ∨ A u):=fun v=>by
    by_cases hv : ∃ u,G.E v u ∧ (R u ∨ A u)
    · obtain ⟨u,hu⟩:=hv;exact ⟨u,fun _=>hu⟩
    · exact ⟨0,fun h=>absurd h hv⟩
  let ρ:=sel R (sel (fun v=>∃ u,G.E v u ∧ R u) σ fun v=>Classical.choose (hex v)) τ
  have hρ : ∀ v,R v → (∃ u,G.E v u ∧ R u) → ρ v = σ v:=fun v h1 h2=>(sel_pos h1).trans (sel_pos h2)
  refine ⟨ρ,qr_wins hq (fun v hv=>hv.elim (hR v) (hA v)) hB (fun v h1 _ h2=>hρ v h1 h2) ?_,?_,?_,?_⟩
  · intro f q hp hno ht
    exact hw f q (fun k=>⟨(hp k).1.resolve_left (hno k),(hp k).2.1,fun ho=>by have:=(hp k).2.2 ho;rwa [show ρ (f k) = τ (f k) from sel_neg (hno k)] at this⟩) ht
  · intro v hv ho hx
    by_cases h1 : R v
    · by_cases h2 : ∃ u,G.E v u ∧ R u
      · rw [hρ v h1 h2]
        have:=hq.mine v h1 ho h2
        exact ⟨this.1,.inl this.2⟩
      · rw [show ρ v = Classical.choose (hex v) from (sel_pos h1).trans (sel_neg h2)]
        exact Classical.choose_spec (hex v) hx
    · rw [show ρ v = τ v from sel_neg h1]
      have:=hm v (hv.resolve_left h1) ho
      exact ⟨this.1,.inr this.2⟩
  · intro v hv ho hx
    by_cases h1 : R v
    · exact hq.esc1 v h1 ho fun ⟨u,h2,h3⟩=>hx ⟨u,h2,.inl h3⟩
    · have:=hm v (hv.resolve_left h1) ho
      exact absurd ⟨_,this.1,.inr this.2⟩ hx
  · intro v u hv ho he hb hx
    by_cases h1 : R v
    · exact hq.esc2 v u h1 ho he hb fun h3=>hx (.inl h3)
    · exact absurd (hy v u (hv.resolve_left h1) ho he hb).symm hx
end PG
section
variable (g : Pa) (s : St)
def RgP (p : Int) (v : Nat) : Prop:=v < g.prio.length ∧ gi s.region v = p
def AllP (v : Nat) : Prop:=v < g.prio.length
def WnP (i : Int) (v : Nat) : Prop:=v < g.prio.length ∧ gi s.won v = i
structure PrOk : Prop where
  reg : ∀ p,s.at_ ≤ p → 0 ≤ p → PG.QR (pgA g) (Blw g s p) (RgP g s p) p
  att : ∀ p,s.at_ < p → ∀ v u,Blw g s p v → gi s.region v < p → (pgA g).own v = p % 2 → (pgA g).E v u → gi s.region u ≠ p
  frs : ∀ v,v < g.prio.length → 0 ≤ gi s.region v → gi s.region v < s.at_ → gi s.region v = gi g.prio v
  dom : ∀ i,i = 0 ∨ i = 1 → PG.Dom (pgA g) i (AllP g) (WnP g s i)
  cl : ∀ i,i = 0 ∨ i = 1 → ∀ v u,v < g.prio.length → 0 ≤ gi s.region v → (pgA g).own v = i → (pgA g).E v u → gi s.won u ≠ i
end
section
variable {g : Pa} {s : St}
theorem prio_A (hg : PaOk g) {v : Nat} (hv : v < g.prio.length) : (pgA g).prio v = gi g.prio v:=prio_of (gmOk_of hg) hv
theorem blw_prio (hg : PaOk g) (h : StOk g s) {p : Int} {v : Nat} (hb : Blw g s p v) : (pgA g).prio v ≤ p:=by
  rw [prio_A hg hb.1]
  have:=(h.opn hb.1 hb.2.1).2.1
  have:=hb.2.2
  omega
theorem E_in {v u : Nat} (h : (pgA g).E v u) : v < g.prio.length ∧ u < g.prio.length:=⟨((pgA_E v u).1 h).1,((pgA_E v u).1 h).2.1⟩
theorem md (h0 : 0 ≤ s.at_) : s.at_.tmod 2 = s.at_ % 2:=Int.tmod_eq_emod_of_nonneg h0
theorem pul_reg (hg : PaOk g) (h : StOk g s) (h0 : 0 ≤ s.at_) (hp : PrOk g s) : PG.QR (pgA g) (Blw g s s.at_) (Pul g s) s.at_:=by
  have:=PG.qr_pull (G:=pgA g) (B:=Blw g s s.at_) (R:=RgP g s s.at_) (p:=s.at_) (fun v hv=>⟨hv.1,by rw [hv.2];exact h0,by rw [hv.2];exact Int.le_refl _⟩) (fun v hv=>blw_prio hg h hv) (hp.reg _ (Int.le_refl _) h0)
  unfold Pul
  rw [md h0]
  exact this
theorem fst_pr (hg : PaOk g) : PrOk g (fstG g):=by
  have hl:=hg.len
  have hno : ∀ v,v < g.prio.length → gi (fstG g).won v = -1:=fun v hv=>gi_tab _ hv
  refine ⟨fun p hp _=>PG.qr_fresh fun v hv=>?_,fun p hp v u hb hlt ho he=>?_,fun v hv h0 h1=>rfl,fun i hi=>?_,fun i hi v u hv h0 ho he=>?_⟩
  · rw [prio_A hg hv.1];exact hv.2
  · intro e
    have h1:=E_in he
    have h2 : gi g.prio u ≤ (fstG g).at_:=mxN_up (p:=fun _=>True) (f:=gi g.prio) g.prio.length u h1.2 trivial
    have h3 : gi g.prio u = p:=e
    omega
  · have e : WnP g (fstG g) i = fun _=>False:=funext fun v=>propext ⟨fun h=>by have:=hno v h.1;have:=h.2;omega,fun h=>h.elim⟩
    rw [e];exact PG.dom_empty _ _
  · rw [hno u (E_in he).2];omega
theorem down_pr (hg : PaOk g) (h : StOk g s) (h0 : 0 ≤ s.at_) (hs : ¬ ShutP g s) (hp : PrOk g s) : PrOk g (downS g s):=by
  obtain ⟨w,w1,w2,w3,w4⟩:=down_max hg h h0 hs
  have hup:=fun v (hv : v < g.prio.length) hp=>mxN_up (p:=fun v=>Blw g s s.at_ v ∧ ¬ Pul g s v) (f:=gi s.region) g.prio.length v hv hp
  have hup' : ∀ v,Blw g s s.at_ v → ¬ Pul g s v → gi s.region v ≤ (downS g s).at_:=fun v h1 h2=>hup v h1.1 ⟨h1,h2⟩
  have hat : (downS g s).at_ < s.at_:=by omega
  have hat0 : 0 ≤ (downS g s).at_:=by rw [w3];exact w1.2.1
  generalize hq : (downS g s).at_ = q at *
  have hopn : ∀ v,v < g.prio.length → (0 ≤ gi (downS g s).region v ↔ 0 ≤ gi s.region v):=fun v hv=>by
    rw [down_gi hv]
    by_cases hP : Pul g s v
    · rw [if_pos hP];exact ⟨fun _=>(pul_in hP).2.1,fun _=>h0⟩
    · rw [if_neg hP]
  have hin : ∀ v,v < g.prio.length → ¬ Pul g s v → gi (downS g s).region v = gi s.region v:=fun v hv hP=>by rw [down_gi hv,if_neg hP]
  have hpu : ∀ v,Pul g s v → gi (downS g s).region v = s.at_:=fun v hP=>by rw [down_gi (pul_in hP).1,if_pos hP]
  have hnp : ∀ v,v < g.prio.length → ¬ Pul g s v → gi s.region v ≠ s.at_:=fun v hv hP e=>hP (gol_pul h h0 hv e)
  have hB : ∀ p,s.at_ ≤ p → ∀ v,Blw g (downS g s) p v ↔ Blw g s p v:=fun p hle v=>by
    constructor
    · rintro ⟨hv,h1,h2⟩
      by_cases hP : Pul g s v
      · have:=pul_in hP;exact ⟨hv,this.2.1,by have:=this.2.2;omega⟩
      · rw [hin v hv hP] at h1 h2;exact ⟨hv,h1,h2⟩
    · rintro ⟨hv,h1,h2⟩
      refine ⟨hv,(hopn v hv).2 h1,?_⟩
      by_cases hP : Pul g s v
      · rw [hpu v hP];exact hle
      · rw [hin v hv hP];exact h2
  refine ⟨fun p hle hp0=>?_,fun p hlt v u hb hr ho he e=>?_,fun v hv h1 h2=>?_,hp.dom,fun i hi v u hv h1 ho he=>?_⟩
  · rw [hq] at hle
    rcases Int.lt_or_le p s.at_ with hl|hl
    · refine PG.qr_fresh fun v hv=>?_
      have hP : ¬ Pul g s v:=fun hP=>by have:=hpu v hP;have:=hv.2;omega
      have e:=hv.2
      rw [hin v hv.1 hP] at e
      rw [prio_A hg hv.1,← e]
      exact (hp.frs v hv.1 (by omega) (by omega)).symm
    · rcases Int.lt_or_le s.at_ p with hl'|hl'
      · refine PG.qr_cg (hB p hl) (fun v=>?_) (hp.reg p hl hp0)
        constructor
        · rintro ⟨hv,e⟩
          by_cases hP : Pul g s v
          · have:=hpu v hP;omega
          · rw [hin v hv hP] at e;exact ⟨hv,e⟩
        · rintro ⟨hv,e⟩
          by_cases hP : Pul g s v
          · have:=(pul_in hP).2.2;omega
          · exact ⟨hv,by rw [hin v hv hP];exact e⟩
      · obtain rfl : p = s.at_:=by omega
        refine PG.qr_cg (hB _ hl) (fun v=>?_) (pul_reg hg h h0 hp)
        constructor
        · rintro ⟨hv,e⟩
          refine Classical.byContradiction fun hP=>?_
          rw [hin v hv hP] at e
          exact hnp v hv hP e
        · intro hP;exact ⟨(pul_in hP).1,hpu v hP⟩
  · rw [hq] at hlt
    have hv:=hb.1
    have hu:=(E_in he).2
    rcases Int.lt_or_le p s.at_ with hl|hl
    · have hP : ¬ Pul g s u:=fun hP=>by have:=hpu u hP;omega
      rw [hin u hu hP] at e
      have:=hup' u ⟨hu,by have:=hb.2.1;omega,by omega⟩ hP
      omega
    · rcases Int.lt_or_le s.at_ p with hl'|hl'
      · have hPu : ¬ Pul g s u:=fun hP=>by have:=hpu u hP;omega
        rw [hin u hu hPu] at e
        refine hp.att p hl' v u ((hB p hl v).1 hb) ?_ ho he e
        by_cases hP : Pul g s v
        · have:=(pul_in hP).2.2;omega
        · rw [← hin v hv hP];exact hr
      · obtain rfl : p = s.at_:=by omega
        have hPv : ¬ Pul g s v:=fun hP=>by have:=hpu v hP;omega
        have hPu : Pul g s u:=Classical.byContradiction fun hP=>by
          rw [hin u hu hP] at e
          exact hnp u hu hP e
        refine hPv (PG.attr_mine ((hB _ hl v).1 hb) ?_ he hPu)
        rw [md h0];exact ho
  · rw [hq] at h2
    have hP : ¬ Pul g s v:=fun hP=>by have:=hpu v hP;omega
    rw [hin v hv hP] at h1 h2 ⊢
    exact hp.frs v hv h1 (by omega)
  · exact hp.cl i hi v u hv ((hopn v hv).1 h1) ho he
theorem mod01 (a : Int) : a % 2 = 0 ∨ a % 2 = 1:=by omega
theorem up_least {v u : Nat} (h : StOk g s) (h1 : Pul g s v) (h2 : (pgA g).own v ≠ s.at_.tmod 2) (h3 : (pgA g).E v u) (h4 : ¬ Pul g s u) (h5 : 0 ≤ gi s.region u) : 0 ≤ upV g s ∧ upV g s ≤ gi s.region u:=by
  have h40:=(h.opn (E_in h3).2 h5).2.2
  have hx : Exits g s (gi s.region u).toNat:=⟨v,u,h1,h2,h3,h4,by omega⟩
  unfold upV
  rcases lsN_spec (Exits g s) 41 with ⟨_,e⟩|⟨k,e1,e2,_,e4⟩
  · exact absurd hx (e _ (by omega))
  · rw [e2]
    refine ⟨by omega,?_⟩
    rcases Nat.lt_or_ge (gi s.region u).toNat k with h'|h'
    · exact absurd hx (e4 _ h')
    · omega
theorem rise_pr (hg : PaOk g) (h : StOk g s) (h0 : 0 ≤ s.at_) (hs : ShutP g s) (hu : 0 ≤ upV g s) (hp : PrOk g s) : PrOk g (riseS g s (upV g s)):=by
  obtain ⟨u1,u2⟩:=up_spec h h0 hs hu
  obtain ⟨w,x,x1,x2,x3,x4,x5⟩:=up_ex hu
  have hlst:=fun v u h1 h2 h3 h4 h5=>(up_least (v:=v) (u:=u) h h1 h2 h3 h4 h5).2
  generalize upV g s = up at *
  have hpar : up % 2 = s.at_ % 2:=by
    have e1 : (pgA g).own w ≠ up % 2:=fun e=>by
      have hw:=pul_in x1
      exact hp.att up u1 w x ⟨hw.1,hw.2.1,by have:=hw.2.2;omega⟩ (by have:=hw.2.2;omega) e x3 x5
    have e2:=(pgA g).own01 w
    rw [md h0] at x2
    have:=mod01 up;have:=mod01 s.at_
    omega
  have hpu : ∀ v,Pul g s v → gi (riseS g s up).region v = up:=fun v hP=>by rw [rise_gi (pul_in hP).1,if_pos hP]
  have hlo : ∀ v,v < g.prio.length → ¬ Pul g s v → 0 ≤ gi s.region v → gi s.region v < up → gi (riseS g s up).region v = gi g.prio v:=fun v hv hP h1 h2=>by rw [rise_gi hv,if_neg hP,if_pos ⟨h1,h2⟩]
  have hhi : ∀ v,v < g.prio.length → ¬ Pul g s v → ¬ (0 ≤ gi s.region v ∧ gi s.region v < up) → gi (riseS g s up).region v = gi s.region v:=fun v hv hP h1=>by rw [rise_gi hv,if_neg hP,if_neg h1]
  have hopn : ∀ v,v < g.prio.length → (0 ≤ gi (riseS g s up).region v ↔ 0 ≤ gi s.region v):=fun v hv=>by
    by_cases hP : Pul g s v
    · rw [hpu v hP];exact ⟨fun _=>(pul_in hP).2.1,fun _=>hu⟩
    · by_cases hc : 0 ≤ gi s.region v ∧ gi s.region v < up
      · rw [hlo v hv hP hc.1 hc.2];exact ⟨fun _=>hc.1,fun _=>(hg.prio v hv).1⟩
      · rw [hhi v hv hP hc]
  have hle : ∀ p,up ≤ p → ∀ v,v < g.prio.length → 0 ≤ gi s.region v → (gi (riseS g s up).region v ≤ p ↔ gi s.region v ≤ p):=fun p hup v hv h1=>by
    have:=(h.opn hv h1).2.1
    by_cases hP : Pul g s v
    · rw [hpu v hP];have:=(pul_in hP).2.2;omega
    · by_cases hc : 0 ≤ gi s.region v ∧ gi s.region v < up
      · rw [hlo v hv hP hc.1 hc.2];omega
      · rw [hhi v hv hP hc]
  have hB : ∀ p,up ≤ p → ∀ v,Blw g (riseS g s up) p v ↔ Blw g s p v:=fun p hup v=>by
    constructor
    · rintro ⟨hv,h1,h2⟩
      have h3:=(hopn v hv).1 h1
      exact ⟨hv,h3,(hle p hup v hv h3).1 h2⟩
    · rintro ⟨hv,h1,h2⟩
      exact ⟨hv,(hopn v hv).2 h1,(hle p hup v hv h1).2 h2⟩
  have hRg : ∀ p,up < p → ∀ v,v < g.prio.length → (gi (riseS g s up).region v = p ↔ gi s.region v = p):=fun p hup v hv=>by
    by_cases hP : Pul g s v
    · rw [hpu v hP];have:=(pul_in hP).2.2;omega
    · by_cases hc : 0 ≤ gi s.region v ∧ gi s.region v < up
      · rw [hlo v hv hP hc.1 hc.2];have:=(h.opn hv hc.1).2.1;omega
      · rw [hhi v hv hP hc]
  refine ⟨fun p hup hp0=>?_,fun p hlt v u hb hr ho he e=>?_,fun v hv h1 h2=>?_,hp.dom,fun i hi v u hv h1 ho he=>?_⟩
  · have hup : up ≤ p:=hup
    rcases Int.lt_or_le up p with hl|hl
    · exact PG.qr_cg (hB p hup) (fun v=>and_congr_right fun hv=>hRg p hl v hv) (hp.reg p (by omega) hp0)
    · obtain rfl : p = up:=by omega
      obtain ⟨τ,hq⟩:=pul_reg hg h h0 hp
      refine PG.qr_cg (hB _ hup) (fun v=>?_) (PG.qr_join (R:=RgP g s p) (A:=Pul g s) (τ:=τ) (fun v hv=>⟨hv.1,by rw [hv.2];exact hu,by rw [hv.2];exact Int.le_refl _⟩) (fun v hP=>?_) (fun v hv=>blw_prio hg h hv) (hp.reg p (by omega) hp0) ?_ ?_ ?_)
      · constructor
        · rintro ⟨hv,e⟩
          by_cases hP : Pul g s v
          · exact .inr hP
          · refine .inl ⟨hv,?_⟩
            by_cases hc : 0 ≤ gi s.region v ∧ gi s.region v < p
            · rw [hlo v hv hP hc.1 hc.2] at e;have:=(h.opn hv hc.1).2.1;omega
            · rw [hhi v hv hP hc] at e;exact e
        · intro hx
          by_cases hP : Pul g s v
          · exact ⟨(pul_in hP).1,hpu v hP⟩
          · have hx':=hx.resolve_right hP
            exact ⟨hx'.1,by rw [hhi v hx'.1 hP (by have:=hx'.2;omega)];exact hx'.2⟩
      · have:=pul_in hP;exact ⟨this.1,this.2.1,by have:=this.2.2;omega⟩
      · rw [hpar];exact hq.wins
      · intro v hP ho
        rw [hpar] at ho
        exact hq.mine v hP ho ((hs v hP).1 (by rw [md h0];exact ho))
      · intro v u hP ho he hb
        rw [hpar,← md h0] at ho
        by_cases hPu : Pul g s u
        · exact .inl hPu
        · refine .inr ⟨hb.1,?_⟩
          have h3:=hlst v u hP ho he hPu hb.2.1
          have:=hb.2.2
          omega
  · have hlt : up < p:=hlt
    have hv:=hb.1
    have hb':=(hB p (by omega) v).1 hb
    refine hp.att p (by omega) v u hb' ?_ ho he ((hRg p hlt u (E_in he).2).1 e)
    have h3:=hb'.2.2
    rcases Int.lt_or_le (gi s.region v) p with h4|h4
    · exact h4
    · have:=(hRg p hlt v hv).2 (by omega);omega
  · have h2 : gi (riseS g s up).region v < up:=h2
    have hP : ¬ Pul g s v:=fun hP=>by have:=hpu v hP;omega
    by_cases hc : 0 ≤ gi s.region v ∧ gi s.region v < up
    · exact hlo v hv hP hc.1 hc.2
    · rw [hhi v hv hP hc] at h1 h2;exact absurd ⟨h1,h2⟩ hc
  · exact hp.cl i hi v u hv ((hopn v hv).1 h1) ho he
theorem allW_dom (hg : PaOk g) (h : StOk g s) (h0 : 0 ≤ s.at_) (hs : ShutP g s) (hu : ¬ 0 ≤ upV g s) (hp : PrOk g s) : PG.Dom (pgA g) (s.at_.tmod 2) (Blw g s 40) (AllW g s):=by
  have ha : s.at_ ≤ 40:=by rcases h.at' with h1|h1 <;> omega
  obtain ⟨τ,hq⟩:=pul_reg hg h h0 hp
  refine PG.dom_attr ⟨τ,fun v hP=>?_,fun v hP ho=>?_,fun v u hP ho he hb=>?_,?_⟩
  · have:=pul_in hP;exact ⟨this.1,this.2.1,by have:=this.2.2;omega⟩
  · exact hq.mine v hP (by rw [← md h0];exact ho) ((hs v hP).1 ho)
  · refine Classical.byContradiction fun hPu=>hu (up_least h hP ho he hPu hb.2.1).1
  · rw [md h0];exact hq.wins
theorem win_pr (hg : PaOk g) (h : StOk g s) (h0 : 0 ≤ s.at_) (hs : ShutP g s) (hu : ¬ 0 ≤ upV g s) (hp : PrOk g s) : PrOk g (winS g s):=by
  have hd:=allW_dom hg h h0 hs hu hp
  have hup:=fun v (hv : v < g.prio.length) hp=>mxN_up (p:=fun v=>Blw g s 40 v ∧ ¬ AllW g s v) (f:=gi g.prio) g.prio.length v hv hp
  have hup' : ∀ v,Blw g s 40 v ∧ ¬ AllW g s v → gi g.prio v ≤ (winS g s).at_:=fun v h1=>hup v h1.1.1 h1
  have hall : ∀ v,AllW g s v → Blw g s 40 v:=fun v hv=>PG.attr_in hv
  have ho1 : ∀ v,v < g.prio.length → 0 ≤ gi (winS g s).region v → (Blw g s 40 v ∧ ¬ AllW g s v) ∧ gi (winS g s).region v = gi g.prio v:=fun v hv h1=>by
    rw [win_reg hv] at h1 ⊢
    by_cases hc : Blw g s 40 v ∧ ¬ AllW g s v
    · exact ⟨hc,if_pos hc⟩
    · rw [if_neg hc] at h1;exact absurd h1 (by decide)
  have hi01 : s.at_.tmod 2 = 0 ∨ s.at_.tmod 2 = 1:=by rw [md h0];exact mod01 _
  generalize hi' : s.at_.tmod 2 = i at *
  have hopn : ∀ v,Blw g s 40 v → gi s.won v = -1:=fun v hb=>(h.opn hb.1 hb.2.1).1
  have hblw : ∀ v,PG.Diff (PG.Diff (AllP g) (WnP g s i)) (WnP g s (1 - i)) v ↔ Blw g s 40 v:=fun v=>by
    constructor
    · rintro ⟨⟨hv,h1⟩,h2⟩
      have hv : v < g.prio.length:=hv
      rcases h.reg v hv with h3|h3
      · exact ⟨hv,by have:=hg.prio v hv;omega,h3.2.2⟩
      · have h4 : gi s.won v ≠ i:=fun e=>h1 ⟨hv,e⟩
        have h5 : gi s.won v ≠ 1 - i:=fun e=>h2 ⟨hv,e⟩
        omega
    · intro hb
      have:=hopn v hb
      exact ⟨⟨hb.1,fun h'=>by have:=h'.2;omega⟩,fun h'=>by have:=h'.2;omega⟩
  refine ⟨fun p hup hp0=>PG.qr_fresh fun v hv=>?_,fun p hlt v u hb hr ho he e=>?_,fun v hv h1 h2=>(ho1 v hv h1).2,fun j hj=>?_,fun j hj v u hv h1 ho he e=>?_⟩
  · have:=ho1 v hv.1 (by rw [hv.2];exact hp0)
    rw [prio_A hg hv.1,← this.2];exact hv.2
  · have h3:=ho1 u (E_in he).2 (by have:=hb.2.1;omega)
    have:=hup' u h3.1
    omega
  · have hD : PG.Dom (pgA g) i (PG.Diff (AllP g) (WnP g s i)) (AllW g s):=by
      refine PG.dom_up (D:=WnP g s (1 - i)) (PG.dom_set (fun v=>(hblw v).symm) (fun _=>Iff.rfl) hd) fun v u hA ho he _ hx=>?_
      have hb:=hall v hA
      exact hp.cl (1 - i) (by omega) v u hb.1 hb.2.1 (by have:=(pgA g).own01 v;omega) he hx.2
    rcases (by omega : j = i ∨ j = 1 - i) with rfl|rfl
    · refine PG.dom_set (fun _=>Iff.rfl) (fun v=>?_) (PG.dom_union hD (hp.dom _ hi01))
      constructor
      · rintro (hA|hW)
        · have hv:=(hall v hA).1
          exact ⟨hv,by rw [win_won hv,if_pos hA,hi']⟩
        · refine ⟨hW.1,?_⟩
          rw [win_won hW.1]
          split
          · exact hi'
          · exact hW.2
      · rintro ⟨hv,e⟩
        rw [win_won hv] at e
        by_cases hA : AllW g s v
        · exact .inl hA
        · rw [if_neg hA] at e;exact .inr ⟨hv,e⟩
    · refine PG.dom_set (fun _=>Iff.rfl) (fun v=>?_) (hp.dom _ hj)
      constructor
      · intro hW
        have hA : ¬ AllW g s v:=fun hA=>by have:=hopn v (hall v hA);have:=hW.2;omega
        exact ⟨hW.1,by rw [win_won hW.1,if_neg hA];exact hW.2⟩
      · rintro ⟨hv,e⟩
        rw [win_won hv] at e
        by_cases hA : AllW g s v
        · rw [if_pos hA] at e;omega
        · rw [if_neg hA] at e;exact ⟨hv,e⟩
  · obtain ⟨⟨hb,hn⟩,_⟩:=ho1 v hv h1
    have hun:=(E_in he).2
    rw [win_won hun] at e
    by_cases hA : AllW g s u
    · rw [if_pos hA] at e
      refine hn (PG.attr_mine hb (by rw [ho,← e]) he hA)
    · rw [if_neg hA] at e
      exact hp.cl j hj v u hb.1 hb.2.1 ho he e
theorem step_pr (hg : PaOk g) (h : StOk g s) (h0 : 0 ≤ s.at_) (hp : PrOk g s) : PrOk g (stepS g s).1:=by
  unfold stepS
  by_cases h1 : ShutP g s
  · rw [if_neg (fun h'=>h' h1)]
    by_cases h2 : 0 ≤ upV g s
    · rw [if_pos h2];exact rise_pr hg h h0 h1 h2 hp
    · rw [if_neg h2];exact win_pr hg h h0 h1 h2 hp
  · rw [if_pos h1];exact down_pr hg h h0 h1 hp
theorem pr_won {i : Int} (hi : i = 0 ∨ i = 1) (hp : PrOk g s) {v : Nat} (hv : v < g.prio.length) (h : gi s.won v = i) : PG.Won (pgA g) i (AllP g) v:=⟨_,hp.dom i hi,hv,h⟩
end
end Go.Proofs.Ytfmnikiinfbanaa
