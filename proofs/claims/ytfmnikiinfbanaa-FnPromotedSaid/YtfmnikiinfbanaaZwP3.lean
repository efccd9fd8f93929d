/-
  Priority promotion: a number that falls with each step. Plain theory, no program.
-/
import Derived.Test.YtfmnikiinfbanaaZwAt4
import Derived.Test.YtfmnikiinfbanaaZwM1
import Derived.Test.YtfmnikiinfbanaaZwStage
namespace Go.Proofs.Ytfmnikiinfbanaa
set_option linter.unusedVariables false
set_option linter.unusedSimpArgs false
open Go.RowKit
noncomputable def mxN (p : Nat → Prop) (f : Nat → Int) : Nat → Int
  | 0 => -1
  | k + 1 => @ite _ (p k) (Classical.propDecidable _) (max (mxN p f k) (f k)) (mxN p f k)
theorem mxN_yes {p : Nat → Prop} {f : Nat → Int} {k : Nat} (h : p k) : mxN p f (k + 1) = max (mxN p f k) (f k):=if_pos h
theorem mxN_no {p : Nat → Prop} {f : Nat → Int} {k : Nat} (h : ¬ p k) : mxN p f (k + 1) = mxN p f k:=if_neg h
theorem mxN_ge {p : Nat → Prop} {f : Nat → Int} : ∀ n,-1 ≤ mxN p f n
  | 0 => Int.le_refl _
  | n + 1 => by
    have:=mxN_ge (p:=p) (f:=f) n
    by_cases h : p n
    · rw [mxN_yes h];omega
    · rw [mxN_no h];exact this
theorem mxN_up {p : Nat → Prop} {f : Nat → Int} : ∀ n v,v < n → p v → f v ≤ mxN p f n
  | 0, v, h, _ => absurd h (Nat.not_lt_zero _)
  | n + 1, v, h, hp => by
    rcases Nat.lt_or_ge v n with h'|h'
    · have:=mxN_up (p:=p) (f:=f) n v h' hp
      by_cases h : p n
      · rw [mxN_yes h];omega
      · rw [mxN_no h];exact this
    · obtain rfl : v = n:=by omega
      rw [mxN_yes hp];omega
theorem mxN_is {p : Nat → Prop} {f : Nat → Int} : ∀ n,(mxN p f n = -1 ∧ ∀ v,v < n → p v → f v ≤ -1) ∨ ∃ v,v < n ∧ p v ∧ mxN p f n = f v
  | 0 => .inl ⟨rfl, fun v h => absurd h (Nat.not_lt_zero _)⟩
  | n + 1 => by
    rcases mxN_is (p:=p) (f:=f) n with ⟨h1,h2⟩|⟨v,h1,h2,h3⟩
    · by_cases h : p n
      · rw [mxN_yes h,h1]
        by_cases hf : f n ≤ -1
        · refine .inl ⟨by omega,fun v hv hp=>?_⟩
          rcases Nat.lt_or_ge v n with h'|h'
          · exact h2 v h' hp
          · rw [show v = n by omega];exact hf
        · exact .inr ⟨n,by omega,h,by omega⟩
      · rw [mxN_no h]
        refine .inl ⟨h1,fun v hv hp=>?_⟩
        rcases Nat.lt_or_ge v n with h'|h'
        · exact h2 v h' hp
        · rw [show v = n by omega] at hp;exact absurd hp h
    · by_cases h : p n
      · rw [mxN_yes h]
        rcases Int.lt_or_le (mxN p f n) (f n) with h'|h'
        · exact .inr ⟨n,by omega,h,by omega⟩
        · exact .inr ⟨v,by omega,h2,by omega⟩
      · rw [mxN_no h];exact .inr ⟨v,by omega,h2,h3⟩
noncomputable def lsN (p : Nat → Prop) : Nat → Int
  | 0 => -1
  | n + 1 => @ite _ (0 ≤ lsN p n) (Classical.propDecidable _) (lsN p n) (@ite _ (p n) (Classical.propDecidable _) (n : Int) (-1))
theorem lsN_spec (p : Nat → Prop) : ∀ n,(lsN p n = -1 ∧ ∀ j,j < n → ¬ p j) ∨ ∃ k,k < n ∧ lsN p n = k ∧ p k ∧ ∀ j,j < k → ¬ p j
  | 0 => .inl ⟨rfl, fun j h => absurd h (Nat.not_lt_zero _)⟩
  | n + 1 => by
    unfold lsN
    rcases lsN_spec p n with ⟨h1,h2⟩|⟨k,h1,h2,h3,h4⟩
    · rw [h1,if_neg (by decide)]
      by_cases h : p n
      · rw [if_pos h];exact .inr ⟨n,by omega,rfl,h,h2⟩
      · rw [if_neg h]
        refine .inl ⟨rfl,fun j hj=>?_⟩
        rcases Nat.lt_or_ge j n with h'|h'
        · exact h2 j h'
        · rw [show j = n by omega];exact h
    · rw [h2,if_pos (by omega)]
      exact .inr ⟨k,by omega,rfl,h3,h4⟩
section
variable (g : Pa) (s : St)
def Blw (p : Int) (v : Nat) : Prop:=v < g.prio.length ∧ 0 ≤ gi s.region v ∧ gi s.region v ≤ p
def Gol (v : Nat) : Prop:=v < g.prio.length ∧ gi s.region v = s.at_
def Pul (v : Nat) : Prop:=PG.Attr (pgA g) (s.at_.tmod 2) (Blw g s s.at_) (Gol g s) v
def ShutP : Prop:=∀ v,Pul g s v → ((pgA g).own v = s.at_.tmod 2 → ∃ u,(pgA g).E v u ∧ Pul g s u) ∧ ((pgA g).own v ≠ s.at_.tmod 2 → ∀ u,(pgA g).E v u → Blw g s s.at_ u → Pul g s u)
def Exits (p : Nat) : Prop:=∃ v u,Pul g s v ∧ (pgA g).own v ≠ s.at_.tmod 2 ∧ (pgA g).E v u ∧ ¬ Pul g s u ∧ gi s.region u = (p : Int)
noncomputable def upV : Int:=lsN (Exits g s) 41
open Classical in
noncomputable def downS : St:=⟨s.won,tab g.prio.length fun v=>if Pul g s v then s.at_ else gi s.region v,mxN (fun v=>Blw g s s.at_ v ∧ ¬ Pul g s v) (gi s.region) g.prio.length⟩
open Classical in
noncomputable def riseS (up : Int) : St:=⟨s.won,tab g.prio.length fun v=>if Pul g s v then up else if 0 ≤ gi s.region v ∧ gi s.region v < up then gi g.prio v else gi s.region v,up⟩
def AllW (v : Nat) : Prop:=PG.Attr (pgA g) (s.at_.tmod 2) (Blw g s 40) (Pul g s) v
open Classical in
noncomputable def winS : St:=⟨tab g.prio.length fun v=>if AllW g s v then s.at_.tmod 2 else gi s.won v,tab g.prio.length fun v=>if Blw g s 40 v ∧ ¬ AllW g s v then gi g.prio v else -1,mxN (fun v=>Blw g s 40 v ∧ ¬ AllW g s v) (gi g.prio) g.prio.length⟩
open Classical in
noncomputable def stepS : St × Int:=if ¬ ShutP g s then (downS g s,1) else if 0 ≤ upV g s then (riseS g s (upV g s),2) else (winS g s,3)
structure StOk : Prop where
  lw : s.won.length = g.prio.length
  lr : s.region.length = g.prio.length
  reg : ∀ v,v < g.prio.length → (gi s.won v = -1 ∧ gi g.prio v ≤ gi s.region v ∧ gi s.region v ≤ 40) ∨ ((gi s.won v = 0 ∨ gi s.won v = 1) ∧ gi s.region v = -1)
  at' : (s.at_ = -1 ∧ ∀ v,v < g.prio.length → gi s.region v = -1) ∨ (0 ≤ s.at_ ∧ s.at_ ≤ 40 ∧ ∃ v,v < g.prio.length ∧ gi s.region v = s.at_)
  tot : ∀ p,s.at_ ≤ p → 0 ≤ p → PG.Total (pgA g) (Blw g s p)
end
theorem fin_A {g : Pa} : PG.Fin (pgA g) g.prio.length:=fun v u h=>((pgA_E v u).1 h).2.1
section
variable {g : Pa} {s : St}
theorem pul_in {v : Nat} (h : Pul g s v) : Blw g s s.at_ v:=PG.attr_in h
theorem gol_pul (h : StOk g s) (h0 : 0 ≤ s.at_) {v : Nat} (hv : v < g.prio.length) (hr : gi s.region v = s.at_) : Pul g s v:=PG.attr_goal ⟨hv,by omega,by omega⟩ ⟨hv,hr⟩
theorem pul_ex (h : StOk g s) (h0 : 0 ≤ s.at_) : ∃ v,Pul g s v:=by
  rcases h.at' with ⟨h1,_⟩|⟨_,_,v,hv,hr⟩
  · omega
  · exact ⟨v,gol_pul h h0 hv hr⟩
theorem down_at (h : StOk g s) (h0 : 0 ≤ s.at_) (hs : ¬ ShutP g s) : ∃ v,Blw g s s.at_ v ∧ ¬ Pul g s v:=by
  refine Classical.byContradiction fun hno=>hs fun v hv=>⟨fun _=>?_,fun _ u _ hu=>?_⟩
  · obtain ⟨u,h1,h2⟩:=h.tot s.at_ (Int.le_refl _) h0 v (pul_in hv)
    exact ⟨u,h1,Classical.byContradiction fun h3=>hno ⟨u,h2,h3⟩⟩
  · exact Classical.byContradiction fun h3=>hno ⟨u,hu,h3⟩
end
end Go.Proofs.Ytfmnikiinfbanaa
namespace Go.Proofs.Ytfmnikiinfbanaa
set_option linter.unusedVariables false
set_option linter.unusedSimpArgs false
open Go.RowKit
theorem total_cg {P : PG.Gm} {S S' : Nat → Prop} (h : ∀ v,S' v ↔ S v) (ht : PG.Total P S) : PG.Total P S':=by
  rw [show S' = S from funext fun v=>propext (h v)];exact ht
section
variable {g : Pa} {s : St}
theorem StOk.opn (h : StOk g s) {v : Nat} (hv : v < g.prio.length) (h0 : 0 ≤ gi s.region v) : gi s.won v = -1 ∧ gi g.prio v ≤ gi s.region v ∧ gi s.region v ≤ 40:=by
  rcases h.reg v hv with h1|h1
  · exact h1
  · omega
theorem down_gi {v : Nat} (hv : v < g.prio.length) : gi (downS g s).region v = @ite Int (Pul g s v) (Classical.propDecidable _) s.at_ (gi s.region v):=gi_tab _ hv
theorem rise_gi {up : Int} {v : Nat} (hv : v < g.prio.length) : gi (riseS g s up).region v = @ite Int (Pul g s v) (Classical.propDecidable _) up (if 0 ≤ gi s.region v ∧ gi s.region v < up then gi g.prio v else gi s.region v):=by
  rw [riseS,gi_tab _ hv]
theorem down_max (hg : PaOk g) (h : StOk g s) (h0 : 0 ≤ s.at_) (hs : ¬ ShutP g s) : ∃ v,Blw g s s.at_ v ∧ ¬ Pul g s v ∧ (downS g s).at_ = gi s.region v ∧ gi s.region v < s.at_:=by
  obtain ⟨w,hw1,hw2⟩:=down_at h h0 hs
  rcases mxN_is (p:=fun v=>Blw g s s.at_ v ∧ ¬ Pul g s v) (f:=gi s.region) g.prio.length with ⟨h1,h2⟩|⟨v,h1,⟨h2,h3⟩,h4⟩
  · have:=h2 w hw1.1 ⟨hw1,hw2⟩
    have:=hw1.2.1
    omega
  · refine ⟨v,h2,h3,h4,?_⟩
    have h5:=h2.2.2
    rcases Int.lt_or_le (gi s.region v) s.at_ with h6|h6
    · exact h6
    · exact absurd (gol_pul h h0 h2.1 (by omega)) h3
theorem down_ok (hg : PaOk g) (h : StOk g s) (h0 : 0 ≤ s.at_) (hs : ¬ ShutP g s) : StOk g (downS g s):=by
  have ha : s.at_ ≤ 40:=by rcases h.at' with h1|h1 <;> omega
  obtain ⟨w,w1,w2,w3,w4⟩:=down_max hg h h0 hs
  have hup:=fun v (hv : v < g.prio.length) hp=>mxN_up (p:=fun v=>Blw g s s.at_ v ∧ ¬ Pul g s v) (f:=gi s.region) g.prio.length v hv hp
  refine ⟨h.lw,tab_len _ _,fun v hv=>?_,.inr ⟨by have:=w1.2.1;omega,by omega,w,w1.1,by rw [down_gi w1.1,if_neg w2,w3]⟩,fun p hp hp0=>?_⟩
  · rw [down_gi hv]
    by_cases hP : Pul g s v
    · rw [if_pos hP]
      have hb:=pul_in hP
      have:=h.opn hv hb.2.1
      have:=hb.2.2
      exact .inl ⟨(h.opn hv hb.2.1).1,by omega,ha⟩
    · rw [if_neg hP];exact h.reg v hv
  · rcases Int.lt_or_le p s.at_ with hlt|hle
    · refine total_cg (S:=PG.Diff (Blw g s s.at_) (PG.Attr (pgA g) (s.at_.tmod 2) (Blw g s s.at_) (Gol g s))) (fun v=>?_) (PG.total_diff fin_A (h.tot s.at_ (Int.le_refl _) h0))
      constructor
      · rintro ⟨hv,h1,h2⟩
        rw [down_gi hv] at h1 h2
        by_cases hP : Pul g s v
        · rw [if_pos hP] at h2;omega
        · rw [if_neg hP] at h1 h2
          exact ⟨⟨hv,h1,by omega⟩,hP⟩
      · rintro ⟨h1,h2⟩
        have h3 : ¬ Pul g s v:=h2
        refine ⟨h1.1,?_,?_⟩ <;> rw [down_gi h1.1,if_neg h3]
        · exact h1.2.1
        · have : gi s.region v ≤ (downS g s).at_:=hup v h1.1 ⟨h1,h3⟩
          omega
    · refine total_cg (fun v=>?_) (h.tot p hle hp0)
      constructor
      · rintro ⟨hv,h1,h2⟩
        rw [down_gi hv] at h1 h2
        by_cases hP : Pul g s v
        · have:=pul_in hP;exact ⟨hv,this.2.1,by have:=this.2.2;omega⟩
        · rw [if_neg hP] at h1 h2;exact ⟨hv,h1,h2⟩
      · rintro ⟨hv,h1,h2⟩
        refine ⟨hv,?_,?_⟩ <;> rw [down_gi hv] <;> by_cases hP : Pul g s v
        · rw [if_pos hP];exact h0
        · rw [if_neg hP];exact h1
        · rw [if_pos hP];exact hle
        · rw [if_neg hP];exact h2
theorem up_spec (h : StOk g s) (h0 : 0 ≤ s.at_) (hs : ShutP g s) (hu : 0 ≤ upV g s) : s.at_ < upV g s ∧ upV g s ≤ 40:=by
  rcases lsN_spec (Exits g s) 41 with ⟨h1,_⟩|⟨k,h1,h2,⟨v,u,e1,e2,e3,e4,e5⟩,_⟩
  · unfold upV at hu;omega
  · unfold upV at hu ⊢
    rw [h2] at hu ⊢
    have hun:=((pgA_E v u).1 e3).2.1
    refine ⟨?_,by omega⟩
    rcases Int.lt_or_le s.at_ (k : Int) with h'|h'
    · exact h'
    · exact absurd ((hs v e1).2 e2 u e3 ⟨hun,by omega,by omega⟩) e4
theorem rise_ok (hg : PaOk g) (h : StOk g s) (h0 : 0 ≤ s.at_) (hs : ShutP g s) (hu : 0 ≤ upV g s) : StOk g (riseS g s (upV g s)):=by
  obtain ⟨u1,u2⟩:=up_spec h h0 hs hu
  obtain ⟨w,hw⟩:=pul_ex h h0
  generalize upV g s = up at *
  refine ⟨h.lw,tab_len _ _,fun v hv=>?_,.inr ⟨by show 0 ≤ up;exact hu,u2,w,(pul_in hw).1,by rw [rise_gi (pul_in hw).1,if_pos hw];rfl⟩,fun p hp hp0=>?_⟩
  · rw [rise_gi hv]
    by_cases hP : Pul g s v
    · rw [if_pos hP]
      have hb:=pul_in hP
      have h3:=h.opn hv hb.2.1
      have h4:=hb.2.2
      exact .inl ⟨h3.1,by omega,u2⟩
    · rw [if_neg hP]
      by_cases h' : 0 ≤ gi s.region v ∧ gi s.region v < up
      · rw [if_pos h']
        have h3:=h.opn hv h'.1
        exact .inl ⟨h3.1,Int.le_refl _,by omega⟩
      · rw [if_neg h'];exact h.reg v hv
  · have hp' : up ≤ p:=hp
    refine total_cg (fun v=>?_) (h.tot p (by omega) hp0)
    constructor
    · rintro ⟨hv,h1,h2⟩
      rw [rise_gi hv] at h1 h2
      by_cases hP : Pul g s v
      · have:=pul_in hP;exact ⟨hv,this.2.1,by have:=this.2.2;omega⟩
      · rw [if_neg hP] at h1 h2
        by_cases h' : 0 ≤ gi s.region v ∧ gi s.region v < up
        · exact ⟨hv,h'.1,by omega⟩
        · rw [if_neg h'] at h1 h2;exact ⟨hv,h1,h2⟩
    · rintro ⟨hv,h1,h2⟩
      have h3:=h.opn hv h1
      have h4:=hg.prio v hv
      refine ⟨hv,?_,?_⟩ <;> rw [rise_gi hv] <;> by_cases hP : Pul g s v
      · rw [if_pos hP];exact hu
      · rw [if_neg hP];split <;> omega
      · rw [if_pos hP];exact hp'
      · rw [if_neg hP];split <;> omega
theorem win_reg {v : Nat} (hv : v < g.prio.length) : gi (winS g s).region v = @ite Int (Blw g s 40 v ∧ ¬ AllW g s v) (Classical.propDecidable _) (gi g.prio v) (-1):=by
  rw [winS,gi_tab _ hv]
  by_cases h : Blw g s 40 v ∧ ¬ AllW g s v
  · simp only [h,not_false_eq_true,and_self,if_true]
  · simp only [h,if_false]
theorem win_won {v : Nat} (hv : v < g.prio.length) : gi (winS g s).won v = @ite Int (AllW g s v) (Classical.propDecidable _) (s.at_.tmod 2) (gi s.won v):=gi_tab _ hv
theorem win_ok (hg : PaOk g) (h : StOk g s) (h0 : 0 ≤ s.at_) : StOk g (winS g s):=by
  have ha : s.at_ ≤ 40:=by rcases h.at' with h1|h1 <;> omega
  have hup:=fun v (hv : v < g.prio.length) hp=>mxN_up (p:=fun v=>Blw g s 40 v ∧ ¬ AllW g s v) (f:=gi g.prio) g.prio.length v hv hp
  refine ⟨tab_len _ _,tab_len _ _,fun v hv=>?_,?_,fun p hp hp0=>?_⟩
  · rw [win_reg hv,win_won hv]
    by_cases hA : AllW g s v
    · rw [if_pos hA,if_neg fun h'=>h'.2 hA]
      refine .inr ⟨?_,rfl⟩
      rw [Int.tmod_eq_emod_of_nonneg h0];omega
    · rw [if_neg hA]
      by_cases hB : Blw g s 40 v
      · rw [if_pos ⟨hB,hA⟩]
        exact .inl ⟨(h.opn hv hB.2.1).1,Int.le_refl _,(hg.prio v hv).2⟩
      · rw [if_neg fun h'=>hB h'.1]
        rcases h.reg v hv with h1|h1
        · exact absurd ⟨hv,by have:=hg.prio v hv;omega,h1.2.2⟩ hB
        · exact .inr ⟨h1.1,rfl⟩
  · rcases mxN_is (p:=fun v=>Blw g s 40 v ∧ ¬ AllW g s v) (f:=gi g.prio) g.prio.length with ⟨h1,h2⟩|⟨v,h1,h2,h3⟩
    · refine .inl ⟨h1,fun v hv=>?_⟩
      rw [win_reg hv,if_neg]
      intro h'
      have:=h2 v hv h'
      have:=hg.prio v hv
      omega
    · have:=hg.prio v h1
      exact .inr ⟨by show 0 ≤ mxN _ _ _;omega,by show mxN _ _ _ ≤ 40;omega,v,h1,by rw [win_reg h1,if_pos h2];exact h3.symm⟩
  · refine total_cg (S:=PG.Diff (Blw g s 40) (PG.Attr (pgA g) (s.at_.tmod 2) (Blw g s 40) (Pul g s))) (fun v=>?_) (PG.total_diff fin_A (h.tot 40 ha (by decide)))
    constructor
    · rintro ⟨hv,h1,h2⟩
      rw [win_reg hv] at h1
      by_cases hB : Blw g s 40 v ∧ ¬ AllW g s v
      · exact hB
      · rw [if_neg hB] at h1;exact absurd h1 (by decide)
    · intro hB
      have hB' : Blw g s 40 v ∧ ¬ AllW g s v:=hB
      have hv:=hB'.1.1
      refine ⟨hv,?_,?_⟩ <;> rw [win_reg hv,if_pos hB']
      · exact (hg.prio v hv).1
      · have : gi g.prio v ≤ (winS g s).at_:=hup v hv hB'
        omega
theorem step_ok (hg : PaOk g) (h : StOk g s) (h0 : 0 ≤ s.at_) : StOk g (stepS g s).1:=by
  unfold stepS
  by_cases h1 : ShutP g s
  · rw [if_neg (fun h'=>h' h1)]
    by_cases h2 : 0 ≤ upV g s
    · rw [if_pos h2];exact rise_ok hg h h0 h1 h2
    · rw [if_neg h2];exact win_ok hg h h0
  · rw [if_pos h1];exact down_ok hg h h0 h1
end
end Go.Proofs.Ytfmnikiinfbanaa
namespace Go.Proofs.Ytfmnikiinfbanaa
set_option linter.unusedVariables false
set_option linter.unusedSimpArgs false
open Go.RowKit
noncomputable def cntR (g : Pa) (s : St) (p : Int) : Nat:=num (fun v=>gi s.region v = p) g.prio.length
noncomputable def opnN (g : Pa) (s : St) : Nat:=num (fun v=>0 ≤ gi s.region v) g.prio.length
def cF : Nat → Nat → Nat
  | 0, _ => 1
  | d + 1, 0 => cF d 0
  | d + 1, m + 1 => cF (d + 1) m + cF d (m + 1)
theorem cF_ss (d m : Nat) : cF (d + 1) (m + 1) = cF (d + 1) m + cF d (m + 1):=by rw [cF]
theorem cF_s0 (d : Nat) : cF (d + 1) 0 = cF d 0:=by rw [cF]
theorem cF_0 (m : Nat) : cF 0 m = 1:=by rw [cF]
def cG (d m : Nat) : Nat → Nat
  | 0 => 0
  | c + 1 => cG d m c + cF d (m - c)
def cRk (a : Nat → Nat) : Nat → Nat → Nat → Nat
  | 0, _, _ => 0
  | d + 1, m, i => cG d m (a i) + cRk a d (m - a i) (i + 1)
def cSum (a : Nat → Nat) : Nat → Nat → Nat
  | 0, _ => 0
  | d + 1, i => a i + cSum a d (i + 1)
theorem cF_le (d : Nat) : ∀ m,cF d m ≤ cF (d + 1) m
  | 0 => by rw [cF_s0]; exact Nat.le_refl _
  | m + 1 => by rw [cF_ss]; exact Nat.le_add_left _ _
theorem cG_all (d m : Nat) : ∀ c,c ≤ m → cG d m c + cF (d + 1) (m - c) = cF (d + 1) m
  | 0, _ => by rw [cG, Nat.zero_add, Nat.sub_zero]
  | c + 1, h => by
    have ih:=cG_all d m c (by omega)
    obtain ⟨e,he⟩ : ∃ e,m - c = e + 1:=⟨m - c - 1,by omega⟩
    rw [cG,show m - (c + 1) = e by omega,← ih,he]
    rw [cF_ss]
    omega
theorem cG_mono (d m : Nat) (c : Nat) : ∀ k,cG d m c ≤ cG d m (c + k)
  | 0 => Nat.le_refl _
  | k + 1 => Nat.le_trans (cG_mono d m c k) (Nat.le_add_right _ _)
theorem cRk_lt (a : Nat → Nat) : ∀ d m i,cSum a d i ≤ m → cRk a d m i < cF d m
  | 0, m, i, _ => by rw [cRk, cF_0]; exact Nat.one_pos
  | d + 1, m, i, h => by
    rw [cSum] at h
    have h1:=cRk_lt a d (m - a i) (i + 1) (by omega)
    have h2:=cG_all d m (a i) (by omega)
    have h3:=cF_le d (m - a i)
    rw [cRk]
    omega
theorem cRk_up {a b : Nat → Nat} : ∀ d m i p,cSum a d i ≤ m → cSum b d i ≤ m → i ≤ p → p < i + d → (∀ j,j < p → a j = b j) → a p < b p → cRk a d m i < cRk b d m i
  | 0, m, i, p, _, _, h1, h2, _, _ => by omega
  | d + 1, m, i, p, ha, hb, h1, h2, h3, h4 => by
    rw [cSum] at ha hb
    rw [cRk,cRk]
    rcases Nat.lt_or_ge i p with h|h
    · have ih:=cRk_up (a:=a) (b:=b) d (m - a i) (i + 1) p (by omega) (by rw [h3 i h];omega) h (by omega) h3 h4
      rw [← h3 i h]
      omega
    · obtain rfl : i = p:=by omega
      have h5:=cRk_lt a d (m - a i) (i + 1) (by omega)
      have h6:=cG_mono d m (a i + 1) (b i - (a i + 1))
      rw [show a i + 1 + (b i - (a i + 1)) = b i by omega,cG] at h6
      omega
def cFac : Nat → Nat
  | 0 => 1
  | n + 1 => (n + 1) * cFac n
theorem cF_zero : ∀ d,cF d 0 = 1
  | 0 => cF_0 0
  | d + 1 => (cF_s0 d).trans (cF_zero d)
theorem cF_fac : ∀ d m,cF d m * (cFac d * cFac m) = cFac (d + m)
  | 0, m => by rw [cF_0]; show 1 * (1 * cFac m) = _; rw [Nat.one_mul, Nat.one_mul, Nat.zero_add]
  | d + 1, 0 => by rw [cF_zero]; show 1 * (cFac (d + 1) * 1) = _; rw [Nat.one_mul, Nat.mul_one, Nat.add_zero]
  | d + 1, m + 1 => by
    have h1:=cF_fac (d + 1) m
    have h2:=cF_fac d (m + 1)
    have e1 : d + 1 + m = d + (m + 1):=by omega
    have e2 : d + 1 + (m + 1) = d + (m + 1) + 1:=by omega
    rw [e1] at h1
    rw [e2]
    rw [cF_ss]
    show (cF (d + 1) m + cF d (m + 1)) * (cFac (d + 1) * cFac (m + 1)) = (d + (m + 1) + 1) * cFac (d + (m + 1))
    rw [Nat.add_mul]
    have q1 : cF (d + 1) m * (cFac (d + 1) * cFac (m + 1)) = (m + 1) * cFac (d + (m + 1)):=by
      rw [← h1,show cFac (m + 1) = (m + 1) * cFac m from rfl]
      simp only [Nat.mul_comm,Nat.mul_left_comm,Nat.mul_assoc]
    have q2 : cF d (m + 1) * (cFac (d + 1) * cFac (m + 1)) = (d + 1) * cFac (d + (m + 1)):=by
      rw [← h2,show cFac (d + 1) = (d + 1) * cFac d from rfl]
      simp only [Nat.mul_comm,Nat.mul_left_comm,Nat.mul_assoc]
    rw [q1,q2,← Nat.add_mul]
    congr 1
    omega
theorem cF_top : cF 12 12 ≤ 2 ^ 22:=by
  have h:=cF_fac 12 12
  have h1 : cFac 24 ≤ 2 ^ 22 * (cFac 12 * cFac 12):=by decide
  rw [← h] at h1
  exact Nat.le_of_mul_le_mul_right h1 (by decide)
theorem cSum_le {n : Nat} (P : Nat → Prop) (f : Nat → Nat) : ∀ d i,cSum (fun i=>num (fun v=>P v ∧ f v = i) n) d i ≤ num (fun v=>P v ∧ i ≤ f v) n
  | 0, i => Nat.zero_le _
  | d + 1, i => by
    have ih:=cSum_le (n:=n) P f d (i + 1)
    rw [cSum]
    refine Nat.le_trans (Nat.add_le_add_left ih _) ?_
    clear ih
    induction n with
    | zero => exact Nat.le_refl _
    | succ n ih2 =>
      by_cases hP : P n
      · by_cases h1 : f n = i
        · rw [num_yes (p:=fun v=>P v ∧ f v = i) ⟨hP,h1⟩,num_no (p:=fun v=>P v ∧ i + 1 ≤ f v) (fun h=>by have:=h.2;omega),num_yes (p:=fun v=>P v ∧ i ≤ f v) ⟨hP,by omega⟩]
          omega
        · rw [num_no (p:=fun v=>P v ∧ f v = i) (fun h=>h1 h.2)]
          by_cases h2 : i + 1 ≤ f n
          · rw [num_yes (p:=fun v=>P v ∧ i + 1 ≤ f v) ⟨hP,h2⟩,num_yes (p:=fun v=>P v ∧ i ≤ f v) ⟨hP,by omega⟩]
            omega
          · rw [num_no (p:=fun v=>P v ∧ i + 1 ≤ f v) (fun h=>h2 h.2),num_no (p:=fun v=>P v ∧ i ≤ f v) (fun h=>by have:=h.2;omega)]
            omega
      · rw [num_no (p:=fun v=>P v ∧ f v = i) (fun h=>hP h.1),num_no (p:=fun v=>P v ∧ i + 1 ≤ f v) (fun h=>hP h.1),num_no (p:=fun v=>P v ∧ i ≤ f v) (fun h=>hP h.1)]
        exact ih2
def InD (g : Pa) (p : Int) : Prop:=∃ u,u < g.prio.length ∧ gi g.prio u = p
noncomputable def clP (g : Pa) (p : Int) : Nat:=num (fun v=>p < gi g.prio v) g.prio.length
theorem clP_le (g : Pa) (p : Int) : clP g p ≤ g.prio.length:=num_le
theorem num_all (n : Nat) : num (fun _=>True) n = n:=by
  induction n with
  | zero => rfl
  | succ n ih => rw [num_yes (p := fun _ => True) trivial, ih]
theorem clP_lt {g : Pa} {p : Int} (h : InD g p) : clP g p < g.prio.length:=by
  obtain ⟨u,h1,h2⟩:=h
  have:=num_lt (p:=fun _=>True) (q:=fun v=>p < gi g.prio v) (k:=g.prio.length) (fun _ _ _=>trivial) ⟨u,h1,trivial,by show ¬ _ < _;omega⟩
  rw [num_all] at this
  exact this
theorem clP_down {g : Pa} {p q : Int} (h : InD g q) (hp : p < q) : clP g q < clP g p:=by
  obtain ⟨u,h1,h2⟩:=h
  exact num_lt (p:=fun v=>p < gi g.prio v) (q:=fun v=>q < gi g.prio v) (k:=g.prio.length) (fun v _ hv=>by have : q < gi g.prio v:=hv;show p < _;omega) ⟨u,h1,by show p < _;omega,by show ¬ _ < _;omega⟩
theorem clP_inj {g : Pa} {p q : Int} (hp : InD g p) (hq : InD g q) : clP g p = clP g q ↔ p = q:=by
  refine ⟨fun h=>?_,fun h=>by rw [h]⟩
  rcases Int.lt_trichotomy p q with h1|h1|h1
  · have:=clP_down hq h1;omega
  · exact h1
  · have:=clP_down hp h1;omega
def RgD (g : Pa) (s : St) : Prop:=∀ v,v < g.prio.length → 0 ≤ gi s.region v → InD g (gi s.region v)
noncomputable def digN (g : Pa) (s : St) (i : Nat) : Nat:=num (fun v=>0 ≤ gi s.region v ∧ clP g (gi s.region v) = i) g.prio.length
noncomputable def rkX (g : Pa) (s : St) : Nat:=cRk (digN g s) 12 12 0
noncomputable def msrS (g : Pa) (s : St) : Nat:=opnN g s * (cF 12 12 * 13 + 13) + (cF 12 12 - rkX g s) * 13 + (12 - clP g s.at_)
section
variable {g : Pa} {s : St}
theorem dig_sum (hs : g.prio.length ≤ 12) : cSum (digN g s) 12 0 ≤ 12 :=
  Nat.le_trans (cSum_le (fun v=>0 ≤ gi s.region v) (fun v=>clP g (gi s.region v)) 12 0) (Nat.le_trans num_le hs)
theorem digR_top (hs : g.prio.length ≤ 12) : rkX g s < cF 12 12:=cRk_lt _ 12 12 0 (dig_sum hs)
theorem dig_at (hD : RgD g s) {p : Int} (hp : InD g p) (h0 : 0 ≤ p) : digN g s (clP g p) = cntR g s p:=num_congr fun v hv=>by
  constructor
  · rintro ⟨h1,h2⟩;exact (clP_inj (hD v hv h1) hp).1 h2
  · intro h;have h' : gi s.region v = p:=h;exact ⟨by omega,by rw [h']⟩
theorem pos_D (hg : PaOk g) {p : Int} (h : InD g p) : 0 ≤ p:=by
  obtain ⟨u,h1,h2⟩:=h
  rw [← h2];exact (hg.prio u h1).1
theorem digR_lt {s' : St} (hs : Small g) (hD : RgD g s) (hD' : RgD g s') {p : Int} (hp : InD g p) (h1 : cntR g s p < cntR g s' p) (h2 : ∀ q : Int,p < q → cntR g s q = cntR g s' q) : rkX g s < rkX g s':=by
  have h0:=pos_D hs.1 hp
  have hlt:=clP_lt hp
  have h12:=hs.2
  refine cRk_up 12 12 0 (clP g p) (dig_sum hs.2) (dig_sum hs.2) (Nat.zero_le _) (by omega) (fun j hj=>?_) (by rw [dig_at hD hp h0,dig_at hD' hp h0];exact h1)
  by_cases hx : ∃ q,InD g q ∧ clP g q = j
  · obtain ⟨q,hq,rfl⟩:=hx
    have hq0:=pos_D hs.1 hq
    rw [dig_at hD hq hq0,dig_at hD' hq hq0]
    refine h2 q ?_
    rcases Int.lt_or_le p q with h|h
    · exact h
    · rcases Int.lt_or_le q p with h'|h'
      · have:=clP_down hp h';omega
      · rw [show q = p by omega] at hj;omega
  · exact num_congr fun v hv=>⟨fun h=>absurd ⟨_,hD v hv h.1,h.2⟩ hx,fun h=>absurd ⟨_,hD' v hv h.1,h.2⟩ hx⟩
theorem less_x {s' : St} (hs : g.prio.length ≤ 12) (ho : opnN g s' = opnN g s) (hx : rkX g s < rkX g s') : msrS g s' < msrS g s:=by
  have h1:=digR_top (g:=g) (s:=s') hs
  unfold msrS
  rw [ho]
  omega
theorem at_D (h : StOk g s) (h0 : 0 ≤ s.at_) (hD : RgD g s) : InD g s.at_:=by
  rcases h.at' with ⟨h1,_⟩|⟨_,_,v,hv,hr⟩
  · omega
  · rw [← hr];exact hD v hv (by omega)
theorem up_ex (hu : 0 ≤ upV g s) : ∃ v u,Pul g s v ∧ (pgA g).own v ≠ s.at_.tmod 2 ∧ (pgA g).E v u ∧ ¬ Pul g s u ∧ gi s.region u = upV g s:=by
  rcases lsN_spec (Exits g s) 41 with ⟨h1,_⟩|⟨k,h1,h2,⟨v,u,e1,e2,e3,e4,e5⟩,_⟩
  · unfold upV at hu;omega
  · exact ⟨v,u,e1,e2,e3,e4,by unfold upV;rw [h2];exact e5⟩
theorem opn_cg {s' : St} (h : ∀ v,v < g.prio.length → (0 ≤ gi s'.region v ↔ 0 ≤ gi s.region v)) : opnN g s' = opnN g s:=num_congr h
theorem down_D (hg : PaOk g) (h : StOk g s) (h0 : 0 ≤ s.at_) (hD : RgD g s) : RgD g (downS g s):=fun v hv hr=>by
  rw [down_gi hv] at hr ⊢
  by_cases hP : Pul g s v
  · rw [if_pos hP];exact at_D h h0 hD
  · rw [if_neg hP] at hr ⊢;exact hD v hv hr
theorem down_less (hs : Small g) (h : StOk g s) (h0 : 0 ≤ s.at_) (hD : RgD g s) (hn : ¬ ShutP g s) : msrS g (downS g s) < msrS g s:=by
  have hg:=hs.1
  have hok:=down_ok hg h h0 hn
  have ha : s.at_ ≤ 40:=by rcases h.at' with h1|h1 <;> omega
  obtain ⟨w,w1,w2,w3,w4⟩:=down_max hg h h0 hn
  have ho : opnN g (downS g s) = opnN g s:=opn_cg fun v hv=>by
    rw [down_gi hv]
    by_cases hP : Pul g s v
    · rw [if_pos hP];exact ⟨fun _=>(pul_in hP).2.1,fun _=>h0⟩
    · rw [if_neg hP]
  by_cases hm : ∃ v,Pul g s v ∧ gi s.region v ≠ s.at_
  · obtain ⟨v,v1,v2⟩:=hm
    refine less_x hs.2 ho (digR_lt hs hD (down_D hg h h0 hD) (at_D h h0 hD) ?_ fun q hq=>?_)
    · refine num_lt (fun t ht hr=>?_) ⟨v,(pul_in v1).1,?_,v2⟩
      · show gi (downS g s).region t = s.at_
        rw [down_gi ht,if_pos (gol_pul h h0 ht hr)]
      · show gi (downS g s).region v = s.at_
        rw [down_gi (pul_in v1).1,if_pos v1]
    · refine num_congr fun t ht=>?_
      rw [down_gi ht]
      by_cases hP : Pul g s t
      · rw [if_pos hP]
        have:=(pul_in hP).2.2
        omega
      · rw [if_neg hP]
  · have hd : rkX g (downS g s) = rkX g s:=congrArg (fun a=>cRk a 12 12 0) (funext fun i=>num_congr fun t ht=>by
      rw [down_gi ht]
      by_cases hP : Pul g s t
      · rw [if_pos hP,Classical.byContradiction fun hne=>hm ⟨t,hP,fun e=>hne e⟩]
      · rw [if_neg hP])
    have h5 : clP g s.at_ < clP g (downS g s).at_:=clP_down (at_D h h0 hD) (by rw [w3];exact w4)
    have h6:=clP_le g (downS g s).at_
    have h7:=hs.2
    unfold msrS
    rw [ho,hd]
    omega
theorem rise_D (hg : PaOk g) (h : StOk g s) (hu : 0 ≤ upV g s) (hD : RgD g s) : RgD g (riseS g s (upV g s)):=fun v hv hr=>by
  obtain ⟨_,x,_,_,x3,_,x5⟩:=up_ex hu
  rw [rise_gi hv] at hr ⊢
  by_cases hP : Pul g s v
  · rw [if_pos hP,← x5];exact hD x ((pgA_E _ _).1 x3).2.1 (by omega)
  · rw [if_neg hP] at hr ⊢
    by_cases hc : 0 ≤ gi s.region v ∧ gi s.region v < upV g s
    · rw [if_pos hc];exact ⟨v,hv,rfl⟩
    · rw [if_neg hc] at hr ⊢;exact hD v hv hr
theorem rise_less (hs : Small g) (h : StOk g s) (h0 : 0 ≤ s.at_) (hD : RgD g s) (hn : ShutP g s) (hu : 0 ≤ upV g s) : msrS g (riseS g s (upV g s)) < msrS g s:=by
  have hg:=hs.1
  obtain ⟨u1,u2⟩:=up_spec h h0 hn hu
  obtain ⟨w,hw⟩:=pul_ex h h0
  have hD':=rise_D hg h hu hD
  have huD : InD g (upV g s):=by
    obtain ⟨_,x,_,_,x3,_,x5⟩:=up_ex hu
    rw [← x5];exact hD x ((pgA_E _ _).1 x3).2.1 (by omega)
  generalize upV g s = up at *
  have ho : opnN g (riseS g s up) = opnN g s:=opn_cg fun v hv=>by
    rw [rise_gi hv]
    by_cases hP : Pul g s v
    · rw [if_pos hP];exact ⟨fun _=>(pul_in hP).2.1,fun _=>hu⟩
    · rw [if_neg hP]
      by_cases h' : 0 ≤ gi s.region v ∧ gi s.region v < up
      · rw [if_pos h'];exact ⟨fun _=>h'.1,fun _=>(hg.prio v hv).1⟩
      · rw [if_neg h']
  refine less_x hs.2 ho (digR_lt hs hD hD' huD ?_ fun q hq=>?_)
  · refine num_lt (fun t ht hr=>?_) ⟨w,(pul_in hw).1,?_,fun e=>by have:=(pul_in hw).2.2;omega⟩
    · show gi (riseS g s up).region t = up
      rw [rise_gi ht,if_neg fun hP=>by have:=(pul_in hP).2.2;omega,if_neg (by omega)]
      exact hr
    · show gi (riseS g s up).region w = up
      rw [rise_gi (pul_in hw).1,if_pos hw]
  · refine num_congr fun t ht=>?_
    rw [rise_gi ht]
    by_cases hP : Pul g s t
    · rw [if_pos hP]
      have:=(pul_in hP).2.2
      omega
    · rw [if_neg hP]
      by_cases h' : 0 ≤ gi s.region t ∧ gi s.region t < up
      · rw [if_pos h']
        have:=(h.opn ht h'.1).2.1
        omega
      · rw [if_neg h']
theorem win_less (hs : Small g) (h : StOk g s) (h0 : 0 ≤ s.at_) : msrS g (winS g s) < msrS g s:=by
  have hg:=hs.1
  have ha : s.at_ ≤ 40:=by rcases h.at' with h1|h1 <;> omega
  obtain ⟨w,hw⟩:=pul_ex h h0
  have hwb:=pul_in hw
  have hA : AllW g s w:=PG.attr_goal ⟨hwb.1,hwb.2.1,by have:=hwb.2.2;omega⟩ hw
  have ho : opnN g (winS g s) < opnN g s:=num_lt (fun t ht hr=>by
    by_cases hB : Blw g s 40 t ∧ ¬ AllW g s t
    · exact hB.1.2.1
    · rw [win_reg ht,if_neg hB] at hr;exact absurd hr (by decide)) ⟨w,hwb.1,hwb.2.1,fun hr=>by
    rw [win_reg hwb.1,if_neg fun h'=>h'.2 hA] at hr
    exact absurd hr (by decide)⟩
  have hm:=Nat.mul_le_mul_right (cF 12 12 * 13 + 13) (Nat.succ_le_of_lt ho)
  rw [Nat.succ_mul] at hm
  have h3 : (cF 12 12 - rkX g (winS g s)) * 13 ≤ cF 12 12 * 13:=Nat.mul_le_mul_right _ (Nat.sub_le _ _)
  unfold msrS
  omega
theorem win_D : RgD g (winS g s):=fun v hv hr=>by
  rw [win_reg hv] at hr ⊢
  by_cases hB : Blw g s 40 v ∧ ¬ AllW g s v
  · rw [if_pos hB];exact ⟨v,hv,rfl⟩
  · rw [if_neg hB] at hr;exact absurd hr (by decide)
theorem step_D (hg : PaOk g) (h : StOk g s) (h0 : 0 ≤ s.at_) (hD : RgD g s) : RgD g (stepS g s).1:=by
  unfold stepS
  by_cases h1 : ShutP g s
  · rw [if_neg (fun h'=>h' h1)]
    by_cases h2 : 0 ≤ upV g s
    · rw [if_pos h2];exact rise_D hg h h2 hD
    · rw [if_neg h2];exact win_D
  · rw [if_pos h1];exact down_D hg h h0 hD
theorem step_less (hs : Small g) (h : StOk g s) (h0 : 0 ≤ s.at_) (hD : RgD g s) : msrS g (stepS g s).1 < msrS g s:=by
  unfold stepS
  by_cases h1 : ShutP g s
  · rw [if_neg (fun h'=>h' h1)]
    by_cases h2 : 0 ≤ upV g s
    · rw [if_pos h2];exact rise_less hs h h0 hD h1 h2
    · rw [if_neg h2];exact win_less hs h h0
  · rw [if_pos h1];exact down_less hs h h0 hD h1
theorem msr_le (hs : Small g) : msrS g s < 2 ^ 30:=by
  have h1:=cF_top
  have h2 : opnN g s ≤ 12:=Nat.le_trans num_le hs.2
  have h3:=Nat.mul_le_mul_right (cF 12 12 * 13 + 13) h2
  unfold msrS
  omega
end
noncomputable def fstG (g : Pa) : St:=⟨tab g.prio.length fun _=>-1,g.prio,mxN (fun _=>True) (gi g.prio) g.prio.length⟩
theorem fst_D (g : Pa) : RgD g (fstG g):=fun v hv _=>⟨v,hv,rfl⟩
theorem fst_ok {g : Pa} (hg : PaOk g) : StOk g (fstG g):=by
  have hl:=hg.len
  have hpos:=hg.ar.pos
  refine ⟨tab_len _ _,rfl,fun v hv=>.inl ⟨gi_tab _ hv,Int.le_refl _,(hg.prio v hv).2⟩,?_,fun p hp hp0=>?_⟩
  · rcases mxN_is (p:=fun _=>True) (f:=gi g.prio) g.prio.length with ⟨h1,h2⟩|⟨v,h1,_,h3⟩
    · have:=h2 0 (by omega) trivial
      have:=hg.prio 0 (by omega)
      omega
    · have:=hg.prio v h1
      exact .inr ⟨by show 0 ≤ mxN _ _ _;omega,by show mxN _ _ _ ≤ 40;omega,v,h1,h3.symm⟩
  · refine total_cg (S:=fun v=>v < g.prio.length) (fun v=>⟨fun h=>h.1,fun hv=>⟨hv,(hg.prio v hv).1,?_⟩⟩) fun v hv=>?_
    · have : gi g.prio v ≤ (fstG g).at_:=mxN_up (p:=fun _=>True) (f:=gi g.prio) g.prio.length v hv trivial
      show gi g.prio v ≤ p
      omega
    · obtain ⟨_,_,h1,h2,h3⟩:=hg.ar.vert v (by omega)
      have h4:=h3 0 (by omega)
      exact ⟨(gi (gr g.ar.nxt v) 0).toNat,(pgA_E _ _).2 ⟨hv,by omega,0,by omega,by omega⟩,by show _ < _;omega⟩
end Go.Proofs.Ytfmnikiinfbanaa
