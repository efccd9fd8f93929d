/-
  Priority promotion: a number that falls with each step. Plain theory, no program.
-/
import Derived.Test.YtdkkhhfhdijfmaaZsAt4
import Derived.Test.YtdkkhhfhdijfmaaZsM3
import Derived.Test.YtdkkhhfhdijfmaaZsStage
namespace Go.Proofs.Ytdkkhhfhdijfmaa
set_option linter.unusedVariables false
set_option linter.unusedSimpArgs false
open Go.RowKit
noncomputable def mxN (p : Nat → Prop) (f : Nat → Int) : Nat → Int
 | 0 => -1
 | k + 1 => @ite _ (p k) (Classical.propDecidable _) (max (mxN p f k) (f k)) (mxN p f k)
theorem dv {p : Nat → Prop} {f : Nat → Int} {k : Nat} (h : p k) : mxN p f (k + 1) = max (mxN p f k) (f k):=if_pos h
theorem eg {p : Nat → Prop} {f : Nat → Int} {k : Nat} (h : ¬ p k) : mxN p f (k + 1) = mxN p f k:=if_neg h
theorem nz {p : Nat → Prop} {f : Nat → Int} : ∀ n,-1 ≤ mxN p f n
 | 0 => Int.le_refl _
 | n + 1 => by
   have:=nz (p:=p) (f:=f) n
   by_cases h : p n
   · rw [dv h];omega
   · rw [eg h];exact this
theorem jL {p : Nat → Prop} {f : Nat → Int} : ∀ n v,v < n → p v → f v ≤ mxN p f n
 | 0, v, h, _ => absurd h (Nat.not_lt_zero _)
 | n + 1, v, h, hp => by
   rcases Nat.lt_or_ge v n with h'|h'
   · have:=jL (p:=p) (f:=f) n v h' hp
     by_cases h : p n
     · rw [dv h];omega
     · rw [eg h];exact this
   · obtain rfl : v = n:=by omega
     rw [dv hp];omega
theorem jM {p : Nat → Prop} {f : Nat → Int} : ∀ n,(mxN p f n = -1 ∧ ∀ v,v < n → p v → f v ≤ -1) ∨ ∃ v,v < n ∧ p v ∧ mxN p f n = f v
 | 0 => .inl ⟨rfl, fun v h => absurd h (Nat.not_lt_zero _)⟩
 | n + 1 => by
   rcases jM (p:=p) (f:=f) n with ⟨h1,h2⟩|⟨v,h1,h2,h3⟩
   · by_cases h : p n
     · rw [dv h,h1]
       by_cases hf : f n ≤ -1
       · refine .inl ⟨by omega,fun v hv hp=>?_⟩
         rcases Nat.lt_or_ge v n with h'|h'
         · exact h2 v h' hp
         · rw [show v = n by omega];exact hf
       · exact .inr ⟨n,by omega,h,by omega⟩
     · rw [eg h]
       refine .inl ⟨h1,fun v hv hp=>?_⟩
       rcases Nat.lt_or_ge v n with h'|h'
       · exact h2 v h' hp
       · rw [show v = n by omega] at hp;exact absurd hp h
   · by_cases h : p n
     · rw [dv h]
       rcases Int.lt_or_le (mxN p f n) (f n) with h'|h'
       · exact .inr ⟨n,by omega,h,by omega⟩
       · exact .inr ⟨v,by omega,h2,by omega⟩
     · rw [eg h];exact .inr ⟨v,by omega,h2,h3⟩
noncomputable def lsN (p : Nat → Prop) : Nat → Int
 | 0 => -1
 | n + 1 => @ite _ (0 ≤ lsN p n) (Classical.propDecidable _) (lsN p n) (@ite _ (p n) (Classical.propDecidable _) (n : Int) (-1))
theorem ig (p : Nat → Prop) : ∀ n,(lsN p n = -1 ∧ ∀ j,j < n → ¬ p j) ∨ ∃ k,k < n ∧ lsN p n = k ∧ p k ∧ ∀ j,j < k → ¬ p j
 | 0 => .inl ⟨rfl, fun j h => absurd h (Nat.not_lt_zero _)⟩
 | n + 1 => by
   unfold lsN
   rcases ig p n with ⟨h1,h2⟩|⟨k,h1,h2,h3,h4⟩
   · rw [h1,if_neg (by decide)]
     by_cases h : p n
     · rw [if_pos h];exact .inr ⟨n,by omega,rfl,h,h2⟩
     · rw [if_neg h]
       refine .inl ⟨rfl,fun j hj=>?_⟩
       rcases Nat.lt_or_ge j n with h'|h'
       · exact h2 j h'
       · rw [show j = n by omega];exact h
   · rw [h2,if_pos (by omega)]
     exact .inr ⟨k,by omega,rfl,h3,h4⟩
section
variable (g : Pa) (s : St)
def Blw (p : Int) (v : Nat) : Prop:=v < g.prio.length ∧ 0 ≤ gi s.region v ∧ gi s.region v ≤ p
def Gol (v : Nat) : Prop:=v < g.prio.length ∧ gi s.region v = s.at_
def Pul (v : Nat) : Prop:=PG.Attr (pgA g) (s.at_.tmod 2) (Blw g s s.at_) (Gol g s) v
def cQ : Prop:=∀ v,Pul g s v → ((pgA g).own v = s.at_.tmod 2 → ∃ u,(pgA g).E v u ∧ Pul g s u) ∧ ((pgA g).own v ≠ s.at_.tmod 2 → ∀ u,(pgA g).E v u → Blw g s s.at_ u → Pul g s u)
def mo (p : Nat) : Prop:=∃ v u,Pul g s v ∧ (pgA g).own v ≠ s.at_.tmod 2 ∧ (pgA g).E v u ∧ ¬ Pul g s u ∧ gi s.region u = (p : Int)
noncomputable def upV : Int:=lsN (mo g s) 41
open Classical in
noncomputable def cD : St:=⟨s.won,tab g.prio.length fun v=>if Pul g s v then s.at_ else gi s.region v,mxN (fun v=>Blw g s s.at_ v ∧ ¬ Pul g s v) (gi s.region) g.prio.length⟩
open Classical in
noncomputable def c8 (up : Int) : St:=⟨s.won,tab g.prio.length fun v=>if Pul g s v then up else if 0 ≤ gi s.region v ∧ gi s.region v < up then gi g.prio v else gi s.region v,up⟩
def dj (v : Nat) : Prop:=PG.Attr (pgA g) (s.at_.tmod 2) (Blw g s 40) (Pul g s) v
open Classical in
noncomputable def dk : St:=⟨tab g.prio.length fun v=>if dj g s v then s.at_.tmod 2 else gi s.won v,tab g.prio.length fun v=>if Blw g s 40 v ∧ ¬ dj g s v then gi g.prio v else -1,mxN (fun v=>Blw g s 40 v ∧ ¬ dj g s v) (gi g.prio) g.prio.length⟩
open Classical in
noncomputable def cL : St × Int:=if ¬ cQ g s then (cD g s,1) else if 0 ≤ upV g s then (c8 g s (upV g s),2) else (dk g s,3)
structure StOk : Prop where
 lw : s.won.length = g.prio.length
 lr : s.region.length = g.prio.length
 reg : ∀ v,v < g.prio.length → (gi s.won v = -1 ∧ gi g.prio v ≤ gi s.region v ∧ gi s.region v ≤ 40) ∨ ((gi s.won v = 0 ∨ gi s.won v = 1) ∧ gi s.region v = -1)
 at' : (s.at_ = -1 ∧ ∀ v,v < g.prio.length → gi s.region v = -1) ∨ (0 ≤ s.at_ ∧ s.at_ ≤ 40 ∧ ∃ v,v < g.prio.length ∧ gi s.region v = s.at_)
 tot : ∀ p,s.at_ ≤ p → 0 ≤ p → PG.Total (pgA g) (Blw g s p)
end
theorem sS {g : Pa} : PG.Fin (pgA g) g.prio.length:=fun v u h=>((fk v u).1 h).2.1
section
variable {g : Pa} {s : St}
theorem cz {v : Nat} (h : Pul g s v) : Blw g s s.at_ v:=PG.attr_in h
theorem lk (h : StOk g s) (h0 : 0 ≤ s.at_) {v : Nat} (hv : v < g.prio.length) (hr : gi s.region v = s.at_) : Pul g s v:=PG.attr_goal ⟨hv,by omega,by omega⟩ ⟨hv,hr⟩
theorem nA (h : StOk g s) (h0 : 0 ≤ s.at_) : ∃ v,Pul g s v:=by
 rcases h.at' with ⟨h1,_⟩|⟨_,_,v,hv,hr⟩
 · omega
 · exact ⟨v,lk h h0 hv hr⟩
theorem sB (h : StOk g s) (h0 : 0 ≤ s.at_) (hs : ¬ cQ g s) : ∃ v,Blw g s s.at_ v ∧ ¬ Pul g s v:=by
 refine Classical.byContradiction fun hno=>hs fun v hv=>⟨fun _=>?_,fun _ u _ hu=>?_⟩
 · obtain ⟨u,h1,h2⟩:=h.tot s.at_ (Int.le_refl _) h0 v (cz hv)
   exact ⟨u,h1,Classical.byContradiction fun h3=>hno ⟨u,h2,h3⟩⟩
 · exact Classical.byContradiction fun h3=>hno ⟨u,hu,h3⟩
end
end Go.Proofs.Ytdkkhhfhdijfmaa
namespace Go.Proofs.Ytdkkhhfhdijfmaa
set_option linter.unusedVariables false
set_option linter.unusedSimpArgs false
open Go.RowKit
theorem fS {P : PG.Gm} {S S' : Nat → Prop} (h : ∀ v,S' v ↔ S v) (ht : PG.Total P S) : PG.Total P S':=by
 rw [show S' = S from funext fun v=>propext (h v)];exact ht
section
variable {g : Pa} {s : St}
theorem StOk.opn (h : StOk g s) {v : Nat} (hv : v < g.prio.length) (h0 : 0 ≤ gi s.region v) : gi s.won v = -1 ∧ gi g.prio v ≤ gi s.region v ∧ gi s.region v ≤ 40:=by
 rcases h.reg v hv with h1|h1
 · exact h1
 · omega
theorem cR {v : Nat} (hv : v < g.prio.length) : gi (cD g s).region v = @ite Int (Pul g s v) (Classical.propDecidable _) s.at_ (gi s.region v):=cI _ hv
theorem dw {up : Int} {v : Nat} (hv : v < g.prio.length) : gi (c8 g s up).region v = @ite Int (Pul g s v) (Classical.propDecidable _) up (if 0 ≤ gi s.region v ∧ gi s.region v < up then gi g.prio v else gi s.region v):=by
 rw [c8,cI _ hv]
theorem mp (hg : PaOk g) (h : StOk g s) (h0 : 0 ≤ s.at_) (hs : ¬ cQ g s) : ∃ v,Blw g s s.at_ v ∧ ¬ Pul g s v ∧ (cD g s).at_ = gi s.region v ∧ gi s.region v < s.at_:=by
 obtain ⟨w,hw1,hw2⟩:=sB h h0 hs
 rcases jM (p:=fun v=>Blw g s s.at_ v ∧ ¬ Pul g s v) (f:=gi s.region) g.prio.length with ⟨h1,h2⟩|⟨v,h1,⟨h2,h3⟩,h4⟩
 · have:=h2 w hw1.1 ⟨hw1,hw2⟩
   have:=hw1.2.1
   omega
 · refine ⟨v,h2,h3,h4,?_⟩
   have h5:=h2.2.2
   rcases Int.lt_or_le (gi s.region v) s.at_ with h6|h6
   · exact h6
   · exact absurd (lk h h0 h2.1 (by omega)) h3
theorem oz (hg : PaOk g) (h : StOk g s) (h0 : 0 ≤ s.at_) (hs : ¬ cQ g s) : StOk g (cD g s):=by
 have ha : s.at_ ≤ 40:=by rcases h.at' with h1|h1 <;> omega
 obtain ⟨w,w1,w2,w3,w4⟩:=mp hg h h0 hs
 have hup:=fun v (hv : v < g.prio.length) hp=>jL (p:=fun v=>Blw g s s.at_ v ∧ ¬ Pul g s v) (f:=gi s.region) g.prio.length v hv hp
 refine ⟨h.lw,bK _ _,fun v hv=>?_,.inr ⟨by have:=w1.2.1;omega,by omega,w,w1.1,by rw [cR w1.1,if_neg w2,w3]⟩,fun p hp hp0=>?_⟩
 · rw [cR hv]
   by_cases hP : Pul g s v
   · rw [if_pos hP]
     have hb:=cz hP
     have:=h.opn hv hb.2.1
     have:=hb.2.2
     exact .inl ⟨(h.opn hv hb.2.1).1,by omega,ha⟩
   · rw [if_neg hP];exact h.reg v hv
 · rcases Int.lt_or_le p s.at_ with hlt|hle
   · refine fS (S:=PG.Diff (Blw g s s.at_) (PG.Attr (pgA g) (s.at_.tmod 2) (Blw g s s.at_) (Gol g s))) (fun v=>?_) (PG.total_diff sS (h.tot s.at_ (Int.le_refl _) h0))
     constructor
     · rintro ⟨hv,h1,h2⟩
       rw [cR hv] at h1 h2
       by_cases hP : Pul g s v
       · rw [if_pos hP] at h2;omega
       · rw [if_neg hP] at h1 h2
         exact ⟨⟨hv,h1,by omega⟩,hP⟩
     · rintro ⟨h1,h2⟩
       have h3 : ¬ Pul g s v:=h2
       refine ⟨h1.1,?_,?_⟩ <;> rw [cR h1.1,if_neg h3]
       · exact h1.2.1
       · have : gi s.region v ≤ (cD g s).at_:=hup v h1.1 ⟨h1,h3⟩
         omega
   · refine fS (fun v=>?_) (h.tot p hle hp0)
     constructor
     · rintro ⟨hv,h1,h2⟩
       rw [cR hv] at h1 h2
       by_cases hP : Pul g s v
       · have:=cz hP;exact ⟨hv,this.2.1,by have:=this.2.2;omega⟩
       · rw [if_neg hP] at h1 h2;exact ⟨hv,h1,h2⟩
     · rintro ⟨hv,h1,h2⟩
       refine ⟨hv,?_,?_⟩ <;> rw [cR hv] <;> by_cases hP : Pul g s v
       · rw [if_pos hP];exact h0
       · rw [if_neg hP];exact h1
       · rw [if_pos hP];exact hle
       · rw [if_neg hP];exact h2
theorem lm (h : StOk g s) (h0 : 0 ≤ s.at_) (hs : cQ g s) (hu : 0 ≤ upV g s) : s.at_ < upV g s ∧ upV g s ≤ 40:=by
 rcases ig (mo g s) 41 with ⟨h1,_⟩|⟨k,h1,h2,⟨v,u,e1,e2,e3,e4,e5⟩,_⟩
 · unfold upV at hu;omega
 · unfold upV at hu ⊢
   rw [h2] at hu ⊢
   have hun:=((fk v u).1 e3).2.1
   refine ⟨?_,by omega⟩
   rcases Int.lt_or_le s.at_ (k : Int) with h'|h'
   · exact h'
   · exact absurd ((hs v e1).2 e2 u e3 ⟨hun,by omega,by omega⟩) e4
theorem sC (hg : PaOk g) (h : StOk g s) (h0 : 0 ≤ s.at_) (hs : cQ g s) (hu : 0 ≤ upV g s) : StOk g (c8 g s (upV g s)):=by
 obtain ⟨u1,u2⟩:=lm h h0 hs hu
 obtain ⟨w,hw⟩:=nA h h0
 generalize upV g s = up at *
 refine ⟨h.lw,bK _ _,fun v hv=>?_,.inr ⟨by show 0 ≤ up;exact hu,u2,w,(cz hw).1,by rw [dw (cz hw).1,if_pos hw];rfl⟩,fun p hp hp0=>?_⟩
 · rw [dw hv]
   by_cases hP : Pul g s v
   · rw [if_pos hP]
     have hb:=cz hP
     have h3:=h.opn hv hb.2.1
     have h4:=hb.2.2
     exact .inl ⟨h3.1,by omega,u2⟩
   · rw [if_neg hP]
     by_cases h' : 0 ≤ gi s.region v ∧ gi s.region v < up
     · rw [if_pos h']
       have h3:=h.opn hv h'.1
       exact .inl ⟨h3.1,Int.le_refl _,by omega⟩
     · rw [if_neg h'];exact h.reg v hv
 · have hp' : up ≤ p:=hp
   refine fS (fun v=>?_) (h.tot p (by omega) hp0)
   constructor
   · rintro ⟨hv,h1,h2⟩
     rw [dw hv] at h1 h2
     by_cases hP : Pul g s v
     · have:=cz hP;exact ⟨hv,this.2.1,by have:=this.2.2;omega⟩
     · rw [if_neg hP] at h1 h2
       by_cases h' : 0 ≤ gi s.region v ∧ gi s.region v < up
       · exact ⟨hv,h'.1,by omega⟩
       · rw [if_neg h'] at h1 h2;exact ⟨hv,h1,h2⟩
   · rintro ⟨hv,h1,h2⟩
     have h3:=h.opn hv h1
     have h4:=hg.prio v hv
     refine ⟨hv,?_,?_⟩ <;> rw [dw hv] <;> by_cases hP : Pul g s v
     · rw [if_pos hP];exact hu
     · rw [if_neg hP];split <;> omega
     · rw [if_pos hP];exact hp'
     · rw [if_neg hP];split <;> omega
theorem eD {v : Nat} (hv : v < g.prio.length) : gi (dk g s).region v = @ite Int (Blw g s 40 v ∧ ¬ dj g s v) (Classical.propDecidable _) (gi g.prio v) (-1):=by
 rw [dk,cI _ hv]
 by_cases h : Blw g s 40 v ∧ ¬ dj g s v
 · simp only [h,not_false_eq_true,and_self,if_true]
 · simp only [h,if_false]
theorem jk {v : Nat} (hv : v < g.prio.length) : gi (dk g s).won v = @ite Int (dj g s v) (Classical.propDecidable _) (s.at_.tmod 2) (gi s.won v):=cI _ hv
theorem tV (hg : PaOk g) (h : StOk g s) (h0 : 0 ≤ s.at_) : StOk g (dk g s):=by
 have ha : s.at_ ≤ 40:=by rcases h.at' with h1|h1 <;> omega
 have hup:=fun v (hv : v < g.prio.length) hp=>jL (p:=fun v=>Blw g s 40 v ∧ ¬ dj g s v) (f:=gi g.prio) g.prio.length v hv hp
 refine ⟨bK _ _,bK _ _,fun v hv=>?_,?_,fun p hp hp0=>?_⟩
 · rw [eD hv,jk hv]
   by_cases hA : dj g s v
   · rw [if_pos hA,if_neg fun h'=>h'.2 hA]
     refine .inr ⟨?_,rfl⟩
     rw [Int.tmod_eq_emod_of_nonneg h0];omega
   · rw [if_neg hA]
     by_cases hB : Blw g s 40 v
     · rw [if_pos ⟨hB,hA⟩]
       exact .inl ⟨(h.opn hv hB.2.1).1,Int.le_refl _,(hg.prio v hv).2⟩
     · rw [if_neg fun h'=>hB h'.1]
       rcases h.reg v hv with h1|h1
       · exact absurd ⟨hv,by have:=hg.prio v hv;omega,h1.2.2⟩ hB
       · exact .inr ⟨h1.1,rfl⟩
 · rcases jM (p:=fun v=>Blw g s 40 v ∧ ¬ dj g s v) (f:=gi g.prio) g.prio.length with ⟨h1,h2⟩|⟨v,h1,h2,h3⟩
   · refine .inl ⟨h1,fun v hv=>?_⟩
     rw [eD hv,if_neg]
     intro h'
     have:=h2 v hv h'
     have:=hg.prio v hv
     omega
   · have:=hg.prio v h1
     exact .inr ⟨by show 0 ≤ mxN _ _ _;omega,by show mxN _ _ _ ≤ 40;omega,v,h1,by rw [eD h1,if_pos h2];exact h3.symm⟩
 · refine fS (S:=PG.Diff (Blw g s 40) (PG.Attr (pgA g) (s.at_.tmod 2) (Blw g s 40) (Pul g s))) (fun v=>?_) (PG.total_diff sS (h.tot 40 ha (by decide)))
   constructor
   · rintro ⟨hv,h1,h2⟩
     rw [eD hv] at h1
     by_cases hB : Blw g s 40 v ∧ ¬ dj g s v
     · exact hB
     · rw [if_neg hB] at h1;exact absurd h1 (by decide)
   · intro hB
     have hB' : Blw g s 40 v ∧ ¬ dj g s v:=hB
     have hv:=hB'.1.1
     refine ⟨hv,?_,?_⟩ <;> rw [eD hv,if_pos hB']
     · exact (hg.prio v hv).1
     · have : gi g.prio v ≤ (dk g s).at_:=hup v hv hB'
       omega
theorem sD (hg : PaOk g) (h : StOk g s) (h0 : 0 ≤ s.at_) : StOk g (cL g s).1:=by
 unfold cL
 by_cases h1 : cQ g s
 · rw [if_neg (fun h'=>h' h1)]
   by_cases h2 : 0 ≤ upV g s
   · rw [if_pos h2];exact sC hg h h0 h1 h2
   · rw [if_neg h2];exact tV hg h h0
 · rw [if_pos h1];exact oz hg h h0 h1
end
end Go.Proofs.Ytdkkhhfhdijfmaa
namespace Go.Proofs.Ytdkkhhfhdijfmaa
set_option linter.unusedVariables false
set_option linter.unusedSimpArgs false
open Go.RowKit
noncomputable def qP (g : Pa) (s : St) (p : Int) : Nat:=num (fun v=>gi s.region v = p) g.prio.length
noncomputable def i9 (g : Pa) (s : St) : Nat:=num (fun v=>0 ≤ gi s.region v) g.prio.length
def cF : Nat → Nat → Nat
 | 0, _ => 1
 | d + 1, 0 => cF d 0
 | d + 1, m + 1 => cF (d + 1) m + cF d (m + 1)
theorem qQ (d m : Nat) : cF (d + 1) (m + 1) = cF (d + 1) m + cF d (m + 1):=by rw [cF]
theorem sT (d : Nat) : cF (d + 1) 0 = cF d 0:=by rw [cF]
theorem tW (m : Nat) : cF 0 m = 1:=by rw [cF]
def cG (d m : Nat) : Nat → Nat
 | 0 => 0
 | c + 1 => cG d m c + cF d (m - c)
def cRk (a : Nat → Nat) : Nat → Nat → Nat → Nat
 | 0, _, _ => 0
 | d + 1, m, i => cG d m (a i) + cRk a d (m - a i) (i + 1)
def ln (a : Nat → Nat) : Nat → Nat → Nat
 | 0, _ => 0
 | d + 1, i => a i + ln a d (i + 1)
theorem vM (d : Nat) : ∀ m,cF d m ≤ cF (d + 1) m
 | 0 => by rw [sT]; exact Nat.le_refl _
 | m + 1 => by rw [qQ]; exact Nat.le_add_left _ _
theorem qR (d m : Nat) : ∀ c,c ≤ m → cG d m c + cF (d + 1) (m - c) = cF (d + 1) m
 | 0, _ => by rw [cG, Nat.zero_add, Nat.sub_zero]
 | c + 1, h => by
   have ih:=qR d m c (by omega)
   obtain ⟨e,he⟩ : ∃ e,m - c = e + 1:=⟨m - c - 1,by omega⟩
   rw [cG,show m - (c + 1) = e by omega,← ih,he]
   rw [qQ]
   omega
theorem oA (d m : Nat) (c : Nat) : ∀ k,cG d m c ≤ cG d m (c + k)
 | 0 => Nat.le_refl _
 | k + 1 => Nat.le_trans (oA d m c k) (Nat.le_add_right _ _)
theorem nB (a : Nat → Nat) : ∀ d m i,ln a d i ≤ m → cRk a d m i < cF d m
 | 0, m, i, _ => by rw [cRk, tW]; exact Nat.one_pos
 | d + 1, m, i, h => by
   rw [ln] at h
   have h1:=nB a d (m - a i) (i + 1) (by omega)
   have h2:=qR d m (a i) (by omega)
   have h3:=vM d (m - a i)
   rw [cRk]
   omega
theorem qS {a b : Nat → Nat} : ∀ d m i p,ln a d i ≤ m → ln b d i ≤ m → i ≤ p → p < i + d → (∀ j,j < p → a j = b j) → a p < b p → cRk a d m i < cRk b d m i
 | 0, m, i, p, _, _, h1, h2, _, _ => by omega
 | d + 1, m, i, p, ha, hb, h1, h2, h3, h4 => by
   rw [ln] at ha hb
   rw [cRk,cRk]
   rcases Nat.lt_or_ge i p with h|h
   · have ih:=qS (a:=a) (b:=b) d (m - a i) (i + 1) p (by omega) (by rw [h3 i h];omega) h (by omega) h3 h4
     rw [← h3 i h]
     omega
   · obtain rfl : i = p:=by omega
     have h5:=nB a d (m - a i) (i + 1) (by omega)
     have h6:=oA d m (a i + 1) (b i - (a i + 1))
     rw [show a i + 1 + (b i - (a i + 1)) = b i by omega,cG] at h6
     omega
def er : Nat → Nat
 | 0 => 1
 | n + 1 => (n + 1) * er n
theorem oB : ∀ d,cF d 0 = 1
 | 0 => tW 0
 | d + 1 => (sT d).trans (oB d)
theorem nC : ∀ d m,cF d m * (er d * er m) = er (d + m)
 | 0, m => by rw [tW]; show 1 * (1 * er m) = _; rw [Nat.one_mul, Nat.one_mul, Nat.zero_add]
 | d + 1, 0 => by rw [oB]; show 1 * (er (d + 1) * 1) = _; rw [Nat.one_mul, Nat.mul_one, Nat.add_zero]
 | d + 1, m + 1 => by
   have h1:=nC (d + 1) m
   have h2:=nC d (m + 1)
   have e1 : d + 1 + m = d + (m + 1):=by omega
   have e2 : d + 1 + (m + 1) = d + (m + 1) + 1:=by omega
   rw [e1] at h1
   rw [e2]
   rw [qQ]
   show (cF (d + 1) m + cF d (m + 1)) * (er (d + 1) * er (m + 1)) = (d + (m + 1) + 1) * er (d + (m + 1))
   rw [Nat.add_mul]
   have q1 : cF (d + 1) m * (er (d + 1) * er (m + 1)) = (m + 1) * er (d + (m + 1)):=by
    rw [← h1,show er (m + 1) = (m + 1) * er m from rfl]
    simp only [Nat.mul_comm,Nat.mul_left_comm,Nat.mul_assoc]
   have q2 : cF d (m + 1) * (er (d + 1) * er (m + 1)) = (d + 1) * er (d + (m + 1)):=by
    rw [← h2,show er (d + 1) = (d + 1) * er d from rfl]
    simp only [Nat.mul_comm,Nat.mul_left_comm,Nat.mul_assoc]
   rw [q1,q2,← Nat.add_mul]
   congr 1
   omega
theorem tX : cF 12 12 ≤ 2 ^ 22:=by
 have h:=nC 12 12
 have h1 : er 24 ≤ 2 ^ 22 * (er 12 * er 12):=by decide
 rw [← h] at h1
 exact Nat.le_of_mul_le_mul_right h1 (by decide)
theorem oC {n : Nat} (P : Nat → Prop) (f : Nat → Nat) : ∀ d i,ln (fun i=>num (fun v=>P v ∧ f v = i) n) d i ≤ num (fun v=>P v ∧ i ≤ f v) n
 | 0, i => Nat.zero_le _
 | d + 1, i => by
   have ih:=oC (n:=n) P f d (i + 1)
   rw [ln]
   refine Nat.le_trans (Nat.add_le_add_left ih _) ?_
   clear ih
   induction n with
   | zero => exact Nat.le_refl _
   | succ n ih2 =>
     by_cases hP : P n
     · by_cases h1 : f n = i
       · rw [cm (p:=fun v=>P v ∧ f v = i) ⟨hP,h1⟩,cC (p:=fun v=>P v ∧ i + 1 ≤ f v) (fun h=>by have:=h.2;omega),cm (p:=fun v=>P v ∧ i ≤ f v) ⟨hP,by omega⟩]
         omega
       · rw [cC (p:=fun v=>P v ∧ f v = i) (fun h=>h1 h.2)]
         by_cases h2 : i + 1 ≤ f n
         · rw [cm (p:=fun v=>P v ∧ i + 1 ≤ f v) ⟨hP,h2⟩,cm (p:=fun v=>P v ∧ i ≤ f v) ⟨hP,by omega⟩]
           omega
         · rw [cC (p:=fun v=>P v ∧ i + 1 ≤ f v) (fun h=>h2 h.2),cC (p:=fun v=>P v ∧ i ≤ f v) (fun h=>by have:=h.2;omega)]
           omega
     · rw [cC (p:=fun v=>P v ∧ f v = i) (fun h=>hP h.1),cC (p:=fun v=>P v ∧ i + 1 ≤ f v) (fun h=>hP h.1),cC (p:=fun v=>P v ∧ i ≤ f v) (fun h=>hP h.1)]
       exact ih2
def InD (g : Pa) (p : Int) : Prop:=∃ u,u < g.prio.length ∧ gi g.prio u = p
noncomputable def clP (g : Pa) (p : Int) : Nat:=num (fun v=>p < gi g.prio v) g.prio.length
theorem tY (g : Pa) (p : Int) : clP g p ≤ g.prio.length:=gM
theorem sE (n : Nat) : num (fun _=>True) n = n:=by
 induction n with
 | zero => rfl
 | succ n ih => rw [cm (p := fun _ => True) trivial, ih]
theorem tZ {g : Pa} {p : Int} (h : InD g p) : clP g p < g.prio.length:=by
 obtain ⟨u,h1,h2⟩:=h
 have:=fR (p:=fun _=>True) (q:=fun v=>p < gi g.prio v) (k:=g.prio.length) (fun _ _ _=>trivial) ⟨u,h1,trivial,by show ¬ _ < _;omega⟩
 rw [sE] at this
 exact this
theorem ii {g : Pa} {p q : Int} (h : InD g q) (hp : p < q) : clP g q < clP g p:=by
 obtain ⟨u,h1,h2⟩:=h
 exact fR (p:=fun v=>p < gi g.prio v) (q:=fun v=>q < gi g.prio v) (k:=g.prio.length) (fun v _ hv=>by have : q < gi g.prio v:=hv;show p < _;omega) ⟨u,h1,by show p < _;omega,by show ¬ _ < _;omega⟩
theorem sF {g : Pa} {p q : Int} (hp : InD g p) (hq : InD g q) : clP g p = clP g q ↔ p = q:=by
 refine ⟨fun h=>?_,fun h=>by rw [h]⟩
 rcases Int.lt_trichotomy p q with h1|h1|h1
 · have:=ii hq h1;omega
 · exact h1
 · have:=ii hp h1;omega
def RgD (g : Pa) (s : St) : Prop:=∀ v,v < g.prio.length → 0 ≤ gi s.region v → InD g (gi s.region v)
noncomputable def t4 (g : Pa) (s : St) (i : Nat) : Nat:=num (fun v=>0 ≤ gi s.region v ∧ clP g (gi s.region v) = i) g.prio.length
noncomputable def rkX (g : Pa) (s : St) : Nat:=cRk (t4 g s) 12 12 0
noncomputable def eQ (g : Pa) (s : St) : Nat:=i9 g s * (cF 12 12 * 13 + 13) + (cF 12 12 - rkX g s) * 13 + (12 - clP g s.at_)
section
variable {g : Pa} {s : St}
theorem lp (hs : g.prio.length ≤ 12) : ln (t4 g s) 12 0 ≤ 12 :=
 Nat.le_trans (oC (fun v=>0 ≤ gi s.region v) (fun v=>clP g (gi s.region v)) 12 0) (Nat.le_trans gM hs)
theorem qT (hs : g.prio.length ≤ 12) : rkX g s < cF 12 12:=nB _ 12 12 0 (lp hs)
theorem lq (hD : RgD g s) {p : Int} (hp : InD g p) (h0 : 0 ≤ p) : t4 g s (clP g p) = qP g s p:=dn fun v hv=>by
 constructor
 · rintro ⟨h1,h2⟩;exact (sF (hD v hv h1) hp).1 h2
 · intro h;have h' : gi s.region v = p:=h;exact ⟨by omega,by rw [h']⟩
theorem sU (hg : PaOk g) {p : Int} (h : InD g p) : 0 ≤ p:=by
 obtain ⟨u,h1,h2⟩:=h
 rw [← h2];exact (hg.prio u h1).1
theorem oD {s' : St} (hs : cJ g) (hD : RgD g s) (hD' : RgD g s') {p : Int} (hp : InD g p) (h1 : qP g s p < qP g s' p) (h2 : ∀ q : Int,p < q → qP g s q = qP g s' q) : rkX g s < rkX g s':=by
 have h0:=sU hs.1 hp
 have hlt:=tZ hp
 have h12:=hs.2
 refine qS 12 12 0 (clP g p) (lp hs.2) (lp hs.2) (Nat.zero_le _) (by omega) (fun j hj=>?_) (by rw [lq hD hp h0,lq hD' hp h0];exact h1)
 by_cases hx : ∃ q,InD g q ∧ clP g q = j
 · obtain ⟨q,hq,rfl⟩:=hx
   have hq0:=sU hs.1 hq
   rw [lq hD hq hq0,lq hD' hq hq0]
   refine h2 q ?_
   rcases Int.lt_or_le p q with h|h
   · exact h
   · rcases Int.lt_or_le q p with h'|h'
     · have:=ii hp h';omega
     · rw [show q = p by omega] at hj;omega
 · exact dn fun v hv=>⟨fun h=>absurd ⟨_,hD v hv h.1,h.2⟩ hx,fun h=>absurd ⟨_,hD' v hv h.1,h.2⟩ hx⟩
theorem qU {s' : St} (hs : g.prio.length ≤ 12) (ho : i9 g s' = i9 g s) (hx : rkX g s < rkX g s') : eQ g s' < eQ g s:=by
 have h1:=qT (g:=g) (s:=s') hs
 unfold eQ
 rw [ho]
 omega
theorem t5 (h : StOk g s) (h0 : 0 ≤ s.at_) (hD : RgD g s) : InD g s.at_:=by
 rcases h.at' with ⟨h1,_⟩|⟨_,_,v,hv,hr⟩
 · omega
 · rw [← hr];exact hD v hv (by omega)
theorem sV (hu : 0 ≤ upV g s) : ∃ v u,Pul g s v ∧ (pgA g).own v ≠ s.at_.tmod 2 ∧ (pgA g).E v u ∧ ¬ Pul g s u ∧ gi s.region u = upV g s:=by
 rcases ig (mo g s) 41 with ⟨h1,_⟩|⟨k,h1,h2,⟨v,u,e1,e2,e3,e4,e5⟩,_⟩
 · unfold upV at hu;omega
 · exact ⟨v,u,e1,e2,e3,e4,by unfold upV;rw [h2];exact e5⟩
theorem qV {s' : St} (h : ∀ v,v < g.prio.length → (0 ≤ gi s'.region v ↔ 0 ≤ gi s.region v)) : i9 g s' = i9 g s:=dn h
theorem qW (hg : PaOk g) (h : StOk g s) (h0 : 0 ≤ s.at_) (hD : RgD g s) : RgD g (cD g s):=fun v hv hr=>by
 rw [cR hv] at hr ⊢
 by_cases hP : Pul g s v
 · rw [if_pos hP];exact t5 h h0 hD
 · rw [if_neg hP] at hr ⊢;exact hD v hv hr
theorem pn (hs : cJ g) (h : StOk g s) (h0 : 0 ≤ s.at_) (hD : RgD g s) (hn : ¬ cQ g s) : eQ g (cD g s) < eQ g s:=by
 have hg:=hs.1
 have hok:=oz hg h h0 hn
 have ha : s.at_ ≤ 40:=by rcases h.at' with h1|h1 <;> omega
 obtain ⟨w,w1,w2,w3,w4⟩:=mp hg h h0 hn
 have ho : i9 g (cD g s) = i9 g s:=qV fun v hv=>by
  rw [cR hv]
  by_cases hP : Pul g s v
  · rw [if_pos hP];exact ⟨fun _=>(cz hP).2.1,fun _=>h0⟩
  · rw [if_neg hP]
 by_cases hm : ∃ v,Pul g s v ∧ gi s.region v ≠ s.at_
 · obtain ⟨v,v1,v2⟩:=hm
   refine qU hs.2 ho (oD hs hD (qW hg h h0 hD) (t5 h h0 hD) ?_ fun q hq=>?_)
   · refine fR (fun t ht hr=>?_) ⟨v,(cz v1).1,?_,v2⟩
     · show gi (cD g s).region t = s.at_
       rw [cR ht,if_pos (lk h h0 ht hr)]
     · show gi (cD g s).region v = s.at_
       rw [cR (cz v1).1,if_pos v1]
   · refine dn fun t ht=>?_
     rw [cR ht]
     by_cases hP : Pul g s t
     · rw [if_pos hP]
       have:=(cz hP).2.2
       omega
     · rw [if_neg hP]
 · have hd : rkX g (cD g s) = rkX g s:=congrArg (fun a=>cRk a 12 12 0) (funext fun i=>dn fun t ht=>by
    rw [cR ht]
    by_cases hP : Pul g s t
    · rw [if_pos hP,Classical.byContradiction fun hne=>hm ⟨t,hP,fun e=>hne e⟩]
    · rw [if_neg hP])
   have h5 : clP g s.at_ < clP g (cD g s).at_:=ii (t5 h h0 hD) (by rw [w3];exact w4)
   have h6:=tY g (cD g s).at_
   have h7:=hs.2
   unfold eQ
   rw [ho,hd]
   omega
theorem qX (hg : PaOk g) (h : StOk g s) (hu : 0 ≤ upV g s) (hD : RgD g s) : RgD g (c8 g s (upV g s)):=fun v hv hr=>by
 obtain ⟨_,x,_,_,x3,_,x5⟩:=sV hu
 rw [dw hv] at hr ⊢
 by_cases hP : Pul g s v
 · rw [if_pos hP,← x5];exact hD x ((fk _ _).1 x3).2.1 (by omega)
 · rw [if_neg hP] at hr ⊢
   by_cases hc : 0 ≤ gi s.region v ∧ gi s.region v < upV g s
   · rw [if_pos hc];exact ⟨v,hv,rfl⟩
   · rw [if_neg hc] at hr ⊢;exact hD v hv hr
theorem po (hs : cJ g) (h : StOk g s) (h0 : 0 ≤ s.at_) (hD : RgD g s) (hn : cQ g s) (hu : 0 ≤ upV g s) : eQ g (c8 g s (upV g s)) < eQ g s:=by
 have hg:=hs.1
 obtain ⟨u1,u2⟩:=lm h h0 hn hu
 obtain ⟨w,hw⟩:=nA h h0
 have hD':=qX hg h hu hD
 have huD : InD g (upV g s):=by
  obtain ⟨_,x,_,_,x3,_,x5⟩:=sV hu
  rw [← x5];exact hD x ((fk _ _).1 x3).2.1 (by omega)
 generalize upV g s = up at *
 have ho : i9 g (c8 g s up) = i9 g s:=qV fun v hv=>by
  rw [dw hv]
  by_cases hP : Pul g s v
  · rw [if_pos hP];exact ⟨fun _=>(cz hP).2.1,fun _=>hu⟩
  · rw [if_neg hP]
    by_cases h' : 0 ≤ gi s.region v ∧ gi s.region v < up
    · rw [if_pos h'];exact ⟨fun _=>h'.1,fun _=>(hg.prio v hv).1⟩
    · rw [if_neg h']
 refine qU hs.2 ho (oD hs hD hD' huD ?_ fun q hq=>?_)
 · refine fR (fun t ht hr=>?_) ⟨w,(cz hw).1,?_,fun e=>by have:=(cz hw).2.2;omega⟩
   · show gi (c8 g s up).region t = up
     rw [dw ht,if_neg fun hP=>by have:=(cz hP).2.2;omega,if_neg (by omega)]
     exact hr
   · show gi (c8 g s up).region w = up
     rw [dw (cz hw).1,if_pos hw]
 · refine dn fun t ht=>?_
   rw [dw ht]
   by_cases hP : Pul g s t
   · rw [if_pos hP]
     have:=(cz hP).2.2
     omega
   · rw [if_neg hP]
     by_cases h' : 0 ≤ gi s.region t ∧ gi s.region t < up
     · rw [if_pos h']
       have:=(h.opn ht h'.1).2.1
       omega
     · rw [if_neg h']
theorem qY (hs : cJ g) (h : StOk g s) (h0 : 0 ≤ s.at_) : eQ g (dk g s) < eQ g s:=by
 have hg:=hs.1
 have ha : s.at_ ≤ 40:=by rcases h.at' with h1|h1 <;> omega
 obtain ⟨w,hw⟩:=nA h h0
 have hwb:=cz hw
 have hA : dj g s w:=PG.attr_goal ⟨hwb.1,hwb.2.1,by have:=hwb.2.2;omega⟩ hw
 have ho : i9 g (dk g s) < i9 g s:=fR (fun t ht hr=>by
  by_cases hB : Blw g s 40 t ∧ ¬ dj g s t
  · exact hB.1.2.1
  · rw [eD ht,if_neg hB] at hr;exact absurd hr (by decide)) ⟨w,hwb.1,hwb.2.1,fun hr=>by
  rw [eD hwb.1,if_neg fun h'=>h'.2 hA] at hr
  exact absurd hr (by decide)⟩
 have hm:=Nat.mul_le_mul_right (cF 12 12 * 13 + 13) (Nat.succ_le_of_lt ho)
 rw [Nat.succ_mul] at hm
 have h3 : (cF 12 12 - rkX g (dk g s)) * 13 ≤ cF 12 12 * 13:=Nat.mul_le_mul_right _ (Nat.sub_le _ _)
 unfold eQ
 omega
theorem vN : RgD g (dk g s):=fun v hv hr=>by
 rw [eD hv] at hr ⊢
 by_cases hB : Blw g s 40 v ∧ ¬ dj g s v
 · rw [if_pos hB];exact ⟨v,hv,rfl⟩
 · rw [if_neg hB] at hr;exact absurd hr (by decide)
theorem t6 (hg : PaOk g) (h : StOk g s) (h0 : 0 ≤ s.at_) (hD : RgD g s) : RgD g (cL g s).1:=by
 unfold cL
 by_cases h1 : cQ g s
 · rw [if_neg (fun h'=>h' h1)]
   by_cases h2 : 0 ≤ upV g s
   · rw [if_pos h2];exact qX hg h h2 hD
   · rw [if_neg h2];exact vN
 · rw [if_pos h1];exact qW hg h h0 hD
theorem iI (hs : cJ g) (h : StOk g s) (h0 : 0 ≤ s.at_) (hD : RgD g s) : eQ g (cL g s).1 < eQ g s:=by
 unfold cL
 by_cases h1 : cQ g s
 · rw [if_neg (fun h'=>h' h1)]
   by_cases h2 : 0 ≤ upV g s
   · rw [if_pos h2];exact po hs h h0 hD h1 h2
   · rw [if_neg h2];exact qY hs h h0
 · rw [if_pos h1];exact pn hs h h0 hD h1
theorem t7 (hs : cJ g) : eQ g s < 2 ^ 30:=by
 have h1:=tX
 have h2 : i9 g s ≤ 12:=Nat.le_trans gM hs.2
 have h3:=Nat.mul_le_mul_right (cF 12 12 * 13 + 13) h2
 unfold eQ
 omega
end
noncomputable def dx (g : Pa) : St:=⟨tab g.prio.length fun _=>-1,g.prio,mxN (fun _=>True) (gi g.prio) g.prio.length⟩
theorem vO (g : Pa) : RgD g (dx g):=fun v hv _=>⟨v,hv,rfl⟩
theorem t8 {g : Pa} (hg : PaOk g) : StOk g (dx g):=by
 have hl:=hg.len
 have hpos:=hg.ar.pos
 refine ⟨bK _ _,rfl,fun v hv=>.inl ⟨cI _ hv,Int.le_refl _,(hg.prio v hv).2⟩,?_,fun p hp hp0=>?_⟩
 · rcases jM (p:=fun _=>True) (f:=gi g.prio) g.prio.length with ⟨h1,h2⟩|⟨v,h1,_,h3⟩
   · have:=h2 0 (by omega) trivial
     have:=hg.prio 0 (by omega)
     omega
   · have:=hg.prio v h1
     exact .inr ⟨by show 0 ≤ mxN _ _ _;omega,by show mxN _ _ _ ≤ 40;omega,v,h1,h3.symm⟩
 · refine fS (S:=fun v=>v < g.prio.length) (fun v=>⟨fun h=>h.1,fun hv=>⟨hv,(hg.prio v hv).1,?_⟩⟩) fun v hv=>?_
   · have : gi g.prio v ≤ (dx g).at_:=jL (p:=fun _=>True) (f:=gi g.prio) g.prio.length v hv trivial
     show gi g.prio v ≤ p
     omega
   · obtain ⟨_,_,h1,h2,h3⟩:=hg.ar.vert v (by omega)
     have h4:=h3 0 (by omega)
     exact ⟨(gi (gr g.ar.nxt v) 0).toNat,(fk _ _).2 ⟨hv,by omega,0,by omega,by omega⟩,by show _ < _;omega⟩
end Go.Proofs.Ytdkkhhfhdijfmaa
