/-
  Priorities compressed, and the dual game, in plain words: who wins.
-/
import Derived.Test.YthjamlponejffaaZiNA
import Derived.Test.YthjamlponejffaaZiCb
import Derived.Test.YthjamlponejffaaZiD5
namespace Go.Proofs.Ythjamlponejffaa
set_option linter.unusedVariables false
set_option linter.unusedSimpArgs false
open Go.RowKit
theorem pS {G H : PG.Gm} {i j : Int} {S R : Nat → Prop} {h : Int → Int} (hE : ∀ v u,S v → (H.E v u ↔ G.E v u)) (ho : ∀ v,S v → (H.own v = j ↔ G.own v = i)) (hp : ∀ v,S v → H.prio v = h (G.prio v)) (hm : ∀ a b,a ≤ b → h a ≤ h b) (h2 : ∀ v,S v → G.prio v % 2 = i → h (G.prio v) % 2 = j)
  (d : PG.Dom G i S R) : PG.Dom H j S R:=by
 obtain ⟨σ,d⟩:=d
 refine ⟨σ,d.sub,fun v hv hw=>?_,fun v u hv hw he hu=>d.yours v u hv (fun e=>hw ((ho v (d.sub v hv)).2 e)) ((hE v u (d.sub v hv)).1 he) hu,fun f p hpl ht=>?_⟩
 · have:=d.mine v hv ((ho v (d.sub v hv)).1 hw)
   exact ⟨(hE v _ (d.sub v hv)).2 this.1,this.2⟩
 · have hS : ∀ k,S (f k):=fun k=>d.sub _ (hpl k).1
   have hplG : PG.Play G i R σ f:=fun k=>⟨(hpl k).1,(hE _ _ (hS k)).1 (hpl k).2.1,fun e=>(hpl k).2.2 ((ho _ (hS k)).2 e)⟩
   obtain ⟨m,q,hq⟩:=PG.tops_ex (G:=G) f
   have hw:=d.wins _ _ (hplG.shift m) hq
   obtain ⟨k0,_,e0⟩:=hq.2 0
   have h1 : p ≤ h q:=by
    obtain ⟨k,hk,e⟩:=ht.2 m
    have:=hq.1 (k - m)
    simp only [show m + (k - m) = k by omega] at this
    rw [← e,hp _ (hS k)]
    exact hm _ _ this
   have h3 : h q ≤ p:=by
    have:=ht.1 (m + k0)
    rwa [hp _ (hS _),e0] at this
   have : p = h q:=by omega
   rw [this,← e0]
   exact h2 _ (hS _) (by rw [e0];exact hw)
theorem pT {G H : PG.Gm} {n : Nat} (hfG : PG.Fin G n) (hfH : PG.Fin H n) {i j : Int} (hi : i = 0 ∨ i = 1) (hj : j = 0 ∨ j = 1) {S : Nat → Prop} (hS : ∀ v,S v → v < n) (htG : PG.Total G S) (htH : PG.Total H S) {h : Int → Int}
  (hE : ∀ v u,S v → (H.E v u ↔ G.E v u)) (ho : ∀ v,S v → (H.own v = j ↔ G.own v = i)) (hp : ∀ v,S v → H.prio v = h (G.prio v)) (hm : ∀ a b,a ≤ b → h a ≤ h b) (h2 : ∀ v,S v → (h (G.prio v) % 2 = j ↔ G.prio v % 2 = i)) (v : Nat) : PG.Won H j S v ↔ PG.Won G i S v:=by
 have key:=PG.won_for hfG hS htG hi
 have d1 : PG.Dom H j S (PG.Won G i S):=pS hE ho hp hm (fun v hv=>(h2 v hv).2) key.1
 have d2 : PG.Dom H (1 - j) S (PG.Won G (1 - i) S):=pS hE (fun v hv=>by have:=ho v hv;have:=G.own01 v;have:=H.own01 v;omega) hp hm (fun v hv e=>by have:=h2 v hv;omega) key.2.1
 refine ⟨fun ⟨R,d,hr⟩=>?_,fun hw=>⟨_,d1,hw⟩⟩
 have hSv : S v:=by obtain ⟨σ,d'⟩:=d;exact d'.sub v hr
 rcases key.2.2 v hSv with h|h
 · exact h
 · exact (PG.dom_apart hj rfl d d2 v hr h).elim
section
open Classical
variable (q : Nat → Prop)
noncomputable def cZ : Nat → Int
 | 0 => -1
 | p + 1 => if q p then (p : Int) else cZ p
noncomputable def cJ : Nat → Int
 | 0 => 0
 | p + 1 => if q p then (if cZ q p < 0 then (p : Int) % 2 else if ((p : Int) - cZ q p) % 2 ≠ 0 then cJ p + 1 else cJ p) else cJ p
end
theorem fJ {q : Nat → Prop} {p : Nat} (h : q p) : cZ q (p + 1) = p:=if_pos h
theorem ko {q : Nat → Prop} {p : Nat} (h : ¬ q p) : cZ q (p + 1) = cZ q p:=if_neg h
theorem mt {q : Nat → Prop} {p : Nat} (h : ¬ q p) : cJ q (p + 1) = cJ q p:=if_neg h
theorem mu {q : Nat → Prop} {p : Nat} (h : q p) : cJ q (p + 1) = if cZ q p < 0 then (p : Int) % 2 else if ((p : Int) - cZ q p) % 2 ≠ 0 then cJ q p + 1 else cJ q p:=if_pos h
theorem iV {q : Nat → Prop} : ∀ m : Nat,cZ q m < m ∧ -1 ≤ cZ q m
 | 0 => by unfold cZ; omega
 | p + 1 => by
   have:=iV (q:=q) p
   by_cases h : q p
   · rw [fJ h];omega
   · rw [ko h];omega
theorem ii {q : Nat → Prop} : ∀ m : Nat,0 ≤ cJ q m ∧ (cZ q m < 0 → cJ q m = 0) ∧ (0 ≤ cZ q m → cJ q m ≤ cZ q m ∧ cJ q m % 2 = cZ q m % 2)
 | 0 => by unfold cJ cZ; omega
 | p + 1 => by
   have ih:=ii (q:=q) p
   have hl:=iV (q:=q) p
   by_cases h : q p
   · rw [fJ h,mu h]
     split
     · omega
     · split <;> omega
   · rw [ko h,mt h];exact ih
theorem nX {q : Nat → Prop} (m : Nat) : cJ q m ≤ cJ q (m + 1):=by
 have ih:=ii (q:=q) m
 by_cases h : q m
 · rw [mu h]
   split
   · rename_i h1
     rw [ih.2.1 h1];omega
   · split <;> omega
 · rw [mt h];exact Int.le_refl _
theorem jI {q : Nat → Prop} (m : Nat) : ∀ k,cJ q m ≤ cJ q (m + k)
 | 0 => Int.le_refl _
 | k + 1 => Int.le_trans (jI m k) (nX (m + k))
theorem nb {q : Nat → Prop} {p : Nat} (h : q p) : 0 ≤ cJ q (p + 1) ∧ cJ q (p + 1) ≤ p ∧ cJ q (p + 1) % 2 = (p : Int) % 2:=by
 have:=ii (q:=q) (p + 1)
 rw [fJ h] at this
 have h2:=this.2.2 (by omega)
 omega
theorem pU {q : Nat → Prop} {m : Nat} : ∀ k,(∀ j,m ≤ j → j < m + k → ¬ q j) → cZ q (m + k) = cZ q m ∧ cJ q (m + k) = cJ q m
 | 0, _ => ⟨rfl, rfl⟩
 | k + 1, h => by
   have ih:=pU (q:=q) (m:=m) k fun j h1 h2=>h j h1 (by omega)
   have hn:=h (m + k) (by omega) (by omega)
   rw [← ih.1,← ih.2]
   exact ⟨ko hn,mt hn⟩
theorem kp {q : Nat → Prop} (m : Nat) : ∀ k,num q m ≤ num q (m + k)
 | 0 => Nat.le_refl _
 | k + 1 => by
   have:=kp (q:=q) m k
   by_cases h : q (m + k)
   · rw [← Nat.add_assoc,bP h];omega
   · rw [← Nat.add_assoc,cM h];exact this
theorem nY {q : Nat → Prop} {m p : Nat} (hp : m ≤ p) (h : ∀ j,m ≤ j → j < p → ¬ q j) : num q p = num q m:=by
 obtain ⟨k,rfl⟩:=Nat.exists_eq_add_of_le hp
 clear hp
 induction k with
 | zero => rfl
 | succ k ih =>
   rw [← Nat.add_assoc,cM (h (m + k) (by omega) (by omega))]
   exact ih fun j h1 h2=>h j h1 (by omega)
theorem kq {S : Nat → Prop} {n : Nat} : (lst S n).length = num S n:=by
 induction n with
 | zero => rfl
 | succ n ih =>
   by_cases h : S n
   · rw [eQ h,bP h,List.length_append,ih];rfl
   · rw [gA h,cM h,ih]
theorem nc {q : Nat → Prop} {m : Nat} : ∀ {M : Nat},m ≤ M → num q m < num q M → ∃ p,m ≤ p ∧ p < M ∧ q p ∧ (∀ j,m ≤ j → j < p → ¬ q j) ∧ gi (lst q M) (num q m) = (p : Int)
 | 0, h, h' => by
   obtain rfl : m = 0:=by omega
   omega
 | M + 1, h, h' => by
   by_cases e : m = M + 1
   · subst e;omega
   · by_cases hlt : num q m < num q M
     · obtain ⟨p,h1,h2,h3,h4,h5⟩:=nc (q:=q) (m:=m) (M:=M) (by omega) hlt
       refine ⟨p,h1,by omega,h3,h4,?_⟩
       by_cases hq : q M
       · rw [eQ hq,cy (by rw [kq];exact hlt)];exact h5
       · rw [gA hq];exact h5
     · have hq : q M:=Classical.byContradiction fun hno=>by rw [cM hno] at h';omega
       have hup : ∀ a b,a ≤ b → num q a ≤ num q b:=fun a b hab=>by
        obtain ⟨k,rfl⟩:=Nat.exists_eq_add_of_le hab
        exact kp a k
       have he:=hup m M (by omega)
       refine ⟨M,by omega,by omega,hq,fun j h1 h2 hj=>?_,?_⟩
       · have a1:=hup m j h1
         have a2:=hup (j + 1) M h2
         rw [bP hj] at a2
         omega
       · rw [eQ hq,show num q m = (lst q M).length by rw [kq];omega,dx]
def dm (g : Pa) (p : Nat) : Prop:=(p : Int) ∈ g.prio
noncomputable def dD (g : Pa) : Pa:=⟨g.ar,tab g.prio.length fun v=>cJ (dm g) ((gi g.prio v).toNat + 1)⟩
def cH (g : Pa) : Pa:=⟨⟨tab g.ar.own.length fun v=>1 - gi g.ar.own v,g.ar.nxt⟩,tab g.prio.length fun v=>gi g.prio v + 1⟩
theorem mw {g : Pa} (hg : PaOk g) {v : Nat} (hv : v < g.prio.length) : dm g (gi g.prio v).toNat ∧ (((gi g.prio v).toNat : Nat) : Int) = gi g.prio v ∧ 0 ≤ gi g.prio v ∧ gi g.prio v ≤ 40:=by
 have hp:=(dL hg).p1 v hv
 have e : (((gi g.prio v).toNat : Nat) : Int) = gi g.prio v:=Int.toNat_of_nonneg hp.1
 exact ⟨by show _ ∈ _;rw [e];exact dz hv,e,hp.1,hp.2⟩
end Go.Proofs.Ythjamlponejffaa
