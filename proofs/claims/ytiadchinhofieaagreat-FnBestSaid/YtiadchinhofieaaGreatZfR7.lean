/-
  The play of two plans up to the first vertex that is met again: who wins it.
-/
import Derived.Test.YtiadchinhofieaaGreatZfR2
import Derived.Test.YtiadchinhofieaaGreatZfR3
namespace Go.Proofs.YtiadchinhofieaaGreat
set_option linter.unusedVariables false
set_option linter.unusedSimpArgs false
open Go.RowKit
def nxP (a : Ar) (even odd : List Int) (v : Nat) : Nat:=(if gi a.own v = 0 then gi even v else gi odd v).toNat
noncomputable def gd (f : Nat → Nat) : Nat → Nat → Nat
 | 0, k => k
 | m + 1, k => if tf (∃ j, j < k ∧ f j = f k) then k else gd f m (k + 1)
theorem uV {f : Nat → Nat} {n : Nat} (hn : ∀ k,f k < n) : ∀ k,(∀ i j,i < j → j < k → f i ≠ f j) → num (fun v=>∃ j,j < k ∧ f j = v) n = k:=by
 intro k
 induction k with
 | zero => intro _; exact ik.2 fun t _ ⟨j, h, _⟩ => absurd h (Nat.not_lt_zero _)
 | succ k ih =>
   intro hd
   have hdr : num (fun v=>∃ j,j < k + 1 ∧ f j = v) n = num (fun v=>∃ j,j < k ∧ f j = v) n + 1:=by
    refine jy (t0:=f k) (hn k) ⟨k,by omega,rfl⟩ fun t _=>⟨?_,?_⟩
    · rintro ⟨j,h,e⟩
      exact ⟨⟨j,by omega,e⟩,fun e'=>hd j k h (by omega) (e.trans e')⟩
    · rintro ⟨⟨j,h,e⟩,hne⟩
      by_cases ej : j = k
      · subst ej;exact absurd e.symm hne
      · exact ⟨j,by omega,e⟩
   rw [hdr,ih fun i j hi hj=>hd i j hi (by omega)]
theorem kM {f : Nat → Nat} {n k : Nat} (hn : ∀ k,f k < n) (hd : ∀ i j,i < j → j < k → f i ≠ f j) : k ≤ n:=by
 rw [← uV hn k hd];exact qK
theorem iL {f : Nat → Nat} {k : Nat} (hd : ∀ i j,i < j → j < k → f i ≠ f j) (hk : ¬ ∃ j,j < k ∧ f j = f k) : ∀ i j,i < j → j < k + 1 → f i ≠ f j:=fun i j hi hj e=>by
 by_cases ej : j = k
 · subst ej;exact hk ⟨i,hi,e⟩
 · exact hd i j hi (by omega) e
theorem lK {f : Nat → Nat} {m k : Nat} (hk : ∃ j,j < k ∧ f j = f k) : gd f m k = k:=by
 cases m with
 | zero => rfl
 | succ m => show (if tf _ then k else _) = k; rw [aP hk, fO]
theorem kr {f : Nat → Nat} {m k : Nat} (hk : ¬ ∃ j,j < k ∧ f j = f k) : gd f (m + 1) k = gd f m (k + 1):=by
 show (if tf _ then k else _) = _;rw [aq hk,fu]
def dW (f : Nat → Nat) (k : Nat) : List Int:=tab k fun j=>(f j : Int)
theorem eg (f : Nat → Nat) (k : Nat) : (dW f k).length = k:=cr _ _
theorem nN {f : Nat → Nat} {k v : Nat} : (v : Int) ∈ dW f k ↔ ∃ j,j < k ∧ f j = v:=by
 rw [pW,eg]
 constructor
 · rintro ⟨j,h,e⟩
   rw [dW,cU _ h] at e
   exact ⟨j,h,by omega⟩
 · rintro ⟨j,h,e⟩
   exact ⟨j,h,by rw [dW,cU _ h,e]⟩
noncomputable def eS (f : Nat → Nat) (n : Nat) : Nat:=gd f n 0
noncomputable def atA (f : Nat → Nat) (n : Nat) : Nat:=(idx (dW f (eS f n)) (f (eS f n))).toNat
noncomputable def fZ (f : Nat → Nat) (n : Nat) : List Int:=(dW f (eS f n)).take (atA f n)
noncomputable def dF (f : Nat → Nat) (n : Nat) : List Int:=(dW f (eS f n)).drop (atA f n)
theorem mI {f : Nat → Nat} {n : Nat} (hn : ∀ k,f k < n) : ∀ m k,m + k = n → (∀ i j,i < j → j < k → f i ≠ f j) → gd f m k ≤ n ∧ (∃ j,j < gd f m k ∧ f j = f (gd f m k)) ∧ (∀ i j,i < j → j < gd f m k → f i ≠ f j):=by
 intro m
 induction m with
 | zero =>
   intro k hk hd
   have e : k = n:=by omega
   subst e
   refine ⟨Nat.le_refl _,Classical.byContradiction fun hc=>?_,hd⟩
   have:=kM hn (iL hd hc)
   omega
 | succ m ih =>
   intro k hk hd
   by_cases hc : ∃ j,j < k ∧ f j = f k
   · rw [lK hc]
     exact ⟨by omega,hc,hd⟩
   · rw [kr hc]
     exact ih (k + 1) (by omega) (iL hd hc)
theorem nO {f : Nat → Nat} {n : Nat} (hn : ∀ k,f k < n) : eS f n ≤ n ∧ idx (dW f (eS f n)) (f (eS f n)) = (atA f n : Int) ∧ atA f n < eS f n ∧ f (atA f n) = f (eS f n):=by
 obtain ⟨h1,h2,_⟩:=mI hn n 0 (by omega) fun i j _ h=>absurd h (Nat.not_lt_zero _)
 refine ⟨h1,?_⟩
 rcases mb (dW f (eS f n)) (f (eS f n)) with ⟨_,h⟩|⟨k,a,b,_,d⟩
 · exact absurd (nN.2 h2) h
 · rw [eg] at a
   have e : atA f n = k:=by unfold atA;rw [d,Int.toNat_natCast]
   rw [e]
   rw [dW,cU _ a] at b
   exact ⟨d,a,by omega⟩
theorem s4 {f : Nat → Nat} {n : Nat} (hn : ∀ k,f k < n) : (dF f n).length = eS f n - atA f n:=by
 unfold dF;rw [List.length_drop,eg]
theorem uW {f : Nat → Nat} {n : Nat} (hn : ∀ k,f k < n) {j : Nat} (hj : j < eS f n - atA f n) : gi (dF f n) j = f (atA f n + j):=by
 unfold dF
 rw [wQ,dW,cU _ (by omega)]
def b9 (a : Ar) (who : Int) (ps : List Int) : Prop:=(ps.length = a.own.length ∧ ∀ v,v < ps.length → gi ps v = -1 ∨ gi a.own v = who ∧ gi ps v ∈ gr a.nxt v) ∧ ∀ v,v < ps.length → gi a.own v = who → 0 ≤ gi ps v
theorem eT {g : Pa} (hg : PaOk g) {even odd : List Int} (h0 : b9 g.ar 0 even) (h1 : b9 g.ar 1 odd) {x : Nat} (hx : x < g.prio.length) : ((nxP g.ar even odd x : Nat) : Int) ∈ gr g.ar.nxt x ∧ nxP g.ar even odd x < g.prio.length ∧ ((nxP g.ar even odd x : Nat) : Int) = (if gi g.ar.own x = 0 then gi even x else gi odd x):=by
 have hl:=hg.len
 have hv:=hg.ar.vert x (by omega)
 have key : (if gi g.ar.own x = 0 then gi even x else gi odd x) ∈ gr g.ar.nxt x:=by
  split
  · rename_i e
    have h2:=h0.2 x (by have:=h0.1.1;omega) e
    rcases h0.1.2 x (by have:=h0.1.1;omega) with e'|e'
    · omega
    · exact e'.2
  · rename_i e
    have e1 : gi g.ar.own x = 1:=by omega
    have h2:=h1.2 x (by have:=h1.1.1;omega) e1
    rcases h1.1.2 x (by have:=h1.1.1;omega) with e'|e'
    · omega
    · exact e'.2
 have h3:=jb hg hx key
 have e : ((nxP g.ar even odd x : Nat) : Int) = (if gi g.ar.own x = 0 then gi even x else gi odd x):=Int.toNat_of_nonneg h3.1
 exact ⟨by rw [e];exact key,by omega,e⟩
end Go.Proofs.YtiadchinhofieaaGreat
