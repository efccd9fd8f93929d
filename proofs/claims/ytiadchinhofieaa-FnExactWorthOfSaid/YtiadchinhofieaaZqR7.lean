/-
  The play of two plans up to the first vertex that is met again: who wins it.
-/
import Derived.Test.YtiadchinhofieaaZqR2
import Derived.Test.YtiadchinhofieaaZqR3
namespace Go.Proofs.Ytiadchinhofieaa
set_option linter.unusedVariables false
set_option linter.unusedSimpArgs false
open Go.RowKit
def nxP (a : Ar) (even odd : List Int) (v : Nat) : Nat:=(if gi a.own v = 0 then gi even v else gi odd v).toNat
def itP (a : Ar) (even odd : List Int) (v : Nat) : Nat → Nat
 | 0 => v
 | k + 1 => nxP a even odd (itP a even odd v k)
noncomputable def fH (f : Nat → Nat) : Nat → Nat → Nat
 | 0, k => k
 | m + 1, k => if tf (∃ j, j < k ∧ f j = f k) then k else fH f m (k + 1)
theorem th {f : Nat → Nat} {n : Nat} (hn : ∀ k,f k < n) : ∀ k,(∀ i j,i < j → j < k → f i ≠ f j) → num (fun v=>∃ j,j < k ∧ f j = v) n = k:=by
 intro k
 induction k with
 | zero => intro _; exact nV.2 fun t _ ⟨j, h, _⟩ => absurd h (Nat.not_lt_zero _)
 | succ k ih =>
   intro hd
   have hdr : num (fun v=>∃ j,j < k + 1 ∧ f j = v) n = num (fun v=>∃ j,j < k ∧ f j = v) n + 1:=by
    refine sV (t0:=f k) (hn k) ⟨k,by omega,rfl⟩ fun t _=>⟨?_,?_⟩
    · rintro ⟨j,h,e⟩
      exact ⟨⟨j,by omega,e⟩,fun e'=>hd j k h (by omega) (e.trans e')⟩
    · rintro ⟨⟨j,h,e⟩,hne⟩
      by_cases ej : j = k
      · subst ej;exact absurd e.symm hne
      · exact ⟨j,by omega,e⟩
   rw [hdr,ih fun i j hi hj=>hd i j hi (by omega)]
theorem jk {f : Nat → Nat} {n k : Nat} (hn : ∀ k,f k < n) (hd : ∀ i j,i < j → j < k → f i ≠ f j) : k ≤ n:=by
 rw [← th hn k hd];exact wG
theorem eR {f : Nat → Nat} {k : Nat} (hd : ∀ i j,i < j → j < k → f i ≠ f j) (hk : ¬ ∃ j,j < k ∧ f j = f k) : ∀ i j,i < j → j < k + 1 → f i ≠ f j:=fun i j hi hj e=>by
 by_cases ej : j = k
 · subst ej;exact hk ⟨i,hi,e⟩
 · exact hd i j hi (by omega) e
theorem iS {f : Nat → Nat} {m k : Nat} (hk : ∃ j,j < k ∧ f j = f k) : fH f m k = k:=by
 cases m with
 | zero => rfl
 | succ m => show (if tf _ then k else _) = k; rw [aP hk, gH]
theorem g9 {f : Nat → Nat} {m k : Nat} (hk : ¬ ∃ j,j < k ∧ f j = f k) : fH f (m + 1) k = fH f m (k + 1):=by
 show (if tf _ then k else _) = _;rw [aC hk,fY]
def dJ (f : Nat → Nat) (k : Nat) : List Int:=tab k fun j=>(f j : Int)
theorem d8 (f : Nat → Nat) (k : Nat) : (dJ f k).length = k:=fO _ _
theorem kv {f : Nat → Nat} {k v : Nat} : (v : Int) ∈ dJ f k ↔ ∃ j,j < k ∧ f j = v:=by
 rw [oK,d8]
 constructor
 · rintro ⟨j,h,e⟩
   rw [dJ,et _ h] at e
   exact ⟨j,h,by omega⟩
 · rintro ⟨j,h,e⟩
   exact ⟨j,h,by rw [dJ,et _ h,e]⟩
noncomputable def eS (f : Nat → Nat) (n : Nat) : Nat:=fH f n 0
noncomputable def atA (f : Nat → Nat) (n : Nat) : Nat:=(idx (dJ f (eS f n)) (f (eS f n))).toNat
noncomputable def fm (f : Nat → Nat) (n : Nat) : List Int:=(dJ f (eS f n)).take (atA f n)
noncomputable def dQ (f : Nat → Nat) (n : Nat) : List Int:=(dJ f (eS f n)).drop (atA f n)
theorem l4 {f : Nat → Nat} {n : Nat} (hn : ∀ k,f k < n) : ∀ m k,m + k = n → (∀ i j,i < j → j < k → f i ≠ f j) → fH f m k ≤ n ∧ (∃ j,j < fH f m k ∧ f j = f (fH f m k)) ∧ (∀ i j,i < j → j < fH f m k → f i ≠ f j):=by
 intro m
 induction m with
 | zero =>
   intro k hk hd
   have e : k = n:=by omega
   subst e
   refine ⟨Nat.le_refl _,Classical.byContradiction fun hc=>?_,hd⟩
   have:=jk hn (eR hd hc)
   omega
 | succ m ih =>
   intro k hk hd
   by_cases hc : ∃ j,j < k ∧ f j = f k
   · rw [iS hc]
     exact ⟨by omega,hc,hd⟩
   · rw [g9 hc]
     exact ih (k + 1) (by omega) (eR hd hc)
theorem kw {f : Nat → Nat} {n : Nat} (hn : ∀ k,f k < n) : eS f n ≤ n ∧ idx (dJ f (eS f n)) (f (eS f n)) = (atA f n : Int) ∧ atA f n < eS f n ∧ f (atA f n) = f (eS f n):=by
 obtain ⟨h1,h2,_⟩:=l4 hn n 0 (by omega) fun i j _ h=>absurd h (Nat.not_lt_zero _)
 refine ⟨h1,?_⟩
 rcases lF (dJ f (eS f n)) (f (eS f n)) with ⟨_,h⟩|⟨k,a,b,_,d⟩
 · exact absurd (kv.2 h2) h
 · rw [d8] at a
   have e : atA f n = k:=by unfold atA;rw [d,Int.toNat_natCast]
   rw [e]
   rw [dJ,et _ a] at b
   exact ⟨d,a,by omega⟩
theorem rD {f : Nat → Nat} {n : Nat} (hn : ∀ k,f k < n) : (dQ f n).length = eS f n - atA f n:=by
 unfold dQ;rw [List.length_drop,d8]
theorem tj {f : Nat → Nat} {n : Nat} (hn : ∀ k,f k < n) {j : Nat} (hj : j < eS f n - atA f n) : gi (dQ f n) j = f (atA f n + j):=by
 unfold dQ
 rw [uO,dJ,et _ (by omega)]
def cN (a : Ar) (who : Int) (ps : List Int) : Prop:=(ps.length = a.own.length ∧ ∀ v,v < ps.length → gi ps v = -1 ∨ gi a.own v = who ∧ gi ps v ∈ gr a.nxt v) ∧ ∀ v,v < ps.length → gi a.own v = who → 0 ≤ gi ps v
theorem fI {g : Pa} (hg : PaOk g) {even odd : List Int} (h0 : cN g.ar 0 even) (h1 : cN g.ar 1 odd) {x : Nat} (hx : x < g.prio.length) : ((nxP g.ar even odd x : Nat) : Int) ∈ gr g.ar.nxt x ∧ nxP g.ar even odd x < g.prio.length ∧ ((nxP g.ar even odd x : Nat) : Int) = (if gi g.ar.own x = 0 then gi even x else gi odd x):=by
 have hl:=hg.len
 have hv:=hg.ar.vert x (by omega)
 have key : (if gi g.ar.own x = 0 then gi even x else gi odd x) ∈ gr g.ar.nxt x:=by
  split
  · rename_i e
    have h2:=h0.2 x (by have:=h0.1.1;omega) e
    rcases h0.1.2 x (by have:=h0.1.1;omega) with e'|e'
    · omega
    · exact e'.2
  · rename_i e
    have e1 : gi g.ar.own x = 1:=by omega
    have h2:=h1.2 x (by have:=h1.1.1;omega) e1
    rcases h1.1.2 x (by have:=h1.1.1;omega) with e'|e'
    · omega
    · exact e'.2
 have h3:=g8 hg hx key
 have e : ((nxP g.ar even odd x : Nat) : Int) = (if gi g.ar.own x = 0 then gi even x else gi odd x):=Int.toNat_of_nonneg h3.1
 exact ⟨by rw [e];exact key,by omega,e⟩
theorem wL {g : Pa} (hg : PaOk g) {even odd : List Int} (h0 : cN g.ar 0 even) (h1 : cN g.ar 1 odd) {v : Nat} (hv : v < g.prio.length) : ∀ k,itP g.ar even odd v k < g.prio.length:=by
 intro k
 induction k with
 | zero => exact hv
 | succ k ih => exact (fI hg h0 h1 ih).2.1
end Go.Proofs.Ytiadchinhofieaa
