/-
  The play of two plans up to the first vertex that is met again: who wins it.
-/
import Derived.Test.YtlodllmpndflcaaZoR2
import Derived.Test.YtlodllmpndflcaaZoR3
namespace Go.Proofs.Ytlodllmpndflcaa
set_option linter.unusedVariables false
set_option linter.unusedSimpArgs false
open Go.RowKit
def nxP (a : Ar) (even odd : List Int) (v : Nat) : Nat:=(if gi a.own v = 0 then gi even v else gi odd v).toNat
noncomputable def eg (f : Nat → Nat) : Nat → Nat → Nat
 | 0, k => k
 | m + 1, k => if tf (∃ j, j < k ∧ f j = f k) then k else eg f m (k + 1)
theorem qq {f : Nat → Nat} {n : Nat} (hn : ∀ k,f k < n) : ∀ k,(∀ i j,i < j → j < k → f i ≠ f j) → num (fun v=>∃ j,j < k ∧ f j = v) n = k:=by
 intro k
 induction k with
 | zero => intro _; exact lG.2 fun t _ ⟨j, h, _⟩ => absurd h (Nat.not_lt_zero _)
 | succ k ih =>
   intro hd
   have hdr : num (fun v=>∃ j,j < k + 1 ∧ f j = v) n = num (fun v=>∃ j,j < k ∧ f j = v) n + 1:=by
    refine qj (t0:=f k) (hn k) ⟨k,by omega,rfl⟩ fun t _=>⟨?_,?_⟩
    · rintro ⟨j,h,e⟩
      exact ⟨⟨j,by omega,e⟩,fun e'=>hd j k h (by omega) (e.trans e')⟩
    · rintro ⟨⟨j,h,e⟩,hne⟩
      by_cases ej : j = k
      · subst ej;exact absurd e.symm hne
      · exact ⟨j,by omega,e⟩
   rw [hdr,ih fun i j hi hj=>hd i j hi (by omega)]
theorem iG {f : Nat → Nat} {n k : Nat} (hn : ∀ k,f k < n) (hd : ∀ i j,i < j → j < k → f i ≠ f j) : k ≤ n:=by
 rw [← qq hn k hd];exact tu
theorem fI {f : Nat → Nat} {k : Nat} (hd : ∀ i j,i < j → j < k → f i ≠ f j) (hk : ¬ ∃ j,j < k ∧ f j = f k) : ∀ i j,i < j → j < k + 1 → f i ≠ f j:=fun i j hi hj e=>by
 by_cases ej : j = k
 · subst ej;exact hk ⟨i,hi,e⟩
 · exact hd i j hi (by omega) e
theorem jc {f : Nat → Nat} {m k : Nat} (hk : ∃ j,j < k ∧ f j = f k) : eg f m k = k:=by
 cases m with
 | zero => rfl
 | succ m => show (if tf _ then k else _) = k; rw [aA hk, gT]
theorem io {f : Nat → Nat} {m k : Nat} (hk : ¬ ∃ j,j < k ∧ f j = f k) : eg f (m + 1) k = eg f m (k + 1):=by
 show (if tf _ then k else _) = _;rw [ao hk,fO]
def db (f : Nat → Nat) (k : Nat) : List Int:=tab k fun j=>(f j : Int)
theorem dg (f : Nat → Nat) (k : Nat) : (db f k).length = k:=dG _ _
theorem kH {f : Nat → Nat} {k v : Nat} : (v : Int) ∈ db f k ↔ ∃ j,j < k ∧ f j = v:=by
 rw [l2,dg]
 constructor
 · rintro ⟨j,h,e⟩
   rw [db,dj _ h] at e
   exact ⟨j,h,by omega⟩
 · rintro ⟨j,h,e⟩
   exact ⟨j,h,by rw [db,dj _ h,e]⟩
noncomputable def dz (f : Nat → Nat) (n : Nat) : Nat:=eg f n 0
noncomputable def atA (f : Nat → Nat) (n : Nat) : Nat:=(idx (db f (dz f n)) (f (dz f n))).toNat
noncomputable def eF (f : Nat → Nat) (n : Nat) : List Int:=(db f (dz f n)).take (atA f n)
noncomputable def cT (f : Nat → Nat) (n : Nat) : List Int:=(db f (dz f n)).drop (atA f n)
theorem jY {f : Nat → Nat} {n : Nat} (hn : ∀ k,f k < n) : ∀ m k,m + k = n → (∀ i j,i < j → j < k → f i ≠ f j) → eg f m k ≤ n ∧ (∃ j,j < eg f m k ∧ f j = f (eg f m k)) ∧ (∀ i j,i < j → j < eg f m k → f i ≠ f j):=by
 intro m
 induction m with
 | zero =>
   intro k hk hd
   have e : k = n:=by omega
   subst e
   refine ⟨Nat.le_refl _,Classical.byContradiction fun hc=>?_,hd⟩
   have:=iG hn (fI hd hc)
   omega
 | succ m ih =>
   intro k hk hd
   by_cases hc : ∃ j,j < k ∧ f j = f k
   · rw [jc hc]
     exact ⟨by omega,hc,hd⟩
   · rw [io hc]
     exact ih (k + 1) (by omega) (fI hd hc)
theorem kI {f : Nat → Nat} {n : Nat} (hn : ∀ k,f k < n) : dz f n ≤ n ∧ idx (db f (dz f n)) (f (dz f n)) = (atA f n : Int) ∧ atA f n < dz f n ∧ f (atA f n) = f (dz f n):=by
 obtain ⟨h1,h2,_⟩:=jY hn n 0 (by omega) fun i j _ h=>absurd h (Nat.not_lt_zero _)
 refine ⟨h1,?_⟩
 rcases jA (db f (dz f n)) (f (dz f n)) with ⟨_,h⟩|⟨k,a,b,_,d⟩
 · exact absurd (kH.2 h2) h
 · rw [dg] at a
   have e : atA f n = k:=by unfold atA;rw [d,Int.toNat_natCast]
   rw [e]
   rw [db,dj _ a] at b
   exact ⟨d,a,by omega⟩
theorem oL {f : Nat → Nat} {n : Nat} (hn : ∀ k,f k < n) : (cT f n).length = dz f n - atA f n:=by
 unfold cT;rw [List.length_drop,dg]
theorem qt {f : Nat → Nat} {n : Nat} (hn : ∀ k,f k < n) {j : Nat} (hj : j < dz f n - atA f n) : gi (cT f n) j = f (atA f n + j):=by
 unfold cT
 rw [rQ,db,dj _ (by omega)]
def cz (a : Ar) (who : Int) (ps : List Int) : Prop:=(ps.length = a.own.length ∧ ∀ v,v < ps.length → gi ps v = -1 ∨ gi a.own v = who ∧ gi ps v ∈ gr a.nxt v) ∧ ∀ v,v < ps.length → gi a.own v = who → 0 ≤ gi ps v
theorem jd {g : Pa} (hg : PaOk g) {even odd : List Int} (h0 : cz g.ar 0 even) (h1 : cz g.ar 1 odd) {x : Nat} (hx : x < g.prio.length) : ((nxP g.ar even odd x : Nat) : Int) ∈ gr g.ar.nxt x ∧ nxP g.ar even odd x < g.prio.length ∧ ((nxP g.ar even odd x : Nat) : Int) = (if gi g.ar.own x = 0 then gi even x else gi odd x):=by
 have hl:=hg.len
 have hv:=hg.ar.vert x (by omega)
 have key : (if gi g.ar.own x = 0 then gi even x else gi odd x) ∈ gr g.ar.nxt x:=by
  split
  · rename_i e
    have h2:=h0.2 x (by have:=h0.1.1;omega) e
    rcases h0.1.2 x (by have:=h0.1.1;omega) with e'|e'
    · omega
    · exact e'.2
  · rename_i e
    have e1 : gi g.ar.own x = 1:=by omega
    have h2:=h1.2 x (by have:=h1.1.1;omega) e1
    rcases h1.1.2 x (by have:=h1.1.1;omega) with e'|e'
    · omega
    · exact e'.2
 have h3:=tz hg hx key
 have e : ((nxP g.ar even odd x : Nat) : Int) = (if gi g.ar.own x = 0 then gi even x else gi odd x):=Int.toNat_of_nonneg h3.1
 exact ⟨by rw [e];exact key,by omega,e⟩
end Go.Proofs.Ytlodllmpndflcaa
