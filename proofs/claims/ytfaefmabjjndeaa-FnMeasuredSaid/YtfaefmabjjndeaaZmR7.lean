/-
  The play of two plans up to the first vertex that is met again: who wins it.
-/
import Derived.Test.YtfaefmabjjndeaaZmR2
import Derived.Test.YtfaefmabjjndeaaZmR3
namespace Go.Proofs.Ytfaefmabjjndeaa
set_option linter.unusedVariables false
set_option linter.unusedSimpArgs false
open Go.RowKit
def nxP (a : Ar) (even odd : List Int) (v : Nat) : Nat:=(if gi a.own v = 0 then gi even v else gi odd v).toNat
def itP (a : Ar) (even odd : List Int) (v : Nat) : Nat → Nat
 | 0 => v
 | k + 1 => nxP a even odd (itP a even odd v k)
noncomputable def fP (f : Nat → Nat) : Nat → Nat → Nat
 | 0, k => k
 | m + 1, k => if tf (∃ j, j < k ∧ f j = f k) then k else fP f m (k + 1)
theorem oN {f : Nat → Nat} {n : Nat} (hn : ∀ k,f k < n) : ∀ k,(∀ i j,i < j → j < k → f i ≠ f j) → num (fun v=>∃ j,j < k ∧ f j = v) n = k:=by
 intro k
 induction k with
 | zero => intro _; exact g6.2 fun t _ ⟨j, h, _⟩ => absurd h (Nat.not_lt_zero _)
 | succ k ih =>
   intro hd
   have hdr : num (fun v=>∃ j,j < k + 1 ∧ f j = v) n = num (fun v=>∃ j,j < k ∧ f j = v) n + 1:=by
    refine je (t0:=f k) (hn k) ⟨k,by omega,rfl⟩ fun t _=>⟨?_,?_⟩
    · rintro ⟨j,h,e⟩
      exact ⟨⟨j,by omega,e⟩,fun e'=>hd j k h (by omega) (e.trans e')⟩
    · rintro ⟨⟨j,h,e⟩,hne⟩
      by_cases ej : j = k
      · subst ej;exact absurd e.symm hne
      · exact ⟨j,by omega,e⟩
   rw [hdr,ih fun i j hi hj=>hd i j hi (by omega)]
theorem qV {f : Nat → Nat} {n k : Nat} (hn : ∀ k,f k < n) (hd : ∀ i j,i < j → j < k → f i ≠ f j) : k ≤ n:=by
 rw [← oN hn k hd];exact pV
theorem gh {f : Nat → Nat} {k : Nat} (hd : ∀ i j,i < j → j < k → f i ≠ f j) (hk : ¬ ∃ j,j < k ∧ f j = f k) : ∀ i j,i < j → j < k + 1 → f i ≠ f j:=fun i j hi hj e=>by
 by_cases ej : j = k
 · subst ej;exact hk ⟨i,hi,e⟩
 · exact hd i j hi (by omega) e
theorem ld {f : Nat → Nat} {m k : Nat} (hk : ∃ j,j < k ∧ f j = f k) : fP f m k = k:=by
 cases m with
 | zero => rfl
 | succ m => show (if tf _ then k else _) = k; rw [bP hk, mR]
theorem jT {f : Nat → Nat} {m k : Nat} (hk : ¬ ∃ j,j < k ∧ f j = f k) : fP f (m + 1) k = fP f m (k + 1):=by
 show (if tf _ then k else _) = _;rw [ba hk,nW]
def eP (f : Nat → Nat) (k : Nat) : List Int:=tab k fun j=>(f j : Int)
theorem fv (f : Nat → Nat) (k : Nat) : (eP f k).length = k:=cy _ _
theorem nj {f : Nat → Nat} {k v : Nat} : (v : Int) ∈ eP f k ↔ ∃ j,j < k ∧ f j = v:=by
 rw [o6,fv]
 constructor
 · rintro ⟨j,h,e⟩
   rw [eP,cK _ h] at e
   exact ⟨j,h,by omega⟩
 · rintro ⟨j,h,e⟩
   exact ⟨j,h,by rw [eP,cK _ h,e]⟩
noncomputable def g8 (f : Nat → Nat) (n : Nat) : Nat:=fP f n 0
noncomputable def atA (f : Nat → Nat) (n : Nat) : Nat:=(idx (eP f (g8 f n)) (f (g8 f n))).toNat
noncomputable def mf (f : Nat → Nat) (n : Nat) : List Int:=(eP f (g8 f n)).take (atA f n)
noncomputable def eV (f : Nat → Nat) (n : Nat) : List Int:=(eP f (g8 f n)).drop (atA f n)
theorem se {f : Nat → Nat} {n : Nat} (hn : ∀ k,f k < n) : ∀ m k,m + k = n → (∀ i j,i < j → j < k → f i ≠ f j) → fP f m k ≤ n ∧ (∃ j,j < fP f m k ∧ f j = f (fP f m k)) ∧ (∀ i j,i < j → j < fP f m k → f i ≠ f j):=by
 intro m
 induction m with
 | zero =>
   intro k hk hd
   have e : k = n:=by omega
   subst e
   refine ⟨Nat.le_refl _,Classical.byContradiction fun hc=>?_,hd⟩
   have:=qV hn (gh hd hc)
   omega
 | succ m ih =>
   intro k hk hd
   by_cases hc : ∃ j,j < k ∧ f j = f k
   · rw [ld hc]
     exact ⟨by omega,hc,hd⟩
   · rw [jT hc]
     exact ih (k + 1) (by omega) (gh hd hc)
theorem kn {f : Nat → Nat} {n : Nat} (hn : ∀ k,f k < n) : g8 f n ≤ n ∧ idx (eP f (g8 f n)) (f (g8 f n)) = (atA f n : Int) ∧ atA f n < g8 f n ∧ f (atA f n) = f (g8 f n):=by
 obtain ⟨h1,h2,_⟩:=se hn n 0 (by omega) fun i j _ h=>absurd h (Nat.not_lt_zero _)
 refine ⟨h1,?_⟩
 rcases rb (eP f (g8 f n)) (f (g8 f n)) with ⟨_,h⟩|⟨k,a,b,_,d⟩
 · exact absurd (nj.2 h2) h
 · rw [fv] at a
   have e : atA f n = k:=by unfold atA;rw [d,Int.toNat_natCast]
   rw [e]
   rw [eP,cK _ a] at b
   exact ⟨d,a,by omega⟩
theorem sf {f : Nat → Nat} {n : Nat} (hn : ∀ k,f k < n) : (mf f n).length = atA f n:=by
 have:=kn hn
 unfold mf;rw [List.length_take,fv];omega
theorem mg {f : Nat → Nat} {n : Nat} (hn : ∀ k,f k < n) : (eV f n).length = g8 f n - atA f n:=by
 unfold eV;rw [List.length_drop,fv]
theorem oO {f : Nat → Nat} {n : Nat} (hn : ∀ k,f k < n) {j : Nat} (hj : j < g8 f n - atA f n) : gi (eV f n) j = f (atA f n + j):=by
 unfold eV
 rw [vK,eP,cK _ (by omega)]
theorem lg {pr xs : List Int} {j : Nat} : ∀ k,j < k → gi pr (gi xs j).toNat ≤ en pr xs k:=by
 intro k
 induction k with
 | zero => intro h; omega
 | succ k ih =>
   intro h
   show _ ≤ max (en pr xs k) _
   by_cases e : j = k
   · subst e;exact Int.le_max_right _ _
   · exact Int.le_trans (ih (by omega)) (Int.le_max_left _ _)
theorem uv {pr xs : List Int} : ∀ k,en pr xs k = -1 ∨ ∃ j,j < k ∧ en pr xs k = gi pr (gi xs j).toNat:=by
 intro k
 induction k with
 | zero => exact .inl rfl
 | succ k ih =>
   show max (en pr xs k) (gi pr (gi xs k).toNat) = -1 ∨ ∃ j,j < k + 1 ∧ max (en pr xs k) (gi pr (gi xs k).toNat) = _
   by_cases h : en pr xs k ≤ gi pr (gi xs k).toNat
   · exact .inr ⟨k,by omega,by omega⟩
   · rcases ih with e|⟨j,h1,h2⟩
     · exact .inl (by omega)
     · exact .inr ⟨j,by omega,by omega⟩
def eQ (a : Ar) (who : Int) (ps : List Int) : Prop:=(ps.length = a.own.length ∧ ∀ v,v < ps.length → gi ps v = -1 ∨ gi a.own v = who ∧ gi ps v ∈ gr a.nxt v) ∧ ∀ v,v < ps.length → gi a.own v = who → 0 ≤ gi ps v
theorem jk {g : Pa} (hg : PaOk g) {even odd : List Int} (h0 : eQ g.ar 0 even) (h1 : eQ g.ar 1 odd) {x : Nat} (hx : x < g.prio.length) : ((nxP g.ar even odd x : Nat) : Int) ∈ gr g.ar.nxt x ∧ nxP g.ar even odd x < g.prio.length ∧ ((nxP g.ar even odd x : Nat) : Int) = (if gi g.ar.own x = 0 then gi even x else gi odd x):=by
 have hl:=hg.len
 have hv:=hg.ar.vert x (by omega)
 have key : (if gi g.ar.own x = 0 then gi even x else gi odd x) ∈ gr g.ar.nxt x:=by
  split
  · rename_i e
    have h2:=h0.2 x (by have:=h0.1.1;omega) e
    rcases h0.1.2 x (by have:=h0.1.1;omega) with e'|e'
    · omega
    · exact e'.2
  · rename_i e
    have e1 : gi g.ar.own x = 1:=by omega
    have h2:=h1.2 x (by have:=h1.1.1;omega) e1
    rcases h1.1.2 x (by have:=h1.1.1;omega) with e'|e'
    · omega
    · exact e'.2
 have h3:=lc hg hx key
 have e : ((nxP g.ar even odd x : Nat) : Int) = (if gi g.ar.own x = 0 then gi even x else gi odd x):=Int.toNat_of_nonneg h3.1
 exact ⟨by rw [e];exact key,by omega,e⟩
theorem qa {g : Pa} (hg : PaOk g) {even odd : List Int} (h0 : eQ g.ar 0 even) (h1 : eQ g.ar 1 odd) {v : Nat} (hv : v < g.prio.length) : ∀ k,itP g.ar even odd v k < g.prio.length:=by
 intro k
 induction k with
 | zero => exact hv
 | succ k ih => exact (jk hg h0 h1 ih).2.1
theorem uw {g : Pa} (hg : PaOk g) {even odd : List Int} (h0 : eQ g.ar 0 even) (h1 : eQ g.ar 1 odd) {v : Nat} {i : Int} (hi : i = 0 ∨ i = 1) {R : Nat → Prop} {σ : Nat → Nat} (d : PG.DomBy (pgP g) i (gf g) R σ) (hv : R v)
  (hs : ∀ x,R x → gi g.ar.own x = i → (gi (if i = 0 then even else odd) x).toNat = σ x) : en g.prio (eV (itP g.ar even odd v) g.prio.length) (eV (itP g.ar even odd v) g.prio.length).length % 2 = i:=by
 have hvn : v < g.prio.length:=d.sub v hv
 have hlt:=qa hg h0 h1 hvn
 obtain ⟨e1,_,e2,e3⟩:=kn hlt
 have hat:=fun j hj=>oO hlt (j:=j) hj
 rw [mg hlt]
 generalize g8 (itP g.ar even odd v) g.prio.length = b at *
 generalize atA (itP g.ar even odd v) g.prio.length = a at *
 generalize eV (itP g.ar even odd v) g.prio.length = xs at *
 refine PG.play_won d (nx:=nxP g.ar even odd) (f:=itP g.ar even odd v) (fun k=>rfl) (fun k=>?_) hv e2 e3 (fun k hk hk'=>?_) ?_
 · have hk:=hlt k
   obtain ⟨s1,s2,s3⟩:=jk hg h0 h1 hk
   obtain ⟨t,ht,e⟩:=dm s1
   refine ⟨(jg _ _).2 ⟨hk,s2,t,ht,e⟩,s2,fun hr ho=>?_⟩
   rw [iE hg hk] at ho
   have h4:=hs _ hr ho
   rw [← h4]
   show nxP g.ar even odd (itP g.ar even odd v k) = _
   rcases hi with e|e
   · subst e
     rw [if_pos rfl]
     unfold nxP
     rw [if_pos ho]
   · subst e
     rw [if_neg (by decide)]
     unfold nxP
     rw [if_neg (by omega)]
 · rw [iO hg (hlt k)]
   have h5:=lg (pr:=g.prio) (xs:=xs) (j:=k - a) (b - a) (by omega)
   rw [hat (k - a) (by omega),Int.toNat_natCast,show a + (k - a) = k by omega] at h5
   exact h5
 · rcases uv (pr:=g.prio) (xs:=xs) (b - a) with e|⟨j,hj,e⟩
   · have h5:=lg (pr:=g.prio) (xs:=xs) (j:=0) (b - a) (by omega)
     rw [hat 0 (by omega),Int.toNat_natCast,e] at h5
     have:=(hg.prio _ (hlt (a + 0))).1
     omega
   · rw [hat j hj,Int.toNat_natCast] at e
     exact ⟨a + j,by omega,by omega,by rw [iO hg (hlt _),e]⟩
end Go.Proofs.Ytfaefmabjjndeaa
