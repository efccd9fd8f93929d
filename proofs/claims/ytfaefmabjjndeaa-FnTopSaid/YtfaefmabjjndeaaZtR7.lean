/-
  The play of two plans up to the first vertex that is met again: who wins it.
-/
import Derived.Test.YtfaefmabjjndeaaZtR2
import Derived.Test.YtfaefmabjjndeaaZtR3
namespace Go.Proofs.Ytfaefmabjjndeaa
set_option linter.unusedVariables false
set_option linter.unusedSimpArgs false
open Go.RowKit
def nxP (a : Ar) (even odd : List Int) (v : Nat) : Nat:=(if gi a.own v = 0 then gi even v else gi odd v).toNat
def itP (a : Ar) (even odd : List Int) (v : Nat) : Nat → Nat
  | 0 => v
  | k + 1 => nxP a even odd (itP a even odd v k)
noncomputable def firstA (f : Nat → Nat) : Nat → Nat → Nat
  | 0, k => k
  | m + 1, k => if tf (∃ j, j < k ∧ f j = f k) then k else firstA f m (k + 1)
theorem num_dist {f : Nat → Nat} {n : Nat} (hn : ∀ k,f k < n) : ∀ k,(∀ i j,i < j → j < k → f i ≠ f j) → num (fun v=>∃ j,j < k ∧ f j = v) n = k:=by
  intro k
  induction k with
  | zero => intro _; exact num_zero.2 fun t _ ⟨j, h, _⟩ => absurd h (Nat.not_lt_zero _)
  | succ k ih =>
    intro hd
    have hdr : num (fun v=>∃ j,j < k + 1 ∧ f j = v) n = num (fun v=>∃ j,j < k ∧ f j = v) n + 1:=by
      refine num_drop (t0:=f k) (hn k) ⟨k,by omega,rfl⟩ fun t _=>⟨?_,?_⟩
      · rintro ⟨j,h,e⟩
        exact ⟨⟨j,by omega,e⟩,fun e'=>hd j k h (by omega) (e.trans e')⟩
      · rintro ⟨⟨j,h,e⟩,hne⟩
        by_cases ej : j = k
        · subst ej;exact absurd e.symm hne
        · exact ⟨j,by omega,e⟩
    rw [hdr,ih fun i j hi hj=>hd i j hi (by omega)]
theorem dist_le {f : Nat → Nat} {n k : Nat} (hn : ∀ k,f k < n) (hd : ∀ i j,i < j → j < k → f i ≠ f j) : k ≤ n:=by
  rw [← num_dist hn k hd];exact num_le
theorem dist_succ {f : Nat → Nat} {k : Nat} (hd : ∀ i j,i < j → j < k → f i ≠ f j) (hk : ¬ ∃ j,j < k ∧ f j = f k) : ∀ i j,i < j → j < k + 1 → f i ≠ f j:=fun i j hi hj e=>by
  by_cases ej : j = k
  · subst ej;exact hk ⟨i,hi,e⟩
  · exact hd i j hi (by omega) e
theorem firstA_hit {f : Nat → Nat} {m k : Nat} (hk : ∃ j,j < k ∧ f j = f k) : firstA f m k = k:=by
  cases m with
  | zero => rfl
  | succ m => show (if tf _ then k else _) = k; rw [tf_true hk, if_t]
theorem firstA_miss {f : Nat → Nat} {m k : Nat} (hk : ¬ ∃ j,j < k ∧ f j = f k) : firstA f (m + 1) k = firstA f m (k + 1):=by
  show (if tf _ then k else _) = _;rw [tf_false hk,if_f]
def wayL (f : Nat → Nat) (k : Nat) : List Int:=tab k fun j=>(f j : Int)
theorem wayL_len (f : Nat → Nat) (k : Nat) : (wayL f k).length = k:=tab_len _ _
theorem mem_way {f : Nat → Nat} {k v : Nat} : (v : Int) ∈ wayL f k ↔ ∃ j,j < k ∧ f j = v:=by
  rw [mem_iff_gi,wayL_len]
  constructor
  · rintro ⟨j,h,e⟩
    rw [wayL,gi_tab _ h] at e
    exact ⟨j,h,by omega⟩
  · rintro ⟨j,h,e⟩
    exact ⟨j,h,by rw [wayL,gi_tab _ h,e]⟩
noncomputable def endA (f : Nat → Nat) (n : Nat) : Nat:=firstA f n 0
noncomputable def atA (f : Nat → Nat) (n : Nat) : Nat:=(idx (wayL f (endA f n)) (f (endA f n))).toNat
noncomputable def stemA (f : Nat → Nat) (n : Nat) : List Int:=(wayL f (endA f n)).take (atA f n)
noncomputable def loopA (f : Nat → Nat) (n : Nat) : List Int:=(wayL f (endA f n)).drop (atA f n)
theorem firstA_ok {f : Nat → Nat} {n : Nat} (hn : ∀ k,f k < n) : ∀ m k,m + k = n → (∀ i j,i < j → j < k → f i ≠ f j) → firstA f m k ≤ n ∧ (∃ j,j < firstA f m k ∧ f j = f (firstA f m k)) ∧ (∀ i j,i < j → j < firstA f m k → f i ≠ f j):=by
  intro m
  induction m with
  | zero =>
    intro k hk hd
    have e : k = n:=by omega
    subst e
    refine ⟨Nat.le_refl _,Classical.byContradiction fun hc=>?_,hd⟩
    have:=dist_le hn (dist_succ hd hc)
    omega
  | succ m ih =>
    intro k hk hd
    by_cases hc : ∃ j,j < k ∧ f j = f k
    · rw [firstA_hit hc]
      exact ⟨by omega,hc,hd⟩
    · rw [firstA_miss hc]
      exact ih (k + 1) (by omega) (dist_succ hd hc)
theorem endA_ok {f : Nat → Nat} {n : Nat} (hn : ∀ k,f k < n) : endA f n ≤ n ∧ idx (wayL f (endA f n)) (f (endA f n)) = (atA f n : Int) ∧ atA f n < endA f n ∧ f (atA f n) = f (endA f n):=by
  obtain ⟨h1,h2,_⟩:=firstA_ok hn n 0 (by omega) fun i j _ h=>absurd h (Nat.not_lt_zero _)
  refine ⟨h1,?_⟩
  rcases idx_cases (wayL f (endA f n)) (f (endA f n)) with ⟨_,h⟩|⟨k,a,b,_,d⟩
  · exact absurd (mem_way.2 h2) h
  · rw [wayL_len] at a
    have e : atA f n = k:=by unfold atA;rw [d,Int.toNat_natCast]
    rw [e]
    rw [wayL,gi_tab _ a] at b
    exact ⟨d,a,by omega⟩
theorem stemA_len {f : Nat → Nat} {n : Nat} (hn : ∀ k,f k < n) : (stemA f n).length = atA f n:=by
  have:=endA_ok hn
  unfold stemA;rw [List.length_take,wayL_len];omega
theorem loopA_len {f : Nat → Nat} {n : Nat} (hn : ∀ k,f k < n) : (loopA f n).length = endA f n - atA f n:=by
  unfold loopA;rw [List.length_drop,wayL_len]
theorem loopA_at {f : Nat → Nat} {n : Nat} (hn : ∀ k,f k < n) {j : Nat} (hj : j < endA f n - atA f n) : gi (loopA f n) j = f (atA f n + j):=by
  unfold loopA
  rw [gi_drop,wayL,gi_tab _ (by omega)]
theorem topTo_ge {pr xs : List Int} {j : Nat} : ∀ k,j < k → gi pr (gi xs j).toNat ≤ topTo pr xs k:=by
  intro k
  induction k with
  | zero => intro h; omega
  | succ k ih =>
    intro h
    show _ ≤ max (topTo pr xs k) _
    by_cases e : j = k
    · subst e;exact Int.le_max_right _ _
    · exact Int.le_trans (ih (by omega)) (Int.le_max_left _ _)
theorem topTo_at {pr xs : List Int} : ∀ k,topTo pr xs k = -1 ∨ ∃ j,j < k ∧ topTo pr xs k = gi pr (gi xs j).toNat:=by
  intro k
  induction k with
  | zero => exact .inl rfl
  | succ k ih =>
    show max (topTo pr xs k) (gi pr (gi xs k).toNat) = -1 ∨ ∃ j,j < k + 1 ∧ max (topTo pr xs k) (gi pr (gi xs k).toNat) = _
    by_cases h : topTo pr xs k ≤ gi pr (gi xs k).toNat
    · exact .inr ⟨k,by omega,by omega⟩
    · rcases ih with e|⟨j,h1,h2⟩
      · exact .inl (by omega)
      · exact .inr ⟨j,by omega,by omega⟩
def FullP (a : Ar) (who : Int) (ps : List Int) : Prop:=(ps.length = a.own.length ∧ ∀ v,v < ps.length → gi ps v = -1 ∨ gi a.own v = who ∧ gi ps v ∈ gr a.nxt v) ∧ ∀ v,v < ps.length → gi a.own v = who → 0 ≤ gi ps v
theorem itP_step {g : Pa} (hg : PaOk g) {even odd : List Int} (h0 : FullP g.ar 0 even) (h1 : FullP g.ar 1 odd) {x : Nat} (hx : x < g.prio.length) : ((nxP g.ar even odd x : Nat) : Int) ∈ gr g.ar.nxt x ∧ nxP g.ar even odd x < g.prio.length ∧ ((nxP g.ar even odd x : Nat) : Int) = (if gi g.ar.own x = 0 then gi even x else gi odd x):=by
  have hl:=hg.len
  have hv:=hg.ar.vert x (by omega)
  have key : (if gi g.ar.own x = 0 then gi even x else gi odd x) ∈ gr g.ar.nxt x:=by
    split
    · rename_i e
      have h2:=h0.2 x (by have:=h0.1.1;omega) e
      rcases h0.1.2 x (by have:=h0.1.1;omega) with e'|e'
      · omega
      · exact e'.2
    · rename_i e
      have e1 : gi g.ar.own x = 1:=by omega
      have h2:=h1.2 x (by have:=h1.1.1;omega) e1
      rcases h1.1.2 x (by have:=h1.1.1;omega) with e'|e'
      · omega
      · exact e'.2
  have h3:=nxt_nn hg hx key
  have e : ((nxP g.ar even odd x : Nat) : Int) = (if gi g.ar.own x = 0 then gi even x else gi odd x):=Int.toNat_of_nonneg h3.1
  exact ⟨by rw [e];exact key,by omega,e⟩
theorem itP_lt {g : Pa} (hg : PaOk g) {even odd : List Int} (h0 : FullP g.ar 0 even) (h1 : FullP g.ar 1 odd) {v : Nat} (hv : v < g.prio.length) : ∀ k,itP g.ar even odd v k < g.prio.length:=by
  intro k
  induction k with
  | zero => exact hv
  | succ k ih => exact (itP_step hg h0 h1 ih).2.1
theorem play_top {g : Pa} (hg : PaOk g) {even odd : List Int} (h0 : FullP g.ar 0 even) (h1 : FullP g.ar 1 odd) {v : Nat} {i : Int} (hi : i = 0 ∨ i = 1) {R : Nat → Prop} {σ : Nat → Nat} (d : PG.DomBy (pgP g) i (allN g) R σ) (hv : R v)
    (hs : ∀ x,R x → gi g.ar.own x = i → (gi (if i = 0 then even else odd) x).toNat = σ x) : topTo g.prio (loopA (itP g.ar even odd v) g.prio.length) (loopA (itP g.ar even odd v) g.prio.length).length % 2 = i:=by
  have hvn : v < g.prio.length:=d.sub v hv
  have hlt:=itP_lt hg h0 h1 hvn
  obtain ⟨e1,_,e2,e3⟩:=endA_ok hlt
  have hat:=fun j hj=>loopA_at hlt (j:=j) hj
  rw [loopA_len hlt]
  generalize endA (itP g.ar even odd v) g.prio.length = b at *
  generalize atA (itP g.ar even odd v) g.prio.length = a at *
  generalize loopA (itP g.ar even odd v) g.prio.length = xs at *
  refine PG.play_won d (nx:=nxP g.ar even odd) (f:=itP g.ar even odd v) (fun k=>rfl) (fun k=>?_) hv e2 e3 (fun k hk hk'=>?_) ?_
  · have hk:=hlt k
    obtain ⟨s1,s2,s3⟩:=itP_step hg h0 h1 hk
    obtain ⟨t,ht,e⟩:=mem_gi s1
    refine ⟨(pgP_E _ _).2 ⟨hk,s2,t,ht,e⟩,s2,fun hr ho=>?_⟩
    rw [own_P hg hk] at ho
    have h4:=hs _ hr ho
    rw [← h4]
    show nxP g.ar even odd (itP g.ar even odd v k) = _
    rcases hi with e|e
    · subst e
      rw [if_pos rfl]
      unfold nxP
      rw [if_pos ho]
    · subst e
      rw [if_neg (by decide)]
      unfold nxP
      rw [if_neg (by omega)]
  · rw [prio_P hg (hlt k)]
    have h5:=topTo_ge (pr:=g.prio) (xs:=xs) (j:=k - a) (b - a) (by omega)
    rw [hat (k - a) (by omega),Int.toNat_natCast,show a + (k - a) = k by omega] at h5
    exact h5
  · rcases topTo_at (pr:=g.prio) (xs:=xs) (b - a) with e|⟨j,hj,e⟩
    · have h5:=topTo_ge (pr:=g.prio) (xs:=xs) (j:=0) (b - a) (by omega)
      rw [hat 0 (by omega),Int.toNat_natCast,e] at h5
      have:=(hg.prio _ (hlt (a + 0))).1
      omega
    · rw [hat j hj,Int.toNat_natCast] at e
      exact ⟨a + j,by omega,by omega,by rw [prio_P hg (hlt _),e]⟩
end Go.Proofs.Ytfaefmabjjndeaa
