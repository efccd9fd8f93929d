/-
  Plans by the least successor with which the winner still wins: what is computed.
-/
import Derived.Test.YtfaefmabjjndeaaZtE14
import Derived.Test.YtfaefmabjjndeaaZtD5
namespace Go.Proofs.Ytfaefmabjjndeaa
set_option linter.unusedVariables false
set_option linter.unusedSimpArgs false
open Go.RowKit
def Good (g : Pa) (W : List Int) (i : Int) (ps : List Int) : Prop:=∀ v : Nat,(v : Int) ∈ atL W i → PG.Won (pgP (onlyP g ps)) i (fun v : Nat=>(v : Int) ∈ atL W i) v
noncomputable def tryU (g : Pa) (W : List Int) (v : Nat) (ps : List Int) : List Int → Int
  | [] => -1
  | u :: us => if tf (gi W u.toNat = gi W v ∧ Good g W (gi W v) (ps.set v u)) then u else tryU g W v ps us
noncomputable def stepP (g : Pa) (W ps : List Int) (v : Nat) : List Int:=if gi g.ar.own v = gi W v ∧ gi ps v < 0 then ps.set v (tryU g W v ps (gr g.ar.nxt v)) else ps
noncomputable def planN (g : Pa) (W ps : List Int) : Nat → List Int
  | 0 => ps
  | k + 1 => stepP g W (planN g W ps k) k
structure PickOk (g : Pa) (ps : List Int) : Prop where
  pk : Picks g ps
  in' : ∀ v,v < g.prio.length → 0 ≤ gi ps v → gi g.ar.own v = gi (winL g) v ∧ gi (winL g) (gi ps v).toNat = gi (winL g) v
theorem nxt_vert {g : Pa} (hg : PaOk g) {v t : Nat} (hv : v < g.prio.length) (ht : t < (gr g.ar.nxt v).length) : 0 ≤ gi (gr g.ar.nxt v) t ∧ gi (gr g.ar.nxt v) t < g.prio.length:=by
  have hl:=hg.len
  have:=(hg.ar.vert v (by omega)).2.2.2.2 t ht
  exact ⟨this.1,by omega⟩
theorem nxt_E {g : Pa} (hg : PaOk g) {v t : Nat} (hv : v < g.prio.length) (ht : t < (gr g.ar.nxt v).length) : (pgP g).E v (gi (gr g.ar.nxt v) t).toNat:=by
  have:=nxt_vert hg hv ht
  exact (pgP_E _ _).2 ⟨hv,by omega,t,ht,by omega⟩
theorem won_next {g : Pa} (hg : PaOk g) {v : Nat} (hv : v < g.prio.length) : (∃ t,t < (gr g.ar.nxt v).length ∧ gi (winL g) (gi (gr g.ar.nxt v) t).toNat = gi (winL g) v) ∧ (gi g.ar.own v ≠ gi (winL g) v → ∀ t,t < (gr g.ar.nxt v).length → gi (winL g) (gi (gr g.ar.nxt v) t).toNat = gi (winL g) v):=by
  have hl:=hg.len
  have hi:=winL_01 (g:=g) hv
  obtain ⟨⟨σ,d⟩,_⟩:=PG.won_for (G:=pgP g) fin_P all_P (total_all hg) hi
  have hw : PG.Won (pgP g) (gi (winL g) v) (allN g) v:=(winL_at hg hv hi).1 rfl
  have hall : gi g.ar.own v ≠ gi (winL g) v → ∀ t,t < (gr g.ar.nxt v).length → gi (winL g) (gi (gr g.ar.nxt v) t).toNat = gi (winL g) v:=fun ho t ht=>by
    have hb:=nxt_vert hg hv ht
    have:=d.yours v _ hw (by rw [own_P hg hv];exact ho) (nxt_E hg hv ht) (show _ < _ by omega)
    exact (winL_at hg (by omega) hi).2 this
  refine ⟨?_,hall⟩
  by_cases ho : gi g.ar.own v = gi (winL g) v
  · obtain ⟨b1,b2⟩:=d.mine v hw (by rw [own_P hg hv];exact ho)
    obtain ⟨_,h2,t,ht,e⟩:=(pgP_E _ _).1 b1
    exact ⟨t,ht,by rw [e,Int.toNat_natCast];exact (winL_at hg h2 hi).2 b2⟩
  · obtain ⟨_,_,h3,_⟩:=hg.ar.vert v (by omega)
    exact ⟨0,by omega,hall ho 0 (by omega)⟩
theorem mem_reg {g : Pa} {i : Int} {v : Nat} : (v : Int) ∈ atL (winL g) i ↔ v < g.prio.length ∧ gi (winL g) v = i:=by
  rw [mem_atL,winL_len]
  constructor
  · rintro ⟨u,h1,h2,h3⟩
    have : u = v:=by omega
    subst this;exact ⟨h1,h3⟩
  · rintro ⟨h1,h2⟩;exact ⟨v,h1,rfl,h2⟩
theorem mem_reg' {g : Pa} {i x : Int} (h0 : 0 ≤ x) : x ∈ atL (winL g) i ↔ x < g.prio.length ∧ gi (winL g) x.toNat = i:=by
  have:=mem_reg (g:=g) (i:=i) (v:=x.toNat)
  rw [Int.toNat_of_nonneg h0] at this
  rw [this]
  exact ⟨fun h=>⟨by omega,h.2⟩,fun h=>⟨by omega,h.2⟩⟩
theorem reg_game {g : Pa} (hg : PaOk g) {ps : List Int} (h : PickOk g ps) (i : Int) : GameIn (onlyP g ps).ar (atL (winL g) i):=by
  have hl:=hg.len
  have hs:=isSet_atL (winL g) i
  rw [winL_len] at hs
  refine ⟨by rw [show (onlyP g ps).ar.own = g.ar.own from rfl,← hl];exact hs,fun k hk=>?_⟩
  have h0:=hs k hk
  have hm:=gi_mem hk
  obtain ⟨h1,h2⟩:=(mem_reg' h0.1).1 hm
  have hv : (gi (atL (winL g) i) k).toNat < g.prio.length:=by omega
  generalize (gi (atL (winL g) i) k).toNat = v at *
  rw [show gr (onlyP g ps).ar.nxt v = pickR g.ar.nxt ps v from gr_tabr _ (by omega)]
  unfold pickR
  split
  · rename_i hp
    refine ⟨0,by simp,?_⟩
    show gi ps v ∈ _
    obtain ⟨h3,h4⟩:=h.in' v hv hp
    rcases h.pk.2 v (by have:=h.pk.1;omega) with e|e
    · omega
    · obtain ⟨t,ht,e'⟩:=mem_gi e
      have:=nxt_vert hg hv ht
      rw [e'] at this
      exact (mem_reg' hp).2 ⟨this.2,h4.trans h2⟩
  · obtain ⟨t,ht,e⟩:=(won_next hg hv).1
    have:=nxt_vert hg hv ht
    exact ⟨t,ht,(mem_reg' this.1).2 ⟨this.2,e.trans h2⟩⟩
theorem pickOk_set {g : Pa} (hg : PaOk g) {ps : List Int} (h : PickOk g ps) {v : Nat} (hv : v < g.prio.length) (ho : gi g.ar.own v = gi (winL g) v) {u : Int} (hu : u ∈ gr g.ar.nxt v) (hw : gi (winL g) u.toNat = gi (winL g) v) : PickOk g (ps.set v u):=by
  have h1:=h.pk.1
  have hlt : v < ps.length:=by omega
  refine ⟨⟨by rw [List.length_set];exact h1,fun x hx=>?_⟩,fun x hx hp=>?_⟩
  · rw [List.length_set] at hx
    rw [gi_set hlt]
    split
    · rename_i e;subst e;exact .inr hu
    · exact h.pk.2 x hx
  · rw [gi_set hlt] at hp ⊢
    split at hp
    · rename_i e;subst e;rw [if_pos rfl];exact ⟨ho,hw⟩
    · rename_i e;rw [if_neg e];exact h.in' x hx hp
theorem set_neg {ps : List Int} {v : Nat} (h : gi ps v = -1) : ps.set v (-1) = ps:=set_gi h
theorem tryU_cases (g : Pa) (W : List Int) (v : Nat) (ps : List Int) : ∀ us : List Int,tryU g W v ps us = -1 ∨ (tryU g W v ps us ∈ us ∧ gi W (tryU g W v ps us).toNat = gi W v ∧ Good g W (gi W v) (ps.set v (tryU g W v ps us))):=by
  intro us
  induction us with
  | nil => exact .inl rfl
  | cons u us ih =>
    unfold tryU
    by_cases h : gi W u.toNat = gi W v ∧ Good g W (gi W v) (ps.set v u)
    · rw [tf_true h,if_t]
      exact .inr ⟨List.mem_cons_self,h.1,h.2⟩
    · rw [tf_false h,if_f]
      rcases ih with h'|⟨h1,h2⟩
      · exact .inl h'
      · exact .inr ⟨List.mem_cons_of_mem _ h1,h2⟩
theorem stepP_ok {g : Pa} (hg : PaOk g) {ps : List Int} (h : PickOk g ps) {v : Nat} (hv : v < g.prio.length) : PickOk g (stepP g (winL g) ps v):=by
  unfold stepP
  split
  · rename_i hc
    rcases tryU_cases g (winL g) v ps (gr g.ar.nxt v) with e|⟨h1,h2,_⟩
    · rw [e]
      have : gi ps v = -1:=by
        rcases h.pk.2 v (by have:=h.pk.1;omega) with e|e
        · exact e
        · obtain ⟨t,ht,e'⟩:=mem_gi e
          have:=nxt_vert hg hv ht
          omega
      rw [set_neg this];exact h
    · exact pickOk_set hg h hv hc.1 h1 h2
  · exact h
theorem planN_ok {g : Pa} (hg : PaOk g) {ps : List Int} (h : PickOk g ps) : ∀ k,k ≤ g.prio.length → PickOk g (planN g (winL g) ps k):=by
  intro k
  induction k with
  | zero => intro _; exact h
  | succ k ih => intro hk; exact stepP_ok hg (ih (by omega)) (by omega)
end Go.Proofs.Ytfaefmabjjndeaa
