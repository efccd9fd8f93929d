/-
  Right answers: who they tell wins does win, and the solver's answers are right.
-/
import Derived.Test.YtfaefmabjjndeaaZtR0
import Derived.Test.YtfaefmabjjndeaaZtE23
namespace Go.Proofs.Ytfaefmabjjndeaa
set_option linter.unusedVariables false
set_option linter.unusedSimpArgs false
open Go.RowKit
theorem prio_P {g : Pa} (hg : PaOk g) {v : Nat} (hv : v < g.prio.length) : (pgP g).prio v = gi g.prio v:=prio_of (gmOk_of hg) hv
theorem only_row {g : Pa} (hg : PaOk g) {ps : List Int} {v : Nat} (hv : v < g.prio.length) : gr (onlyP g ps).ar.nxt v = pickR g.ar.nxt ps v:=gr_tabr _ (by have:=hg.len;omega)
theorem mem_at {W : List Int} {i : Int} {v : Nat} : (v : Int) ∈ atL W i ↔ v < W.length ∧ gi W v = i:=by
  rw [mem_atL]
  constructor
  · rintro ⟨u,h1,h2,h3⟩
    have : u = v:=by omega
    subst this;exact ⟨h1,h3⟩
  · rintro ⟨h1,h2⟩;exact ⟨v,h1,rfl,h2⟩
theorem nxt_nn {g : Pa} (hg : PaOk g) {v : Nat} (hv : v < g.prio.length) {u : Int} (hu : u ∈ gr g.ar.nxt v) : 0 ≤ u ∧ u < g.prio.length:=by
  obtain ⟨t,ht,e⟩:=mem_gi hu
  have:=nxt_vert hg hv ht
  rw [e] at this;exact this
theorem aok_dom {g : Pa} {W P : List Int} (h : AOk g W P) {i : Int} (hi : i = 0 ∨ i = 1) : PG.DomBy (pgP g) i (allN g) (fun v : Nat=>(v : Int) ∈ atL W i) fun v=>(gi P v).toNat:=by
  obtain ⟨⟨hg,⟨hl1,hl2⟩,hf⟩,h0,h1⟩:=h
  have hw : WinsP g i (atL W i) (partL g P i):=by
    rcases hi with e|e
    · rw [e];exact h0
    · rw [e];exact h1
  have hin : ∀ v : Nat,(v : Int) ∈ atL W i → v < g.prio.length ∧ gi W v = i:=fun v hv=>by
    have:=mem_at.1 hv
    exact ⟨by omega,this.2⟩
  have hcl : ∀ v : Nat,(v : Int) ∈ atL W i → (gi g.ar.own v = i → 0 ≤ gi P v ∧ gi P v ∈ atL W i) ∧ (gi g.ar.own v ≠ i → ∀ t,t < (gr g.ar.nxt v).length → gi (gr g.ar.nxt v) t ∈ atL W i):=fun v hv=>by
    obtain ⟨j,hj,e⟩:=mem_gi hv
    have:=hw.1 j hj
    rw [e] at this
    simp only [ClosAt,Int.toNat_natCast] at this
    refine ⟨fun ho=>?_,this.2⟩
    have h2:=this.1 ho
    rw [gi_part (hin v hv).1,if_pos ho] at h2
    exact h2
  have hcn : ∀ v : Nat,(v : Int) ∈ atL W i → gi g.prio v % 2 = i ∨ ¬ BadV g (atL W i) (partL g P i) v:=fun v hv=>by
    obtain ⟨j,hj,e⟩:=mem_gi hv
    have:=hw.2 j hj
    rw [e] at this
    simpa only [Int.toNat_natCast] using this
  refine ⟨fun v hv=>(hin v hv).1,fun v hv ho=>?_,fun v u hv ho he hu=>?_,PG.wins_of (n:=g.prio.length) (fun v hv=>(hin v hv).1) fun v hv hway=>?_⟩
  · have hv':=hin v hv
    rw [own_P hg hv'.1] at ho
    obtain ⟨h2,h3⟩:=(hcl v hv).1 ho
    have h4:=(hf v hv'.1).2.1 (ho.trans hv'.2.symm)
    have h5:=nxt_nn hg hv'.1 h4
    obtain ⟨t,ht,e⟩:=mem_gi h4
    rw [Int.toNat_of_nonneg h2]
    exact ⟨(pgP_E _ _).2 ⟨hv'.1,by omega,t,ht,by omega⟩,h3⟩
  · have hv':=hin v hv
    rw [own_P hg hv'.1] at ho
    obtain ⟨_,_,t,ht,e⟩:=(pgP_E _ _).1 he
    have:=(hcl v hv).2 ho t ht
    rw [e] at this;exact this
  · have hv':=hin v hv
    rw [prio_P hg hv'.1]
    refine (hcn v hv).resolve_right fun hb=>hb ?_
    unfold BadV
    simp only [Int.toNat_natCast]
    refine hway.mono (Q:=fun v : Nat=>(v : Int) ∈ atL W i) (fun x y hx he=>?_) (fun x hx=>hx.1) (fun x hx=>⟨hx.1,?_⟩) hv
    · have hx':=hin x hx
      obtain ⟨h2,h3,t,ht,e⟩:=(pgP_E _ _).1 he.1
      refine (pgP_E _ _).2 ⟨h2,h3,?_⟩
      rw [only_row hg h2]
      unfold pickR
      by_cases ho : gi g.ar.own x = i
      · have h5:=(hcl x hx).1 ho
        rw [gi_part h2,if_pos ho,if_pos h5.1]
        refine ⟨0,by simp,?_⟩
        have:=he.2 (by rw [own_P hg h2];exact ho)
        show gi P x = _
        omega
      · rw [gi_part h2,if_neg ho,if_neg (by decide)]
        exact ⟨t,ht,e⟩
    · have h3:=hx.2
      rw [prio_P hg (hin x hx.1).1,prio_P hg hv'.1] at h3
      exact h3
def Good2 (g : Pa) (ps : List Int) : Prop:=∀ i,i = 0 ∨ i = 1 → Good g (winL g) i ps
theorem tryU_ex {g : Pa} {W : List Int} {v : Nat} {ps : List Int} : ∀ us : List Int,(∀ u,u ∈ us → 0 ≤ u) → (∃ u,u ∈ us ∧ gi W u.toNat = gi W v ∧ Good g W (gi W v) (ps.set v u)) → 0 ≤ tryU g W v ps us:=by
  intro us
  induction us with
  | nil => rintro _ ⟨u, h, _⟩; cases h
  | cons u us ih =>
    rintro h0 ⟨x,hx,h1⟩
    unfold tryU
    by_cases h : gi W u.toNat = gi W v ∧ Good g W (gi W v) (ps.set v u)
    · rw [tf_true h,if_t];exact h0 u List.mem_cons_self
    · rw [tf_false h,if_f]
      refine ih (fun u hu=>h0 u (List.mem_cons_of_mem _ hu)) ⟨x,?_,h1⟩
      rcases List.mem_cons.1 hx with e|e
      · subst e;exact absurd h1 h
      · exact e
theorem good_dom {g : Pa} (hg : PaOk g) {ps : List Int} (h : PickOk g ps) {i : Int} (hi : i = 0 ∨ i = 1) (hG : Good g (winL g) i ps) : ∃ σ,PG.DomBy (pgP (onlyP g ps)) i (fun v : Nat=>(v : Int) ∈ atL (winL g) i) (fun v : Nat=>(v : Int) ∈ atL (winL g) i) σ:=by
  have hok:=onlyP_ok hg h.pk
  obtain ⟨⟨σ,d⟩,_⟩:=PG.won_for (G:=pgP (onlyP g ps)) fin_P (S:=fun v : Nat=>(v : Int) ∈ atL (winL g) i) (fun v hv=>(mem_reg.1 hv).1) (total_in hok (reg_game hg h i)) hi
  have e : PG.Won (pgP (onlyP g ps)) i (fun v : Nat=>(v : Int) ∈ atL (winL g) i) = fun v : Nat=>(v : Int) ∈ atL (winL g) i:=funext fun v=>propext ⟨fun h=>PG.won_in (S:=fun v : Nat=>(v : Int) ∈ atL (winL g) i) h,hG v⟩
  rw [e] at d
  exact ⟨σ,d⟩
theorem only_E {g : Pa} (hg : PaOk g) {ps : List Int} {v u : Nat} : (pgP (onlyP g ps)).E v u ↔ v < g.prio.length ∧ u < g.prio.length ∧ (u : Int) ∈ pickR g.ar.nxt ps v:=by
  rw [pgP_E]
  constructor
  · rintro ⟨h1,h2,t,ht,e⟩
    rw [only_row hg h1] at ht e
    exact ⟨h1,h2,e ▸ gi_mem ht⟩
  · rintro ⟨h1,h2,h3⟩
    obtain ⟨t,ht,e⟩:=mem_gi h3
    exact ⟨h1,h2,t,by rw [only_row hg h1];exact ht,by rw [only_row hg h1];exact e⟩
theorem pickR_set {g : Pa} {ps : List Int} {v x : Nat} {u : Int} (hv : v < ps.length) (hu : 0 ≤ u) : pickR g.ar.nxt (ps.set v u) x = if x = v then [u] else pickR g.ar.nxt ps x:=by
  unfold pickR
  rw [gi_set hv]
  by_cases e : x = v
  · rw [if_pos e,if_pos hu,if_pos e]
  · rw [if_neg e,if_neg e]
theorem good_same {g : Pa} (hg : PaOk g) {ps qs : List Int} (h : PickOk g ps) {i : Int} (hi : i = 0 ∨ i = 1) (hG : Good g (winL g) i ps) (hr : ∀ v : Nat,(v : Int) ∈ atL (winL g) i → pickR g.ar.nxt qs v = pickR g.ar.nxt ps v) : Good g (winL g) i qs:=by
  obtain ⟨σ,d⟩:=good_dom hg h hi hG
  intro v hv
  refine ⟨_,⟨σ,PG.dom_less (G:=pgP (onlyP g ps)) rfl rfl (fun v u hv he=>?_) (fun v hv ho=>?_) d⟩,hv⟩
  · have:=(only_E hg).1 he
    rw [hr v hv] at this
    exact (only_E hg).2 this
  · have:=(only_E hg).1 (d.mine v hv ho).1
    rw [← hr v hv] at this
    exact (only_E hg).2 this
theorem good_step {g : Pa} (hg : PaOk g) {ps : List Int} (h : PickOk g ps) {v : Nat} (hv : v < g.prio.length) (ho : gi g.ar.own v = gi (winL g) v) (hn : gi ps v = -1) (hG : Good2 g ps) : 0 ≤ tryU g (winL g) v ps (gr g.ar.nxt v) ∧ Good2 g (ps.set v (tryU g (winL g) v ps (gr g.ar.nxt v))):=by
  have hi:=winL_01 (g:=g) hv
  have hpl:=h.pk.1
  have hnn : ∀ u,u ∈ gr g.ar.nxt v → 0 ≤ u:=fun u hu=>(nxt_nn hg hv hu).1
  have hex : 0 ≤ tryU g (winL g) v ps (gr g.ar.nxt v):=by
    refine tryU_ex _ hnn ?_
    obtain ⟨σ,d⟩:=good_dom hg h hi (hG _ hi)
    have hvr : (v : Int) ∈ atL (winL g) (gi (winL g) v):=mem_reg.2 ⟨hv,rfl⟩
    obtain ⟨m1,m2⟩:=d.mine v hvr (by rw [own_P (onlyP_ok hg h.pk) hv];exact ho)
    obtain ⟨_,m3,m4⟩:=(only_E hg).1 m1
    have e0 : pickR g.ar.nxt ps v = gr g.ar.nxt v:=if_neg (by omega)
    rw [e0] at m4
    refine ⟨_,m4,(mem_reg.1 m2).2,fun x hx=>⟨_,⟨σ,PG.dom_less (G:=pgP (onlyP g ps)) rfl rfl (fun y u hy he=>?_) (fun y hy hoy=>?_) d⟩,hx⟩⟩
    · obtain ⟨a1,a2,a3⟩:=(only_E hg).1 he
      rw [pickR_set (by omega) (by omega)] at a3
      refine (only_E hg).2 ⟨a1,a2,?_⟩
      split at a3
      · rename_i e;subst e
        rw [e0,List.mem_singleton.1 a3];exact m4
      · exact a3
    · obtain ⟨a1,a2,a3⟩:=(only_E hg).1 (d.mine y hy hoy).1
      refine (only_E hg).2 ⟨a1,a2,?_⟩
      rw [pickR_set (by omega) (by omega)]
      split
      · rename_i e;subst e;exact List.mem_singleton.2 rfl
      · exact a3
  refine ⟨hex,fun i hi'=>?_⟩
  rcases tryU_cases g (winL g) v ps (gr g.ar.nxt v) with e|⟨_,_,h3⟩
  · omega
  · by_cases e : i = gi (winL g) v
    · rw [e];exact h3
    · refine good_same hg h hi' (hG i hi') fun x hx=>?_
      rw [pickR_set (by omega) hex,if_neg]
      rintro rfl
      exact e (mem_reg.1 hx).2.symm
theorem planN_good {g : Pa} (hg : PaOk g) {ps : List Int} (h : PickOk g ps) (hG : Good2 g ps) : ∀ k,k ≤ g.prio.length → Good2 g (planN g (winL g) ps k) ∧ (∀ v,v < k → gi g.ar.own v = gi (winL g) v → 0 ≤ gi (planN g (winL g) ps k) v) ∧ (∀ v,0 ≤ gi ps v ∨ k ≤ v → gi (planN g (winL g) ps k) v = gi ps v):=by
  intro k
  induction k with
  | zero => exact fun _ => ⟨hG, fun v hv => absurd hv (Nat.not_lt_zero _), fun v _ => rfl⟩
  | succ k ih =>
    intro hk
    obtain ⟨i1,i2,i3⟩:=ih (by omega)
    have hp:=planN_ok hg h k (by omega)
    have hpl:=hp.pk.1
    show Good2 g (stepP g (winL g) (planN g (winL g) ps k) k) ∧ (∀ v,v < k + 1 → gi g.ar.own v = gi (winL g) v → 0 ≤ gi (stepP g (winL g) (planN g (winL g) ps k) k) v) ∧ (∀ v,0 ≤ gi ps v ∨ k + 1 ≤ v → gi (stepP g (winL g) (planN g (winL g) ps k) k) v = gi ps v)
    unfold stepP
    split
    · rename_i hc
      obtain ⟨s1,s2⟩:=good_step hg hp (v:=k) (by omega) hc.1 (neg_pick hg hp hc.2) i1
      refine ⟨s2,fun v hv ho=>?_,fun v hv=>?_⟩
      · rw [gi_set (by omega)]
        split
        · exact s1
        · exact i2 v (by omega) ho
      · rw [gi_set (by omega)]
        split
        · rename_i e
          subst e
          have:=i3 v (.inr (Nat.le_refl _))
          rcases hv with hv|hv <;> omega
        · exact i3 v (hv.imp id (by omega))
    · rename_i hc
      refine ⟨i1,fun v hv ho=>?_,fun v hv=>i3 v (hv.imp id (by omega))⟩
      by_cases e : v = k
      · subst e
        refine Classical.byContradiction fun hn=>hc ⟨ho,by omega⟩
      · exact i2 v (by omega) ho
theorem good_aok {g : Pa} (hg : PaOk g) {P : List Int} (h : PickOk g P) (hG : Good2 g P) (hall : ∀ v,v < g.prio.length → gi g.ar.own v = gi (winL g) v → 0 ≤ gi P v) : AOk g (winL g) P:=by
  have hpl:=h.pk.1
  have hneg : ∀ v,v < g.prio.length → gi g.ar.own v ≠ gi (winL g) v → gi P v = -1:=fun v hv ho=>by
    refine neg_pick hg h (Int.not_le.1 fun hc=>ho (h.in' v hv hc).1)
  refine ⟨⟨hg,⟨winL_len g,hpl⟩,fun v hv=>⟨winL_01 hv,fun ho=>?_,hneg v hv⟩⟩,?_⟩
  · rcases h.pk.2 v (by omega) with e|e
    · have:=hall v hv ho;omega
    · exact e
  have key : ∀ i,i = 0 ∨ i = 1 → WinsP g i (atL (winL g) i) (partL g P i):=by
    intro i hi
    obtain ⟨σ,d⟩:=good_dom hg h hi (hG i hi)
    have hR : ∀ j,j < (atL (winL g) i).length → ∃ v : Nat,gi (atL (winL g) i) j = v ∧ (v : Int) ∈ atL (winL g) i ∧ v < g.prio.length ∧ gi (winL g) v = i:=fun j hj=>by
      obtain ⟨v,h1,h2,h3⟩:=mem_atL.1 (gi_mem hj)
      rw [winL_len] at h1
      exact ⟨v,h2,mem_reg.2 ⟨h1,h3⟩,h1,h3⟩
    refine ⟨fun j hj=>?_,fun j hj=>?_⟩
    · obtain ⟨v,e,_,hv,hw⟩:=hR j hj
      rw [e]
      simp only [ClosAt,Int.toNat_natCast]
      refine ⟨fun ho=>?_,fun ho t ht=>?_⟩
      · have h0:=hall v hv (by omega)
        rw [gi_part hv,if_pos ho]
        refine ⟨h0,(mem_reg' h0).2 ⟨?_,by rw [(h.in' v hv h0).2,hw]⟩⟩
        rcases h.pk.2 v (by omega) with e|e
        · omega
        · exact (nxt_nn hg hv e).2
      · have h0:=nxt_vert hg hv ht
        exact (mem_reg' h0.1).2 ⟨h0.2,by rw [(won_next hg hv).2 (by omega) t ht,hw]⟩
    · obtain ⟨v,e,hvr,hv,hw⟩:=hR j hj
      rw [e]
      simp only [BadV,Int.toNat_natCast]
      refine Classical.byContradiction fun hc=>?_
      obtain ⟨c1,c2⟩:=not_or.1 hc
      refine c1 ?_
      have hb:=Classical.not_not.1 c2
      have hok:=onlyP_ok hg h.pk
      have pr : ∀ x,x < g.prio.length → (pgP (onlyP g P)).prio x = gi g.prio x:=fun x hx=>prio_P hok hx
      rw [← pr v hv]
      refine PG.not_bad d.wins (E:=(pgP (onlyP g (partL g P i))).E) (fun x y hx he=>?_) hvr (hb.mono (Q:=fun _=>True) (fun _ _ _ h=>h) (fun _ _=>trivial) (fun x hx=>⟨hx.1,?_⟩) trivial)
      · obtain ⟨a1,a2,a3⟩:=(only_E hg).1 he
        have hxw:=(mem_reg.1 hx).2
        have ho' : (pgP (onlyP g P)).own x = gi g.ar.own x:=own_P hok a1
        by_cases ho : gi g.ar.own x = i
        · have h0:=hall x a1 (by omega)
          have e1 : pickR g.ar.nxt (partL g P i) x = [gi P x]:=by unfold pickR;rw [gi_part a1,if_pos ho,if_pos h0]
          have e2 : pickR g.ar.nxt P x = [gi P x]:=if_pos h0
          rw [e1] at a3
          refine ⟨(only_E hg).2 ⟨a1,a2,by rw [e2];exact a3⟩,fun _=>?_⟩
          obtain ⟨_,_,a4⟩:=(only_E hg).1 (d.mine x hx (by rw [ho'];exact ho)).1
          rw [e2] at a4
          have:=List.mem_singleton.1 a3
          have:=List.mem_singleton.1 a4
          omega
        · have e1 : pickR g.ar.nxt (partL g P i) x = gr g.ar.nxt x:=by unfold pickR;rw [gi_part a1,if_neg ho,if_neg (by decide)]
          have e2 : pickR g.ar.nxt P x = gr g.ar.nxt x:=if_neg (by rw [hneg x a1 (by omega)];decide)
          rw [e1,← e2] at a3
          exact ⟨(only_E hg).2 ⟨a1,a2,a3⟩,fun h=>absurd (ho'.symm.trans h) ho⟩
      · rw [pr x (mem_reg.1 hx.1).1,pr v hv];exact hx.2
  exact ⟨key 0 (.inl rfl),key 1 (.inr rfl)⟩
theorem good_fits {g : Pa} {ps : List Int} (h : Fits g ps) : Good2 g ps:=by
  obtain ⟨⟨⟨hg,hp⟩,hw⟩,_⟩:=h
  intro i hi
  have hok:=onlyP_ok hg hp
  obtain ⟨⟨σ,d⟩,_⟩:=PG.won_for (G:=pgP (onlyP g ps)) fin_P all_P (total_all hok) hi
  have hiff : ∀ v : Nat,(v : Int) ∈ atL (winL g) i ↔ PG.Won (pgP (onlyP g ps)) i (allN (onlyP g ps)) v:=fun v=>by
    rw [← hw];exact mem_won hok hi v
  intro v hv
  exact ⟨_,⟨σ,PG.dom_part d (fun v hv=>(hiff v).2 hv) fun v u hv ho he hu=>(mem_reg.1 hu).1⟩,(hiff v).1 hv⟩
theorem plan_aok {g : Pa} {ps : List Int} (h : Fits g ps) : AOk g (winL g) (planN g (winL g) ps g.prio.length):=by
  have hg:=h.1.1.1
  obtain ⟨h1,h2,_⟩:=planN_good hg (fits_pick h) (good_fits h) _ (Nat.le_refl _)
  exact good_aok hg (planN_ok hg (fits_pick h) _ (Nat.le_refl _)) h1 h2
noncomputable abbrev solP (g : Pa) : List Int:=planN g (winL g) (noP g.prio.length) g.prio.length
theorem sol_aok {g : Pa} (hg : PaOk g) : AOk g (winL g) (solP g):=plan_aok (fits_noP hg)
end Go.Proofs.Ytfaefmabjjndeaa
