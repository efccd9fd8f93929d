/-
  Priority promotion, the reference: is a set shut?
-/
import Derived.Test.YtfmnikiinfbanaaZsQ5
namespace Go.Proofs.Ytfmnikiinfbanaa
set_option linter.unusedVariables false
set_option linter.unusedSimpArgs false
open Go.RowKit
attribute [local irreducible] FunSpec CallR Aw Le
theorem edg_of' {g : Pa} (v u : Int) (h0 : 0 ≤ v) (h1 : v < g.prio.length) : edg (gmOf g) v u = true := by
  have : gi (gmOf g).pick v.toNat = -1 := gi_tab _ (by omega)
  simp [edg, this]
theorem degTo_pos' {g : Pa} {inn : List Bool} {v : Int} (h0 : 0 ≤ v) (h1 : v < g.prio.length) : ∀ k, degTo (gmOf g) inn v k = 0 ↔ ∀ i, i < k → gb inn (gi (gr g.ar.nxt v.toNat) i).toNat = false := by
  intro k
  induction k with
  | zero => exact ⟨fun _ i hi => by omega, fun _ => rfl⟩
  | succ k ih =>
    rw [degTo, edg_of' v _ h0 h1, Bool.and_true]
    show degTo (gmOf g) inn v k + (if gb inn (gi (gr g.ar.nxt v.toNat) k).toNat = true then 1 else 0) = 0 ↔ _
    constructor
    · intro h i hi
      rcases Nat.lt_or_ge i k with h' | h'
      · exact ih.1 (by omega) i h'
      · have : i = k := by omega
        subst this
        cases hb : gb inn (gi (gr g.ar.nxt v.toNat) i).toNat with
        | false => rfl
        | true => rw [hb, if_pos rfl] at h;omega
    · intro h
      rw [ih.2 fun i hi => h i (by omega), h k (by omega)]
      rfl
theorem deg_pul {g : Pa} (hg : PaOk g) {s : St} {v : Nat} (hv : v < g.prio.length) : deg (gmOf g) (mks g.prio.length (Pul g s)) v = 0 ↔ ¬ ∃ i, i < (gr g.ar.nxt v).length ∧ Pul g s (sucN g v i) := by
  unfold deg
  rw [degTo_pos' (by omega) (by omega)]
  rw [Int.toNat_natCast]
  constructor
  · rintro h ⟨i, h1, h2⟩
    have := h i h1
    rw [gb_mks_t.2 ⟨suc_lt hg hv h1, h2⟩] at this
    cases this
  · intro h i hi
    cases hb : gb (mks g.prio.length (Pul g s)) (gi (gr g.ar.nxt v) i).toNat with
    | false => rfl
    | true => exact (h ⟨i, hi, (gb_mks_t.1 hb).2⟩).elim
theorem leaves_pul {g : Pa} (hg : PaOk g) {s : St} {v : Nat} (hv : v < g.prio.length) : LeavesP (gmOf g) (mks g.prio.length (Pul g s)) (mks g.prio.length (Blw g s s.at_)) v ↔ ¬ ∀ i, i < (gr g.ar.nxt v).length → Blw g s s.at_ (sucN g v i) → Pul g s (sucN g v i) := by
  constructor
  · rintro ⟨i, h1, h2, h3⟩ h
    have h4 : gb (mks g.prio.length (Pul g s)) (sucN g v i) = false := h3
    rw [gb_mks_t.2 ⟨suc_lt hg hv h1, h i h1 (gb_mks_t.1 h2).2⟩] at h4
    cases h4
  · intro h
    refine Classical.byContradiction fun hn => h fun i hi hb => Classical.byContradiction fun hp => hn ⟨i, hi, gb_mks_t.2 ⟨hb.1, hb⟩, ?_⟩
    show gb (mks g.prio.length (Pul g s)) (gi (gr g.ar.nxt v) i).toNat = false
    cases hb' : gb (mks g.prio.length (Pul g s)) (gi (gr g.ar.nxt v) i).toNat with
    | false => rfl
    | true => exact (hp (gb_mks_t.1 hb').2).elim
set_option maxHeartbeats 2000000 in
theorem l11Shut_f (g : Pa) (hg : PaOk g) (s : St) (hO : StOk g s) (h0 : 0 ≤ s.at_) : FunSpec Try.prog 66 [gmA (gmOf g), stA s, .c (.B (mks g.prio.length (Pul g s)))] [] (fun _ => .c (.bool (tf (ShutP g s)))) := by
  have hle := hg.ar.le
  have hl := hg.len
  have hlr := hO.lr
  have hlw := hO.lw
  have hgm := gmOk_of hg
  have hb := l11Below_f s s.at_ (by omega) (by omega)
  have e : (mks s.won.length fun v => gi s.won v < 0 ∧ gi s.region v ≤ s.at_) = mks g.prio.length (Blw g s s.at_) := by
    rw [hlw]
    exact mks_congr fun v hv => ⟨fun ⟨h1, h2⟩ => ⟨hv, (hO.won0 hg hv).1 h1, h2⟩, fun ⟨_, h1, h2⟩ => ⟨(hO.won0 hg hv).2 h1, h2⟩⟩
  rw [e] at hb
  have hw1 := mks_len g.prio.length (Pul g s)
  have hw2 := mks_len g.prio.length (Blw g s s.at_)
  have hio := hgm.own
  rw [show tf (ShutP g s) = tf (∀ v, v < g.prio.length → CV g s v) from tf_congr (shut_iff hg)]
  (refine f_intro tiOK Try.func66 rfl rfl (by kernel_rfl) fun hp0 ν hX hN => ?_;simp only [numT, Nat.reduceAdd])
  (repeat' (first | (with_reducible first | (refine hK _ _ ?_;clear hK K)|(refine hKN _ ?_;clear hKN K)|(refine hKD _ _ _ ?_;clear hKD K)|(refine hKE _ _ ?_;clear hKE K) | refine k_seq ?_ | refine n_sq ?_ | refine a_nil ?_ | refine k_label ?_ | refine k_block ?_ | refine n_bk ?_ | refine k_exit ?_ | refine n_sqx ?_ | refine n_kx ?_ | refine n_bkx ?_ | refine n_bkn rfl ?_ | refine k_ret ?_ | refine n_sqr ?_ | refine n_kr ?_ | refine n_bkr ?_ | refine k_skip ?_ | refine n_k ?_ | refine n_end ?_ | (refine hXX ?_;clear hXX X hYY Y)|(refine hYY ?_;clear hXX X hYY Y))|(with_reducible refine k_cid ?_;first | refine k_ctl rfl ?_ | refine k_cfl rfl ?_)|(with_reducible refine a_id ?_;first | refine a_passl rfl rfl rfl rfl ?_ | refine a_runl rfl rfl rfl ?_ | refine a_pul rfl rfl rfl rfl ?_)|(with_reducible refine d_id ?_;first | refine d_passl rfl rfl rfl rfl ?_ | refine d_runl rfl rfl rfl ?_ | refine d_pul rfl rfl rfl rfl ?_ | refine d_end hN (by apply Exists.intro;apply And.intro;(repeat' (first | apply FtI.nil | apply FI.nil | apply FI.cons | apply FtI.cons));kernel_rfl) ?_)|((first | (with_reducible first | refine a_opd rfl rfl fun K hK => ?_ | refine d_opd rfl rfl fun K hKD => ?_ | refine a_opn rfl rfl fun K hKN => ?_ | refine d_opn rfl rfl fun K hKE => ?_ | refine k_cond fun X Y hXX hYY => ?_ | refine FN_new ?_)|(with_reducible refine a_id ?_;refine a_guard rfl rfl fun X Y hXX hYY => ?_)|(with_reducible refine d_id ?_;refine d_guard rfl rfl fun X Y hXX hYY => ?_));simp (disch := first | decide | omega | (simp only [List.length_cons, List.length_nil];omega)) only [go_sem, beq_self_eq_true, ↓tmL_cons, ↓hpL_get hN, hpL_set hN, reduceIte, reduceCtorEq, Nat.reduceAdd, Nat.reduceLT, Nat.reduceLeDiff, Nat.reduceEqDiff, Nat.reduceSub])|(with_reducible refine And.intro (fun h => ?_) (fun h => ?_) <;> try (exfalso;omega))|(with_reducible refine k_reg tiOK hN rfl ?_ ?_;kernel_rfl)|(with_reducible refine k_drawn tiOK hN rfl ?_ ?_ ?_ ?_;(kernel_rfl);(kernel_rfl);(kernel_rfl))|(refine k_call (hb) ?_ rfl (fun _ => rfl) ?_;focus ((repeat' (first | (with_reducible first | exact Args_nil | refine Args_cons ?_ ?_ | exact ag_c _ | refine ag_agg ?_ | exact ag_elA _ | exact ag_el _ _ | refine ag_fn ?_ | exact ag_unn _) | exact ag_box hN rfl rfl | (refine ag_fz hN rfl ?_;first | exact RdLe.refl _ | exact RdLe.unn _) | exact ag_nul rfl rfl rfl));done))|(with_reducible first | exact Args_nil | refine Args_cons ?_ ?_ | exact ag_c _ | refine ag_agg ?_ | exact ag_elA _ | exact ag_el _ _ | refine ag_fn ?_ | exact ag_unn _) | exact ag_box hN rfl rfl | (refine ag_fz hN rfl ?_;first | exact RdLe.refl _ | exact RdLe.unn _) | exact ag_nul rfl rfl rfl | (simp only [hpUp, List.map_nil])|(with_reducible refine FN_nil ?_)|(with_reducible refine And.intro ?_ ?_)|(refine prop_id ?_;omega)|(exact nm_ne hN (by decide))))
  (refine k_loop (fun (k : Nat) => (tmL [(8, .c (.int .i64 k)), (7, .sl (ν 2)), (4, .ad (ν 1) 0), (3, .ad (ν 0) 0), (2, .c (.B (mks g.prio.length (Pul g s))))], hpL hp0 ν [.box [.c (.I (gmOf g).own), .c (.I (gmOf g).prio), .c (.R (gmOf g).nxt), .c (.R (gmOf g).prev), .c (.I (gmOf g).pick)], stE s, .arr 4 .yes (.B (mks g.prio.length (Blw g s s.at_)))])) (fun (k : Nat) => k ≤ g.prio.length ∧ ∀ v, v < k → CV g s v) (fun (k : Nat) => g.prio.length - k) ⟨0, ?_, le_L hX hN [] ?_ ?_⟩ ?_;(repeat' (first | (with_reducible first | exact LEs.nil _ | exact LTs.nil | exact LVs.nil | refine LEs.cons ?_ ?_ | refine LVs.cons ?_ ?_ | exact lv_any _ | exact lv_c _ | exact le_dead _ | rfl | exact lv_el _ _ | refine lv_agg ?_ | exact lv_k _ | refine lv_fn ?_) | refine LTs.cons rfl ?_ ?_ | exact lv_sl hN _ rfl rfl rfl | exact lv_ad hN _ rfl rfl rfl | exact lv_fzb hN _ rfl rfl rfl (Or.inr rfl)|(refine lv_fz hN _ rfl rfl (by first | exact Or.inr rfl | exact Or.inl rfl) ?_;first | exact RdLe.refl _ | exact RdLe.unn _) | refine le_box hN rfl ?_ | refine le_arr hN rfl rfl ?_ | exact lv_nul hN _ rfl rfl | exact le_new hN rfl rfl rfl rfl | (with_reducible first | refine lv_eq ?_ | refine congrArg C.B ?_ | refine congrArg C.I ?_ | refine congrArg C.R ?_ | refine congrArg (C.int _) ?_ | refine congrArg C.bool ?_)));(try (any_goals (first | (with_reducible rfl)|(refine prop_id ?_;omega)))))
  · exact ⟨Nat.zero_le _, fun v h => absurd h (Nat.not_lt_zero _)⟩
  rintro k ⟨hk, ho'⟩
  have ho := Lib.hid ho'
  clear ho'
  rcases Nat.lt_or_ge k g.prio.length with hkl | hkl
  · have c1 := l7Degree_s (gmOf g) g.prio.length hgm (mks g.prio.length (Pul g s)) hw1 k (by omega) (by omega)
    have c2 := l11Leaves_f (gmOf g) g.prio.length hgm (mks g.prio.length (Pul g s)) (mks g.prio.length (Blw g s s.at_)) hw1 hw2 k hkl
    have hgb := Lib.hid (gb_mks_t (n := g.prio.length) (v := k) (p := Pul g s))
    have hd := Lib.hid (deg_pul hg (s := s) hkl)
    have hv := Lib.hid (leaves_pul hg (s := s) hkl)
    have hnx : CV g s k → ∀ v, v < k + 1 → CV g s v := fun h' v hi => by
      rcases Nat.lt_or_ge v k with h1 | h1
      · exact ho.out v h1
      · obtain rfl : v = k := by omega
        exact h'
    have hnx' := Lib.hid hnx
    clear hnx
    (repeat' (first | (with_reducible first | (refine hK _ _ ?_;clear hK K)|(refine hKN _ ?_;clear hKN K)|(refine hKD _ _ _ ?_;clear hKD K)|(refine hKE _ _ ?_;clear hKE K) | refine k_seq ?_ | refine n_sq ?_ | refine a_nil ?_ | refine k_label ?_ | refine k_block ?_ | refine n_bk ?_ | refine k_exit ?_ | refine n_sqx ?_ | refine n_kx ?_ | refine n_bkx ?_ | refine n_bkn rfl ?_ | refine k_ret ?_ | refine n_sqr ?_ | refine n_kr ?_ | refine n_bkr ?_ | refine k_skip ?_ | refine n_k ?_ | refine n_end ?_ | (refine hXX ?_;clear hXX X hYY Y)|(refine hYY ?_;clear hXX X hYY Y))|(with_reducible refine k_cid ?_;first | refine k_ctl rfl ?_ | refine k_cfl rfl ?_)|(with_reducible refine a_id ?_;first | refine a_passl rfl rfl rfl rfl ?_ | refine a_runl rfl rfl rfl ?_ | refine a_pul rfl rfl rfl rfl ?_)|(with_reducible refine d_id ?_;first | refine d_passl rfl rfl rfl rfl ?_ | refine d_runl rfl rfl rfl ?_ | refine d_pul rfl rfl rfl rfl ?_ | refine d_end hN (by apply Exists.intro;apply And.intro;(repeat' (first | apply FtI.nil | apply FI.nil | apply FI.cons | apply FtI.cons));kernel_rfl) ?_)|((first | (with_reducible first | refine a_opd rfl rfl fun K hK => ?_ | refine d_opd rfl rfl fun K hKD => ?_ | refine a_opn rfl rfl fun K hKN => ?_ | refine d_opn rfl rfl fun K hKE => ?_ | refine k_cond fun X Y hXX hYY => ?_ | refine FN_new ?_)|(with_reducible refine a_id ?_;refine a_guard rfl rfl fun X Y hXX hYY => ?_)|(with_reducible refine d_id ?_;refine d_guard rfl rfl fun X Y hXX hYY => ?_));simp (disch := first | decide | omega | (simp only [List.length_cons, List.length_nil];omega)) only [go_sem, beq_self_eq_true, ↓tmL_cons, ↓hpL_get hN, hpL_set hN, reduceIte, reduceCtorEq, Nat.reduceAdd, Nat.reduceLT, Nat.reduceLeDiff, Nat.reduceEqDiff, Nat.reduceSub])|(with_reducible refine And.intro (fun h => ?_) (fun h => ?_) <;> try (exfalso;omega))|(with_reducible refine k_reg tiOK hN rfl ?_ ?_;kernel_rfl)|(with_reducible refine k_drawn tiOK hN rfl ?_ ?_ ?_ ?_;(kernel_rfl);(kernel_rfl);(kernel_rfl))|(refine k_call (c1) ?_ rfl (fun _ => rfl) ?_;focus ((repeat' (first | (with_reducible first | exact Args_nil | refine Args_cons ?_ ?_ | exact ag_c _ | refine ag_agg ?_ | exact ag_elA _ | exact ag_el _ _ | refine ag_fn ?_ | exact ag_unn _) | exact ag_box hN rfl rfl | (refine ag_fz hN rfl ?_;first | exact RdLe.refl _ | exact RdLe.unn _) | exact ag_nul rfl rfl rfl));done))|(refine k_call (c2) ?_ rfl (fun _ => rfl) ?_;focus ((repeat' (first | (with_reducible first | exact Args_nil | refine Args_cons ?_ ?_ | exact ag_c _ | refine ag_agg ?_ | exact ag_elA _ | exact ag_el _ _ | refine ag_fn ?_ | exact ag_unn _) | exact ag_box hN rfl rfl | (refine ag_fz hN rfl ?_;first | exact RdLe.refl _ | exact RdLe.unn _) | exact ag_nul rfl rfl rfl));done))|(with_reducible first | exact Args_nil | refine Args_cons ?_ ?_ | exact ag_c _ | refine ag_agg ?_ | exact ag_elA _ | exact ag_el _ _ | refine ag_fn ?_ | exact ag_unn _) | exact ag_box hN rfl rfl | (refine ag_fz hN rfl ?_;first | exact RdLe.refl _ | exact RdLe.unn _) | exact ag_nul rfl rfl rfl | (simp only [hpUp, List.map_nil])|(with_reducible refine FN_nil ?_)|(with_reducible refine And.intro ?_ ?_)|(refine prop_id ?_;omega)|(exact nm_ne hN (by decide))))
    · (refine ⟨k + 1, ⟨?_, ?_⟩, le_L hX hN [] ?_ ?_⟩;(try any_goals dsimp only);(repeat' (first | (with_reducible first | exact LEs.nil _ | exact LTs.nil | exact LVs.nil | refine LEs.cons ?_ ?_ | refine LVs.cons ?_ ?_ | exact lv_any _ | exact lv_c _ | exact le_dead _ | rfl | exact lv_el _ _ | refine lv_agg ?_ | exact lv_k _ | refine lv_fn ?_) | refine LTs.cons rfl ?_ ?_ | exact lv_sl hN _ rfl rfl rfl | exact lv_ad hN _ rfl rfl rfl | exact lv_fzb hN _ rfl rfl rfl (Or.inr rfl)|(refine lv_fz hN _ rfl rfl (by first | exact Or.inr rfl | exact Or.inl rfl) ?_;first | exact RdLe.refl _ | exact RdLe.unn _) | refine le_box hN rfl ?_ | refine le_arr hN rfl rfl ?_ | exact lv_nul hN _ rfl rfl | exact le_new hN rfl rfl rfl rfl | (with_reducible first | refine lv_eq ?_ | refine congrArg C.B ?_ | refine congrArg C.I ?_ | refine congrArg C.R ?_ | refine congrArg (C.int _) ?_ | refine congrArg C.bool ?_)));(try (any_goals (first | (with_reducible rfl)|(refine prop_id ?_;omega)))))
      refine ⟨by omega, hnx'.out fun hp => ?_⟩
      rw [hgb.out.2 ⟨hkl, hp⟩] at h
      cases h
    · (refine ret_c (.inr rfl) (by first | rfl | (simp (disch := first | decide | omega | (simp only [List.length_cons, List.length_nil];omega)) only [resV, resL, resA, boxA, go_sem, beq_self_eq_true, ↓tmL_cons, ↓hpL_get hN, hpL_set hN, reduceIte, reduceCtorEq, Nat.reduceAdd, Nat.reduceLT, Nat.reduceLeDiff, Nat.reduceEqDiff, Nat.reduceSub];rfl)) ?_)
      refine congrArg C.bool (tf_false fun hA => ?_).symm
      exact hd.out.1 (by omega) ((hA k hkl (hgb.out.1 (by assumption)).2).1 (by assumption))
    · (refine ⟨k + 1, ⟨?_, ?_⟩, le_L hX hN [] ?_ ?_⟩;(try any_goals dsimp only);(repeat' (first | (with_reducible first | exact LEs.nil _ | exact LTs.nil | exact LVs.nil | refine LEs.cons ?_ ?_ | refine LVs.cons ?_ ?_ | exact lv_any _ | exact lv_c _ | exact le_dead _ | rfl | exact lv_el _ _ | refine lv_agg ?_ | exact lv_k _ | refine lv_fn ?_) | refine LTs.cons rfl ?_ ?_ | exact lv_sl hN _ rfl rfl rfl | exact lv_ad hN _ rfl rfl rfl | exact lv_fzb hN _ rfl rfl rfl (Or.inr rfl)|(refine lv_fz hN _ rfl rfl (by first | exact Or.inr rfl | exact Or.inl rfl) ?_;first | exact RdLe.refl _ | exact RdLe.unn _) | refine le_box hN rfl ?_ | refine le_arr hN rfl rfl ?_ | exact lv_nul hN _ rfl rfl | exact le_new hN rfl rfl rfl rfl | (with_reducible first | refine lv_eq ?_ | refine congrArg C.B ?_ | refine congrArg C.I ?_ | refine congrArg C.R ?_ | refine congrArg (C.int _) ?_ | refine congrArg C.bool ?_)));(try (any_goals (first | (with_reducible rfl)|(refine prop_id ?_;omega)))))
      have e1 : gi g.ar.own k = s.at_.tmod 2 := by assumption
      refine ⟨by omega, hnx'.out fun hp => ⟨fun _ => Classical.byContradiction fun hn => ?_, fun hne => absurd e1 hne⟩⟩
      have e2 : ((deg (gmOf g) (mks g.prio.length (Pul g s)) k : Int) == 0) = false := by assumption
      rw [hd.out.2 hn] at e2
      cases e2
    · (refine ret_c (.inr rfl) (by first | rfl | (simp (disch := first | decide | omega | (simp only [List.length_cons, List.length_nil];omega)) only [resV, resL, resA, boxA, go_sem, beq_self_eq_true, ↓tmL_cons, ↓hpL_get hN, hpL_set hN, reduceIte, reduceCtorEq, Nat.reduceAdd, Nat.reduceLT, Nat.reduceLeDiff, Nat.reduceEqDiff, Nat.reduceSub];rfl)) ?_)
      refine congrArg C.bool (tf_false fun hA => ?_).symm
      exact hv.out.1 h ((hA k hkl (hgb.out.1 (by assumption)).2).2 (by assumption))
    · (refine ⟨k + 1, ⟨?_, ?_⟩, le_L hX hN [] ?_ ?_⟩;(try any_goals dsimp only);(repeat' (first | (with_reducible first | exact LEs.nil _ | exact LTs.nil | exact LVs.nil | refine LEs.cons ?_ ?_ | refine LVs.cons ?_ ?_ | exact lv_any _ | exact lv_c _ | exact le_dead _ | rfl | exact lv_el _ _ | refine lv_agg ?_ | exact lv_k _ | refine lv_fn ?_) | refine LTs.cons rfl ?_ ?_ | exact lv_sl hN _ rfl rfl rfl | exact lv_ad hN _ rfl rfl rfl | exact lv_fzb hN _ rfl rfl rfl (Or.inr rfl)|(refine lv_fz hN _ rfl rfl (by first | exact Or.inr rfl | exact Or.inl rfl) ?_;first | exact RdLe.refl _ | exact RdLe.unn _) | refine le_box hN rfl ?_ | refine le_arr hN rfl rfl ?_ | exact lv_nul hN _ rfl rfl | exact le_new hN rfl rfl rfl rfl | (with_reducible first | refine lv_eq ?_ | refine congrArg C.B ?_ | refine congrArg C.I ?_ | refine congrArg C.R ?_ | refine congrArg (C.int _) ?_ | refine congrArg C.bool ?_)));(try (any_goals (first | (with_reducible rfl)|(refine prop_id ?_;omega)))))
      refine ⟨by omega, hnx'.out fun hp => ⟨fun e1 => absurd e1 (by assumption), fun _ => Classical.byContradiction fun hn => h (hv.out.2 hn)⟩⟩
    · have e1 : (gi (gmOf g).own k == s.at_.tmod 2) = false := by assumption
      have e2 : (gi (gmOf g).own k != s.at_.tmod 2) = false := h
      simp [bne, e1] at e2
  obtain rfl : k = g.prio.length := by omega
  (repeat' (first | (with_reducible first | (refine hK _ _ ?_;clear hK K)|(refine hKN _ ?_;clear hKN K)|(refine hKD _ _ _ ?_;clear hKD K)|(refine hKE _ _ ?_;clear hKE K) | refine k_seq ?_ | refine n_sq ?_ | refine a_nil ?_ | refine k_label ?_ | refine k_block ?_ | refine n_bk ?_ | refine k_exit ?_ | refine n_sqx ?_ | refine n_kx ?_ | refine n_bkx ?_ | refine n_bkn rfl ?_ | refine k_ret ?_ | refine n_sqr ?_ | refine n_kr ?_ | refine n_bkr ?_ | refine k_skip ?_ | refine n_k ?_ | refine n_end ?_ | (refine hXX ?_;clear hXX X hYY Y)|(refine hYY ?_;clear hXX X hYY Y))|(with_reducible refine k_cid ?_;first | refine k_ctl rfl ?_ | refine k_cfl rfl ?_)|(with_reducible refine a_id ?_;first | refine a_passl rfl rfl rfl rfl ?_ | refine a_runl rfl rfl rfl ?_ | refine a_pul rfl rfl rfl rfl ?_)|(with_reducible refine d_id ?_;first | refine d_passl rfl rfl rfl rfl ?_ | refine d_runl rfl rfl rfl ?_ | refine d_pul rfl rfl rfl rfl ?_ | refine d_end hN (by apply Exists.intro;apply And.intro;(repeat' (first | apply FtI.nil | apply FI.nil | apply FI.cons | apply FtI.cons));kernel_rfl) ?_)|((first | (with_reducible first | refine a_opd rfl rfl fun K hK => ?_ | refine d_opd rfl rfl fun K hKD => ?_ | refine a_opn rfl rfl fun K hKN => ?_ | refine d_opn rfl rfl fun K hKE => ?_ | refine k_cond fun X Y hXX hYY => ?_ | refine FN_new ?_)|(with_reducible refine a_id ?_;refine a_guard rfl rfl fun X Y hXX hYY => ?_)|(with_reducible refine d_id ?_;refine d_guard rfl rfl fun X Y hXX hYY => ?_));simp (disch := first | decide | omega | (simp only [List.length_cons, List.length_nil];omega)) only [go_sem, beq_self_eq_true, ↓tmL_cons, ↓hpL_get hN, hpL_set hN, reduceIte, reduceCtorEq, Nat.reduceAdd, Nat.reduceLT, Nat.reduceLeDiff, Nat.reduceEqDiff, Nat.reduceSub])|(with_reducible refine And.intro (fun h => ?_) (fun h => ?_) <;> try (exfalso;omega))|(with_reducible refine k_reg tiOK hN rfl ?_ ?_;kernel_rfl)|(with_reducible refine k_drawn tiOK hN rfl ?_ ?_ ?_ ?_;(kernel_rfl);(kernel_rfl);(kernel_rfl))|(with_reducible refine And.intro ?_ ?_)|(refine prop_id ?_;omega)|(exact nm_ne hN (by decide))))
  (refine ret_c (.inr rfl) (by first | rfl | (simp (disch := first | decide | omega | (simp only [List.length_cons, List.length_nil];omega)) only [resV, resL, resA, boxA, go_sem, beq_self_eq_true, ↓tmL_cons, ↓hpL_get hN, hpL_set hN, reduceIte, reduceCtorEq, Nat.reduceAdd, Nat.reduceLT, Nat.reduceLeDiff, Nat.reduceEqDiff, Nat.reduceSub];rfl)) ?_)
  exact congrArg C.bool (tf_true ho.out).symm
end Go.Proofs.Ytfmnikiinfbanaa
