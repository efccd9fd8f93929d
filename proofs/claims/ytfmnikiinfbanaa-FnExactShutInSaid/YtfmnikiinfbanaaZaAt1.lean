/-
  Attraction by ranks: the program's.
-/
import Derived.Test.YtfmnikiinfbanaaZaE8
import Derived.Test.YtfmnikiinfbanaaZaCe
import Derived.Test.YtfmnikiinfbanaaZaKf
import Derived.Test.YtfmnikiinfbanaaZaG1
namespace Go.Proofs.Ytfmnikiinfbanaa
set_option linter.unusedVariables false
set_option linter.unusedSimpArgs false
open Go.RowKit
attribute [local irreducible] FunSpec CallR Aw Le
theorem tf_exs (k : Nat) (P : Nat → Prop) : tf (∃ j, j < k + 1 ∧ P j) = (tf (∃ j, j < k ∧ P j) || tf (P k)) := by
  by_cases h : ∃ j, j < k ∧ P j
  · rw [tf_true h, Bool.true_or, tf_true (let ⟨j, h1, h2⟩ := h; ⟨j, by omega, h2⟩)]
  · rw [tf_false h, Bool.false_or]
    exact tf_congr ⟨fun ⟨j, h1, h2⟩ => by
      rcases Nat.lt_or_ge j k with h' | h'
      · exact absurd ⟨j, h', h2⟩ h
      · rwa [show j = k by omega] at h2, fun h' => ⟨k, by omega, h'⟩⟩
theorem tf_alls (k : Nat) (P : Nat → Prop) : tf (∀ j, j < k + 1 → P j) = (tf (∀ j, j < k → P j) && tf (P k)) := by
  by_cases h : ∀ j, j < k → P j
  · rw [tf_true h, Bool.true_and]
    exact tf_congr ⟨fun h' => h' k (by omega), fun h' => all_succ h h'⟩
  · rw [tf_false h, Bool.false_and, tf_false fun h' => h fun j hj => h' j (by omega)]
def PulP (a : Ar) (who : Int) (ws : List Bool) (rs : List Int) (v : Nat) : Prop :=
  (gi a.own v = who ∧ ∃ i, i < (gr a.nxt v).length ∧ gb ws (gi (gr a.nxt v) i).toNat = true ∧ 0 ≤ gi rs (gi (gr a.nxt v) i).toNat) ∨
  (¬ gi a.own v = who ∧ (∃ i, i < (gr a.nxt v).length ∧ gb ws (gi (gr a.nxt v) i).toNat = true) ∧ ∀ i, i < (gr a.nxt v).length → gb ws (gi (gr a.nxt v) i).toNat = true → 0 ≤ gi rs (gi (gr a.nxt v) i).toNat)
theorem nxtA {a : Ar} (ha : ArOk a) {v i : Nat} (hv : v < a.own.length) (hi : i < (gr a.nxt v).length) : 0 ≤ gi (gr a.nxt v) i ∧ gi (gr a.nxt v) i < a.own.length := (ha.vert v hv).2.2.2.2.bnd i hi
set_option maxHeartbeats 1000000 in
theorem isPulled_f (a : Ar) (ha : ArOk a) (who : Int) (ws : List Bool) (hws : ws.length = a.own.length) (rs : List Int) (hrs : rs.length = a.own.length) (v : Nat) (hv : v < a.own.length) : FunSpec Try.prog 130 [arA a, .c (.int .i64 who), .c (.B ws), .c (.I rs), .c (.int .i64 v)] [] (fun _ => .c (.bool (tf (PulP a who ws rs v)))) := by
  have hle := ha.le
  have hnl := ha.len
  have hvt := (ha.vert v hv).2.2
  obtain ⟨hv1, hv2, _⟩ := hvt
  (refine f_intro tiOK Try.func130 rfl rfl (by kernel_rfl) fun hp0 ν hX hN => ?_; simp only [numT, Nat.reduceAdd])
  (repeat' (first | (with_reducible first | (refine hK _ _ ?_; clear hK K) | (refine hKN _ ?_; clear hKN K) | (refine hKD _ _ _ ?_; clear hKD K) | (refine hKE _ _ ?_; clear hKE K) | refine k_seq ?_ | refine n_sq ?_ | refine a_nil ?_ | refine k_label ?_ | refine k_block ?_ | refine n_bk ?_ | refine k_exit ?_ | refine n_sqx ?_ | refine n_kx ?_ | refine n_bkx ?_ | refine n_bkn rfl ?_ | refine k_ret ?_ | refine n_sqr ?_ | refine n_kr ?_ | refine n_bkr ?_ | refine k_skip ?_ | refine n_k ?_ | refine n_end ?_ | (refine hXX ?_; clear hXX X hYY Y) | (refine hYY ?_; clear hXX X hYY Y)) | (with_reducible refine k_cid ?_; first | refine k_ctl rfl ?_ | refine k_cfl rfl ?_) | (with_reducible refine a_id ?_; first | refine a_passl rfl rfl rfl rfl ?_ | refine a_runl rfl rfl rfl ?_ | refine a_pul rfl rfl rfl rfl ?_) | (with_reducible refine d_id ?_; first | refine d_passl rfl rfl rfl rfl ?_ | refine d_runl rfl rfl rfl ?_ | refine d_pul rfl rfl rfl rfl ?_ | refine d_end hN (by apply Exists.intro; apply And.intro; (repeat' (first | apply FtI.nil | apply FI.nil | apply FI.cons | apply FtI.cons)); kernel_rfl) ?_) | ((first | (with_reducible first | refine a_opd rfl rfl fun K hK => ?_ | refine d_opd rfl rfl fun K hKD => ?_ | refine a_opn rfl rfl fun K hKN => ?_ | refine d_opn rfl rfl fun K hKE => ?_ | refine k_cond fun X Y hXX hYY => ?_ | refine FN_new ?_) | (with_reducible refine a_id ?_; refine a_guard rfl rfl fun X Y hXX hYY => ?_) | (with_reducible refine d_id ?_; refine d_guard rfl rfl fun X Y hXX hYY => ?_)); simp (disch := first | decide | omega | (simp only [List.length_cons, List.length_nil]; omega)) only [go_sem, beq_self_eq_true, ↓tmL_cons, ↓hpL_get hN, hpL_set hN, reduceIte, reduceCtorEq, Nat.reduceAdd, Nat.reduceLT, Nat.reduceLeDiff, Nat.reduceEqDiff, Nat.reduceSub]) | (with_reducible refine And.intro (fun h => ?_) (fun h => ?_) <;> try (exfalso; omega)) | (with_reducible refine k_reg tiOK hN rfl ?_ ?_; kernel_rfl) | (with_reducible refine k_drawn tiOK hN rfl ?_ ?_ ?_ ?_; (kernel_rfl); (kernel_rfl); (kernel_rfl)) | (with_reducible refine And.intro ?_ ?_) | (refine prop_id ?_; omega) | (exact nm_ne hN (by decide))))
  (refine k_loop (fun (k : Nat) => (tmL [(22, .c (.int .i64 k)), (21, .c (.int .i64 (gr a.nxt v).length)), (20, .c (.I (gr a.nxt v))), (11, .c (.bool (tf (∃ j, j < k ∧ gb ws (gi (gr a.nxt v) j).toNat = true ∧ 0 ≤ gi rs (gi (gr a.nxt v) j).toNat)))), (12, .c (.bool (tf (∀ j, j < k → gb ws (gi (gr a.nxt v) j).toNat = true → 0 ≤ gi rs (gi (gr a.nxt v) j).toNat)))), (13, .c (.bool (tf (∃ j, j < k ∧ gb ws (gi (gr a.nxt v) j).toNat = true)))), (2, .c (.B ws)), (3, .c (.I rs)), (1, .c (.int .i64 who)), (4, .c (.int .i64 v)), (5, .ad (ν 0) 0)], hpL hp0 ν [.box [.c (.I a.own), .c (.R a.nxt)]])) (fun (k : Nat) => k ≤ (gr a.nxt v).length) (fun (k : Nat) => (gr a.nxt v).length - k) ⟨0, ?_, le_L hX hN [] ?_ ?_⟩ ?_; (repeat' (first | (with_reducible first | exact LEs.nil _ | exact LTs.nil | exact LVs.nil | refine LEs.cons ?_ ?_ | refine LVs.cons ?_ ?_ | exact lv_any _ | exact lv_c _ | exact le_dead _ | rfl | exact lv_el _ _ | refine lv_agg ?_ | exact lv_k _ | refine lv_fn ?_) | refine LTs.cons rfl ?_ ?_ | exact lv_sl hN _ rfl rfl rfl | exact lv_ad hN _ rfl rfl rfl | exact lv_fzb hN _ rfl rfl rfl (Or.inr rfl) | (refine lv_fz hN _ rfl rfl (by first | exact Or.inr rfl | exact Or.inl rfl) ?_; first | exact RdLe.refl _ | exact RdLe.unn _) | refine le_box hN rfl ?_ | refine le_arr hN rfl rfl ?_ | exact lv_nul hN _ rfl rfl | exact le_new hN rfl rfl rfl rfl | (with_reducible first | refine lv_eq ?_ | refine congrArg C.B ?_ | refine congrArg C.I ?_ | refine congrArg C.R ?_ | refine congrArg (C.int _) ?_ | refine congrArg C.bool ?_))); (try (any_goals (first | (with_reducible rfl) | (refine prop_id ?_; omega)))))
  · exact (tf_false fun ⟨j, h, _⟩ => absurd h (Nat.not_lt_zero _)).symm
  · exact (tf_true fun j h => absurd h (Nat.not_lt_zero _)).symm
  · exact (tf_false fun ⟨j, h, _⟩ => absurd h (Nat.not_lt_zero _)).symm
  intro k hk
  have hn := fun h => nxtA ha hv (i := k) h
  have e1 := tf_exs k fun j => gb ws (gi (gr a.nxt v) j).toNat = true ∧ 0 ≤ gi rs (gi (gr a.nxt v) j).toNat
  have e2 := tf_alls k fun j => gb ws (gi (gr a.nxt v) j).toNat = true → 0 ≤ gi rs (gi (gr a.nxt v) j).toNat
  have e3 := tf_exs k fun j => gb ws (gi (gr a.nxt v) j).toNat = true
  generalize hSo : tf (∃ j, j < k ∧ gb ws (gi (gr a.nxt v) j).toNat = true ∧ 0 ≤ gi rs (gi (gr a.nxt v) j).toNat) = so at *
  generalize hAl : tf (∀ j, j < k → gb ws (gi (gr a.nxt v) j).toNat = true → 0 ≤ gi rs (gi (gr a.nxt v) j).toNat) = al at *
  generalize hIn : tf (∃ j, j < k ∧ gb ws (gi (gr a.nxt v) j).toNat = true) = ins at *
  clear e1 e2 e3
  (repeat' (first | (with_reducible first | (refine hK _ _ ?_; clear hK K) | (refine hKN _ ?_; clear hKN K) | (refine hKD _ _ _ ?_; clear hKD K) | (refine hKE _ _ ?_; clear hKE K) | refine k_seq ?_ | refine n_sq ?_ | refine a_nil ?_ | refine k_label ?_ | refine k_block ?_ | refine n_bk ?_ | refine k_exit ?_ | refine n_sqx ?_ | refine n_kx ?_ | refine n_bkx ?_ | refine n_bkn rfl ?_ | refine k_ret ?_ | refine n_sqr ?_ | refine n_kr ?_ | refine n_bkr ?_ | refine k_skip ?_ | refine n_k ?_ | refine n_end ?_ | (refine hXX ?_; clear hXX X hYY Y) | (refine hYY ?_; clear hXX X hYY Y)) | (with_reducible refine k_cid ?_; first | refine k_ctl rfl ?_ | refine k_cfl rfl ?_) | (with_reducible refine a_id ?_; first | refine a_passl rfl rfl rfl rfl ?_ | refine a_runl rfl rfl rfl ?_ | refine a_pul rfl rfl rfl rfl ?_) | (with_reducible refine d_id ?_; first | refine d_passl rfl rfl rfl rfl ?_ | refine d_runl rfl rfl rfl ?_ | refine d_pul rfl rfl rfl rfl ?_ | refine d_end hN (by apply Exists.intro; apply And.intro; (repeat' (first | apply FtI.nil | apply FI.nil | apply FI.cons | apply FtI.cons)); kernel_rfl) ?_) | ((first | (with_reducible first | refine a_opd rfl rfl fun K hK => ?_ | refine d_opd rfl rfl fun K hKD => ?_ | refine a_opn rfl rfl fun K hKN => ?_ | refine d_opn rfl rfl fun K hKE => ?_ | refine k_cond fun X Y hXX hYY => ?_ | refine FN_new ?_) | (with_reducible refine a_id ?_; refine a_guard rfl rfl fun X Y hXX hYY => ?_) | (with_reducible refine d_id ?_; refine d_guard rfl rfl fun X Y hXX hYY => ?_)); simp (disch := first | decide | omega | (simp only [List.length_cons, List.length_nil]; omega)) only [go_sem, beq_self_eq_true, ↓tmL_cons, ↓hpL_get hN, hpL_set hN, reduceIte, reduceCtorEq, Nat.reduceAdd, Nat.reduceLT, Nat.reduceLeDiff, Nat.reduceEqDiff, Nat.reduceSub]) | (with_reducible refine And.intro (fun h => ?_) (fun h => ?_) <;> try (exfalso; omega)) | (with_reducible refine k_reg tiOK hN rfl ?_ ?_; kernel_rfl) | (with_reducible refine k_drawn tiOK hN rfl ?_ ?_ ?_ ?_; (kernel_rfl); (kernel_rfl); (kernel_rfl)) | (with_reducible refine And.intro ?_ ?_) | (refine prop_id ?_; omega) | (exact nm_ne hN (by decide))))
  · (refine ⟨k + 1, ⟨?_, ?_⟩, le_L hX hN [] ?_ ?_⟩; (try any_goals dsimp only); (repeat' (first | (with_reducible first | exact LEs.nil _ | exact LTs.nil | exact LVs.nil | refine LEs.cons ?_ ?_ | refine LVs.cons ?_ ?_ | exact lv_any _ | exact lv_c _ | exact le_dead _ | rfl | exact lv_el _ _ | refine lv_agg ?_ | exact lv_k _ | refine lv_fn ?_) | refine LTs.cons rfl ?_ ?_ | exact lv_sl hN _ rfl rfl rfl | exact lv_ad hN _ rfl rfl rfl | exact lv_fzb hN _ rfl rfl rfl (Or.inr rfl) | (refine lv_fz hN _ rfl rfl (by first | exact Or.inr rfl | exact Or.inl rfl) ?_; first | exact RdLe.refl _ | exact RdLe.unn _) | refine le_box hN rfl ?_ | refine le_arr hN rfl rfl ?_ | exact lv_nul hN _ rfl rfl | exact le_new hN rfl rfl rfl rfl | (with_reducible first | refine lv_eq ?_ | refine congrArg C.B ?_ | refine congrArg C.I ?_ | refine congrArg C.R ?_ | refine congrArg (C.int _) ?_ | refine congrArg C.bool ?_))); (try (any_goals (first | (with_reducible rfl) | (refine prop_id ?_; omega)))))
    all_goals first | rw [tf_exs, hSo] | rw [tf_alls, hAl] | rw [tf_exs, hIn]
    all_goals by_cases hR : 0 ≤ gi rs (gi (gr a.nxt v) k).toNat
    all_goals simp [tf, *]
  · (refine ⟨k + 1, ⟨?_, ?_⟩, le_L hX hN [] ?_ ?_⟩; (try any_goals dsimp only); (repeat' (first | (with_reducible first | exact LEs.nil _ | exact LTs.nil | exact LVs.nil | refine LEs.cons ?_ ?_ | refine LVs.cons ?_ ?_ | exact lv_any _ | exact lv_c _ | exact le_dead _ | rfl | exact lv_el _ _ | refine lv_agg ?_ | exact lv_k _ | refine lv_fn ?_) | refine LTs.cons rfl ?_ ?_ | exact lv_sl hN _ rfl rfl rfl | exact lv_ad hN _ rfl rfl rfl | exact lv_fzb hN _ rfl rfl rfl (Or.inr rfl) | (refine lv_fz hN _ rfl rfl (by first | exact Or.inr rfl | exact Or.inl rfl) ?_; first | exact RdLe.refl _ | exact RdLe.unn _) | refine le_box hN rfl ?_ | refine le_arr hN rfl rfl ?_ | exact lv_nul hN _ rfl rfl | exact le_new hN rfl rfl rfl rfl | (with_reducible first | refine lv_eq ?_ | refine congrArg C.B ?_ | refine congrArg C.I ?_ | refine congrArg C.R ?_ | refine congrArg (C.int _) ?_ | refine congrArg C.bool ?_))); (try (any_goals (first | (with_reducible rfl) | (refine prop_id ?_; omega)))))
    all_goals first | rw [tf_exs, hSo] | rw [tf_alls, hAl] | rw [tf_exs, hIn]
    all_goals by_cases hR : 0 ≤ gi rs (gi (gr a.nxt v) k).toNat
    all_goals simp [tf, *]
  · (refine ⟨k + 1, ⟨?_, ?_⟩, le_L hX hN [] ?_ ?_⟩; (try any_goals dsimp only); (repeat' (first | (with_reducible first | exact LEs.nil _ | exact LTs.nil | exact LVs.nil | refine LEs.cons ?_ ?_ | refine LVs.cons ?_ ?_ | exact lv_any _ | exact lv_c _ | exact le_dead _ | rfl | exact lv_el _ _ | refine lv_agg ?_ | exact lv_k _ | refine lv_fn ?_) | refine LTs.cons rfl ?_ ?_ | exact lv_sl hN _ rfl rfl rfl | exact lv_ad hN _ rfl rfl rfl | exact lv_fzb hN _ rfl rfl rfl (Or.inr rfl) | (refine lv_fz hN _ rfl rfl (by first | exact Or.inr rfl | exact Or.inl rfl) ?_; first | exact RdLe.refl _ | exact RdLe.unn _) | refine le_box hN rfl ?_ | refine le_arr hN rfl rfl ?_ | exact lv_nul hN _ rfl rfl | exact le_new hN rfl rfl rfl rfl | (with_reducible first | refine lv_eq ?_ | refine congrArg C.B ?_ | refine congrArg C.I ?_ | refine congrArg C.R ?_ | refine congrArg (C.int _) ?_ | refine congrArg C.bool ?_))); (try (any_goals (first | (with_reducible rfl) | (refine prop_id ?_; omega)))))
    all_goals first | rw [tf_exs, hSo] | rw [tf_alls, hAl] | rw [tf_exs, hIn]
    all_goals by_cases hR : 0 ≤ gi rs (gi (gr a.nxt v) k).toNat
    all_goals simp [tf, *]
  · (refine ⟨k + 1, ⟨?_, ?_⟩, le_L hX hN [] ?_ ?_⟩; (try any_goals dsimp only); (repeat' (first | (with_reducible first | exact LEs.nil _ | exact LTs.nil | exact LVs.nil | refine LEs.cons ?_ ?_ | refine LVs.cons ?_ ?_ | exact lv_any _ | exact lv_c _ | exact le_dead _ | rfl | exact lv_el _ _ | refine lv_agg ?_ | exact lv_k _ | refine lv_fn ?_) | refine LTs.cons rfl ?_ ?_ | exact lv_sl hN _ rfl rfl rfl | exact lv_ad hN _ rfl rfl rfl | exact lv_fzb hN _ rfl rfl rfl (Or.inr rfl) | (refine lv_fz hN _ rfl rfl (by first | exact Or.inr rfl | exact Or.inl rfl) ?_; first | exact RdLe.refl _ | exact RdLe.unn _) | refine le_box hN rfl ?_ | refine le_arr hN rfl rfl ?_ | exact lv_nul hN _ rfl rfl | exact le_new hN rfl rfl rfl rfl | (with_reducible first | refine lv_eq ?_ | refine congrArg C.B ?_ | refine congrArg C.I ?_ | refine congrArg C.R ?_ | refine congrArg (C.int _) ?_ | refine congrArg C.bool ?_))); (try (any_goals (first | (with_reducible rfl) | (refine prop_id ?_; omega)))))
    all_goals first | rw [tf_exs, hSo] | rw [tf_alls, hAl] | rw [tf_exs, hIn]
    all_goals by_cases hR : 0 ≤ gi rs (gi (gr a.nxt v) k).toNat
    all_goals simp [tf, *]
  · (refine ⟨k + 1, ⟨?_, ?_⟩, le_L hX hN [] ?_ ?_⟩; (try any_goals dsimp only); (repeat' (first | (with_reducible first | exact LEs.nil _ | exact LTs.nil | exact LVs.nil | refine LEs.cons ?_ ?_ | refine LVs.cons ?_ ?_ | exact lv_any _ | exact lv_c _ | exact le_dead _ | rfl | exact lv_el _ _ | refine lv_agg ?_ | exact lv_k _ | refine lv_fn ?_) | refine LTs.cons rfl ?_ ?_ | exact lv_sl hN _ rfl rfl rfl | exact lv_ad hN _ rfl rfl rfl | exact lv_fzb hN _ rfl rfl rfl (Or.inr rfl) | (refine lv_fz hN _ rfl rfl (by first | exact Or.inr rfl | exact Or.inl rfl) ?_; first | exact RdLe.refl _ | exact RdLe.unn _) | refine le_box hN rfl ?_ | refine le_arr hN rfl rfl ?_ | exact lv_nul hN _ rfl rfl | exact le_new hN rfl rfl rfl rfl | (with_reducible first | refine lv_eq ?_ | refine congrArg C.B ?_ | refine congrArg C.I ?_ | refine congrArg C.R ?_ | refine congrArg (C.int _) ?_ | refine congrArg C.bool ?_))); (try (any_goals (first | (with_reducible rfl) | (refine prop_id ?_; omega)))))
    all_goals first | rw [tf_exs, hSo] | rw [tf_alls, hAl] | rw [tf_exs, hIn]
    all_goals by_cases hR : 0 ≤ gi rs (gi (gr a.nxt v) k).toNat
    all_goals simp [tf, *]
  · (refine ret_c (.inr rfl) (by first | rfl | (simp (disch := first | decide | omega | (simp only [List.length_cons, List.length_nil]; omega)) only [resV, resL, resA, boxA, go_sem, beq_self_eq_true, ↓tmL_cons, ↓hpL_get hN, hpL_set hN, reduceIte, reduceCtorEq, Nat.reduceAdd, Nat.reduceLT, Nat.reduceLeDiff, Nat.reduceEqDiff, Nat.reduceSub]; rfl)) ?_)
    rw [show k = (gr a.nxt v).length by omega] at hSo
    rw [← hSo]
    exact congrArg C.bool (tf_congr ⟨fun h => .inl ⟨by assumption, h⟩, fun h => h.elim (fun h => h.2) fun h => absurd (by assumption) h.1⟩)
  · have hne : ¬ gi a.own v = who := by simpa using (by assumption : (gi a.own v == who) = false)
    have h1 : ins = true := by assumption
    rw [← hIn, show k = (gr a.nxt v).length by omega] at h1
    (refine ret_c (.inr rfl) (by first | rfl | (simp (disch := first | decide | omega | (simp only [List.length_cons, List.length_nil]; omega)) only [resV, resL, resA, boxA, go_sem, beq_self_eq_true, ↓tmL_cons, ↓hpL_get hN, hpL_set hN, reduceIte, reduceCtorEq, Nat.reduceAdd, Nat.reduceLT, Nat.reduceLeDiff, Nat.reduceEqDiff, Nat.reduceSub]; rfl)) ?_)
    rw [← hAl, show k = (gr a.nxt v).length by omega]
    exact congrArg C.bool (tf_congr ⟨fun h => .inr ⟨hne, tf_eq.1 h1, h⟩, fun h => h.elim (fun h => absurd h.1 hne) fun h => h.2.2⟩)
  · have hne : ¬ gi a.own v = who := by simpa using (by assumption : (gi a.own v == who) = false)
    have h1 : ins = false := by assumption
    rw [← hIn, show k = (gr a.nxt v).length by omega] at h1
    (refine ret_c (.inr rfl) (by first | rfl | (simp (disch := first | decide | omega | (simp only [List.length_cons, List.length_nil]; omega)) only [resV, resL, resA, boxA, go_sem, beq_self_eq_true, ↓tmL_cons, ↓hpL_get hN, hpL_set hN, reduceIte, reduceCtorEq, Nat.reduceAdd, Nat.reduceLT, Nat.reduceLeDiff, Nat.reduceEqDiff, Nat.reduceSub]; rfl)) ?_)
    exact congrArg C.bool (tf_false fun h => h.elim (fun h => hne h.1) fun h => absurd (tf_true h.2.1) (by rw [h1]; decide)).symm
end Go.Proofs.Ytfmnikiinfbanaa
