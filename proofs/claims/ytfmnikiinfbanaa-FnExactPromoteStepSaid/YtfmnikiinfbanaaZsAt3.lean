/-
  Attraction by ranks: the program's walks.
-/
import Derived.Test.YtfmnikiinfbanaaZsE8
import Derived.Test.YtfmnikiinfbanaaZsCe
import Derived.Test.YtfmnikiinfbanaaZsKf
import Derived.Test.YtfmnikiinfbanaaZsG1
namespace Go.Proofs.Ytfmnikiinfbanaa
set_option linter.unusedVariables false
set_option linter.unusedSimpArgs false
open Go.RowKit
attribute [local irreducible] FunSpec CallR Aw Le
theorem tf_exs (k : Nat) (P : Nat → Prop) : tf (∃ j, j < k + 1 ∧ P j) = (tf (∃ j, j < k ∧ P j) || tf (P k)) := by
  by_cases h : ∃ j, j < k ∧ P j
  · rw [tf_true h, Bool.true_or, tf_true (let ⟨j, h1, h2⟩ := h; ⟨j, by omega, h2⟩)]
  · rw [tf_false h, Bool.false_or]
    exact tf_congr ⟨fun ⟨j, h1, h2⟩ => by
      rcases Nat.lt_or_ge j k with h' | h'
      · exact absurd ⟨j, h', h2⟩ h
      · rwa [show j = k by omega] at h2, fun h' => ⟨k, by omega, h'⟩⟩
theorem tf_alls (k : Nat) (P : Nat → Prop) : tf (∀ j, j < k + 1 → P j) = (tf (∀ j, j < k → P j) && tf (P k)) := by
  by_cases h : ∀ j, j < k → P j
  · rw [tf_true h, Bool.true_and]
    exact tf_congr ⟨fun h' => h' k (by omega), fun h' => all_succ h h'⟩
  · rw [tf_false h, Bool.false_and, tf_false fun h' => h fun j hj => h' j (by omega)]
def PulP (a : Ar) (who : Int) (ws : List Bool) (rs : List Int) (v : Nat) : Prop :=
  (gi a.own v = who ∧ ∃ i, i < (gr a.nxt v).length ∧ gb ws (gi (gr a.nxt v) i).toNat = true ∧ 0 ≤ gi rs (gi (gr a.nxt v) i).toNat) ∨
  (¬ gi a.own v = who ∧ (∃ i, i < (gr a.nxt v).length ∧ gb ws (gi (gr a.nxt v) i).toNat = true) ∧ ∀ i, i < (gr a.nxt v).length → gb ws (gi (gr a.nxt v) i).toNat = true → 0 ≤ gi rs (gi (gr a.nxt v) i).toNat)
theorem nxtA {a : Ar} (ha : ArOk a) {v i : Nat} (hv : v < a.own.length) (hi : i < (gr a.nxt v).length) : 0 ≤ gi (gr a.nxt v) i ∧ gi (gr a.nxt v) i < a.own.length := (ha.vert v hv).2.2.2.2.bnd i hi
set_option maxHeartbeats 1000000 in
theorem isPulled_f (a : Ar) (ha : ArOk a) (who : Int) (ws : List Bool) (hws : ws.length = a.own.length) (rs : List Int) (hrs : rs.length = a.own.length) (v : Nat) (hv : v < a.own.length) : FunSpec Try.prog 130 [arA a, .c (.int .i64 who), .c (.B ws), .c (.I rs), .c (.int .i64 v)] [] (fun _ => .c (.bool (tf (PulP a who ws rs v)))) := by
  have hle := ha.le
  have hnl := ha.len
  have hvt := (ha.vert v hv).2.2
  obtain ⟨hv1, hv2, _⟩ := hvt
  (refine f_intro tiOK Try.func130 rfl rfl (by kernel_rfl) fun hp0 ν hX hN => ?_; simp only [numT, Nat.reduceAdd])
  (repeat' (first | (with_reducible first | (refine hK _ _ ?_; clear hK K) | (refine hKN _ ?_; clear hKN K) | (refine hKD _ _ _ ?_; clear hKD K) | (refine hKE _ _ ?_; clear hKE K) | refine k_seq ?_ | refine n_sq ?_ | refine a_nil ?_ | refine k_label ?_ | refine k_block ?_ | refine n_bk ?_ | refine k_exit ?_ | refine n_sqx ?_ | refine n_kx ?_ | refine n_bkx ?_ | refine n_bkn rfl ?_ | refine k_ret ?_ | refine n_sqr ?_ | refine n_kr ?_ | refine n_bkr ?_ | refine k_skip ?_ | refine n_k ?_ | refine n_end ?_ | (refine hXX ?_; clear hXX X hYY Y) | (refine hYY ?_; clear hXX X hYY Y)) | (with_reducible refine k_cid ?_; first | refine k_ctl rfl ?_ | refine k_cfl rfl ?_) | (with_reducible refine a_id ?_; first | refine a_passl rfl rfl rfl rfl ?_ | refine a_runl rfl rfl rfl ?_ | refine a_pul rfl rfl rfl rfl ?_) | (with_reducible refine d_id ?_; first | refine d_passl rfl rfl rfl rfl ?_ | refine d_runl rfl rfl rfl ?_ | refine d_pul rfl rfl rfl rfl ?_ | refine d_end hN (by apply Exists.intro; apply And.intro; (repeat' (first | apply FtI.nil | apply FI.nil | apply FI.cons | apply FtI.cons)); kernel_rfl) ?_) | ((first | (with_reducible first | refine a_opd rfl rfl fun K hK => ?_ | refine d_opd rfl rfl fun K hKD => ?_ | refine a_opn rfl rfl fun K hKN => ?_ | refine d_opn rfl rfl fun K hKE => ?_ | refine k_cond fun X Y hXX hYY => ?_ | refine FN_new ?_) | (with_reducible refine a_id ?_; refine a_guard rfl rfl fun X Y hXX hYY => ?_) | (with_reducible refine d_id ?_; refine d_guard rfl rfl fun X Y hXX hYY => ?_)); simp (disch := first | decide | omega | (simp only [List.length_cons, List.length_nil]; omega)) only [go_sem, beq_self_eq_true, ↓tmL_cons, ↓hpL_get hN, hpL_set hN, reduceIte, reduceCtorEq, Nat.reduceAdd, Nat.reduceLT, Nat.reduceLeDiff, Nat.reduceEqDiff, Nat.reduceSub]) | (with_reducible refine And.intro (fun h => ?_) (fun h => ?_) <;> try (exfalso; omega)) | (with_reducible refine k_reg tiOK hN rfl ?_ ?_; kernel_rfl) | (with_reducible refine k_drawn tiOK hN rfl ?_ ?_ ?_ ?_; (kernel_rfl); (kernel_rfl); (kernel_rfl)) | (with_reducible refine And.intro ?_ ?_) | (refine prop_id ?_; omega) | (exact nm_ne hN (by decide))))
  (refine k_loop (fun (k : Nat) => (tmL [(22, .c (.int .i64 k)), (21, .c (.int .i64 (gr a.nxt v).length)), (20, .c (.I (gr a.nxt v))), (11, .c (.bool (tf (∃ j, j < k ∧ gb ws (gi (gr a.nxt v) j).toNat = true ∧ 0 ≤ gi rs (gi (gr a.nxt v) j).toNat)))), (12, .c (.bool (tf (∀ j, j < k → gb ws (gi (gr a.nxt v) j).toNat = true → 0 ≤ gi rs (gi (gr a.nxt v) j).toNat)))), (13, .c (.bool (tf (∃ j, j < k ∧ gb ws (gi (gr a.nxt v) j).toNat = true)))), (2, .c (.B ws)), (3, .c (.I rs)), (1, .c (.int .i64 who)), (4, .c (.int .i64 v)), (5, .ad (ν 0) 0)], hpL hp0 ν [.box [.c (.I a.own), .c (.R a.nxt)]])) (fun (k : Nat) => k ≤ (gr a.nxt v).length) (fun (k : Nat) => (gr a.nxt v).length - k) ⟨0, ?_, le_L hX hN [] ?_ ?_⟩ ?_; (repeat' (first | (with_reducible first | exact LEs.nil _ | exact LTs.nil | exact LVs.nil | refine LEs.cons ?_ ?_ | refine LVs.cons ?_ ?_ | exact lv_any _ | exact lv_c _ | exact le_dead _ | rfl | exact lv_el _ _ | refine lv_agg ?_ | exact lv_k _ | refine lv_fn ?_) | refine LTs.cons rfl ?_ ?_ | exact lv_sl hN _ rfl rfl rfl | exact lv_ad hN _ rfl rfl rfl | exact lv_fzb hN _ rfl rfl rfl (Or.inr rfl) | (refine lv_fz hN _ rfl rfl (by first | exact Or.inr rfl | exact Or.inl rfl) ?_; first | exact RdLe.refl _ | exact RdLe.unn _) | refine le_box hN rfl ?_ | refine le_arr hN rfl rfl ?_ | exact lv_nul hN _ rfl rfl | exact le_new hN rfl rfl rfl rfl | (with_reducible first | refine lv_eq ?_ | refine congrArg C.B ?_ | refine congrArg C.I ?_ | refine congrArg C.R ?_ | refine congrArg (C.int _) ?_ | refine congrArg C.bool ?_))); (try (any_goals (first | (with_reducible rfl) | (refine prop_id ?_; omega)))))
  · exact (tf_false fun ⟨j, h, _⟩ => absurd h (Nat.not_lt_zero _)).symm
  · exact (tf_true fun j h => absurd h (Nat.not_lt_zero _)).symm
  · exact (tf_false fun ⟨j, h, _⟩ => absurd h (Nat.not_lt_zero _)).symm
  intro k hk
  have hn := fun h => nxtA ha hv (i := k) h
  have e1 := tf_exs k fun j => gb ws (gi (gr a.nxt v) j).toNat = true ∧ 0 ≤ gi rs (gi (gr a.nxt v) j).toNat
  have e2 := tf_alls k fun j => gb ws (gi (gr a.nxt v) j).toNat = true → 0 ≤ gi rs (gi (gr a.nxt v) j).toNat
  have e3 := tf_exs k fun j => gb ws (gi (gr a.nxt v) j).toNat = true
  generalize hSo : tf (∃ j, j < k ∧ gb ws (gi (gr a.nxt v) j).toNat = true ∧ 0 ≤ gi rs (gi (gr a.nxt v) j).toNat) = so at *
  generalize hAl : tf (∀ j, j < k → gb ws (gi (gr a.nxt v) j).toNat = true → 0 ≤ gi rs (gi (gr a.nxt v) j).toNat) = al at *
  generalize hIn : tf (∃ j, j < k ∧ gb ws (gi (gr a.nxt v) j).toNat = true) = ins at *
  clear e1 e2 e3
  (repeat' (first | (with_reducible first | (refine hK _ _ ?_; clear hK K) | (refine hKN _ ?_; clear hKN K) | (refine hKD _ _ _ ?_; clear hKD K) | (refine hKE _ _ ?_; clear hKE K) | refine k_seq ?_ | refine n_sq ?_ | refine a_nil ?_ | refine k_label ?_ | refine k_block ?_ | refine n_bk ?_ | refine k_exit ?_ | refine n_sqx ?_ | refine n_kx ?_ | refine n_bkx ?_ | refine n_bkn rfl ?_ | refine k_ret ?_ | refine n_sqr ?_ | refine n_kr ?_ | refine n_bkr ?_ | refine k_skip ?_ | refine n_k ?_ | refine n_end ?_ | (refine hXX ?_; clear hXX X hYY Y) | (refine hYY ?_; clear hXX X hYY Y)) | (with_reducible refine k_cid ?_; first | refine k_ctl rfl ?_ | refine k_cfl rfl ?_) | (with_reducible refine a_id ?_; first | refine a_passl rfl rfl rfl rfl ?_ | refine a_runl rfl rfl rfl ?_ | refine a_pul rfl rfl rfl rfl ?_) | (with_reducible refine d_id ?_; first | refine d_passl rfl rfl rfl rfl ?_ | refine d_runl rfl rfl rfl ?_ | refine d_pul rfl rfl rfl rfl ?_ | refine d_end hN (by apply Exists.intro; apply And.intro; (repeat' (first | apply FtI.nil | apply FI.nil | apply FI.cons | apply FtI.cons)); kernel_rfl) ?_) | ((first | (with_reducible first | refine a_opd rfl rfl fun K hK => ?_ | refine d_opd rfl rfl fun K hKD => ?_ | refine a_opn rfl rfl fun K hKN => ?_ | refine d_opn rfl rfl fun K hKE => ?_ | refine k_cond fun X Y hXX hYY => ?_ | refine FN_new ?_) | (with_reducible refine a_id ?_; refine a_guard rfl rfl fun X Y hXX hYY => ?_) | (with_reducible refine d_id ?_; refine d_guard rfl rfl fun X Y hXX hYY => ?_)); simp (disch := first | decide | omega | (simp only [List.length_cons, List.length_nil]; omega)) only [go_sem, beq_self_eq_true, ↓tmL_cons, ↓hpL_get hN, hpL_set hN, reduceIte, reduceCtorEq, Nat.reduceAdd, Nat.reduceLT, Nat.reduceLeDiff, Nat.reduceEqDiff, Nat.reduceSub]) | (with_reducible refine And.intro (fun h => ?_) (fun h => ?_) <;> try (exfalso; omega)) | (with_reducible refine k_reg tiOK hN rfl ?_ ?_; kernel_rfl) | (with_reducible refine k_drawn tiOK hN rfl ?_ ?_ ?_ ?_; (kernel_rfl); (kernel_rfl); (kernel_rfl)) | (with_reducible refine And.intro ?_ ?_) | (refine prop_id ?_; omega) | (exact nm_ne hN (by decide))))
  · (refine ⟨k + 1, ⟨?_, ?_⟩, le_L hX hN [] ?_ ?_⟩; (try any_goals dsimp only); (repeat' (first | (with_reducible first | exact LEs.nil _ | exact LTs.nil | exact LVs.nil | refine LEs.cons ?_ ?_ | refine LVs.cons ?_ ?_ | exact lv_any _ | exact lv_c _ | exact le_dead _ | rfl | exact lv_el _ _ | refine lv_agg ?_ | exact lv_k _ | refine lv_fn ?_) | refine LTs.cons rfl ?_ ?_ | exact lv_sl hN _ rfl rfl rfl | exact lv_ad hN _ rfl rfl rfl | exact lv_fzb hN _ rfl rfl rfl (Or.inr rfl) | (refine lv_fz hN _ rfl rfl (by first | exact Or.inr rfl | exact Or.inl rfl) ?_; first | exact RdLe.refl _ | exact RdLe.unn _) | refine le_box hN rfl ?_ | refine le_arr hN rfl rfl ?_ | exact lv_nul hN _ rfl rfl | exact le_new hN rfl rfl rfl rfl | (with_reducible first | refine lv_eq ?_ | refine congrArg C.B ?_ | refine congrArg C.I ?_ | refine congrArg C.R ?_ | refine congrArg (C.int _) ?_ | refine congrArg C.bool ?_))); (try (any_goals (first | (with_reducible rfl) | (refine prop_id ?_; omega)))))
    all_goals first | rw [tf_exs, hSo] | rw [tf_alls, hAl] | rw [tf_exs, hIn]
    all_goals by_cases hR : 0 ≤ gi rs (gi (gr a.nxt v) k).toNat
    all_goals simp [tf, *]
  · (refine ⟨k + 1, ⟨?_, ?_⟩, le_L hX hN [] ?_ ?_⟩; (try any_goals dsimp only); (repeat' (first | (with_reducible first | exact LEs.nil _ | exact LTs.nil | exact LVs.nil | refine LEs.cons ?_ ?_ | refine LVs.cons ?_ ?_ | exact lv_any _ | exact lv_c _ | exact le_dead _ | rfl | exact lv_el _ _ | refine lv_agg ?_ | exact lv_k _ | refine lv_fn ?_) | refine LTs.cons rfl ?_ ?_ | exact lv_sl hN _ rfl rfl rfl | exact lv_ad hN _ rfl rfl rfl | exact lv_fzb hN _ rfl rfl rfl (Or.inr rfl) | (refine lv_fz hN _ rfl rfl (by first | exact Or.inr rfl | exact Or.inl rfl) ?_; first | exact RdLe.refl _ | exact RdLe.unn _) | refine le_box hN rfl ?_ | refine le_arr hN rfl rfl ?_ | exact lv_nul hN _ rfl rfl | exact le_new hN rfl rfl rfl rfl | (with_reducible first | refine lv_eq ?_ | refine congrArg C.B ?_ | refine congrArg C.I ?_ | refine congrArg C.R ?_ | refine congrArg (C.int _) ?_ | refine congrArg C.bool ?_))); (try (any_goals (first | (with_reducible rfl) | (refine prop_id ?_; omega)))))
    all_goals first | rw [tf_exs, hSo] | rw [tf_alls, hAl] | rw [tf_exs, hIn]
    all_goals by_cases hR : 0 ≤ gi rs (gi (gr a.nxt v) k).toNat
    all_goals simp [tf, *]
  · (refine ⟨k + 1, ⟨?_, ?_⟩, le_L hX hN [] ?_ ?_⟩; (try any_goals dsimp only); (repeat' (first | (with_reducible first | exact LEs.nil _ | exact LTs.nil | exact LVs.nil | refine LEs.cons ?_ ?_ | refine LVs.cons ?_ ?_ | exact lv_any _ | exact lv_c _ | exact le_dead _ | rfl | exact lv_el _ _ | refine lv_agg ?_ | exact lv_k _ | refine lv_fn ?_) | refine LTs.cons rfl ?_ ?_ | exact lv_sl hN _ rfl rfl rfl | exact lv_ad hN _ rfl rfl rfl | exact lv_fzb hN _ rfl rfl rfl (Or.inr rfl) | (refine lv_fz hN _ rfl rfl (by first | exact Or.inr rfl | exact Or.inl rfl) ?_; first | exact RdLe.refl _ | exact RdLe.unn _) | refine le_box hN rfl ?_ | refine le_arr hN rfl rfl ?_ | exact lv_nul hN _ rfl rfl | exact le_new hN rfl rfl rfl rfl | (with_reducible first | refine lv_eq ?_ | refine congrArg C.B ?_ | refine congrArg C.I ?_ | refine congrArg C.R ?_ | refine congrArg (C.int _) ?_ | refine congrArg C.bool ?_))); (try (any_goals (first | (with_reducible rfl) | (refine prop_id ?_; omega)))))
    all_goals first | rw [tf_exs, hSo] | rw [tf_alls, hAl] | rw [tf_exs, hIn]
    all_goals by_cases hR : 0 ≤ gi rs (gi (gr a.nxt v) k).toNat
    all_goals simp [tf, *]
  · (refine ⟨k + 1, ⟨?_, ?_⟩, le_L hX hN [] ?_ ?_⟩; (try any_goals dsimp only); (repeat' (first | (with_reducible first | exact LEs.nil _ | exact LTs.nil | exact LVs.nil | refine LEs.cons ?_ ?_ | refine LVs.cons ?_ ?_ | exact lv_any _ | exact lv_c _ | exact le_dead _ | rfl | exact lv_el _ _ | refine lv_agg ?_ | exact lv_k _ | refine lv_fn ?_) | refine LTs.cons rfl ?_ ?_ | exact lv_sl hN _ rfl rfl rfl | exact lv_ad hN _ rfl rfl rfl | exact lv_fzb hN _ rfl rfl rfl (Or.inr rfl) | (refine lv_fz hN _ rfl rfl (by first | exact Or.inr rfl | exact Or.inl rfl) ?_; first | exact RdLe.refl _ | exact RdLe.unn _) | refine le_box hN rfl ?_ | refine le_arr hN rfl rfl ?_ | exact lv_nul hN _ rfl rfl | exact le_new hN rfl rfl rfl rfl | (with_reducible first | refine lv_eq ?_ | refine congrArg C.B ?_ | refine congrArg C.I ?_ | refine congrArg C.R ?_ | refine congrArg (C.int _) ?_ | refine congrArg C.bool ?_))); (try (any_goals (first | (with_reducible rfl) | (refine prop_id ?_; omega)))))
    all_goals first | rw [tf_exs, hSo] | rw [tf_alls, hAl] | rw [tf_exs, hIn]
    all_goals by_cases hR : 0 ≤ gi rs (gi (gr a.nxt v) k).toNat
    all_goals simp [tf, *]
  · (refine ⟨k + 1, ⟨?_, ?_⟩, le_L hX hN [] ?_ ?_⟩; (try any_goals dsimp only); (repeat' (first | (with_reducible first | exact LEs.nil _ | exact LTs.nil | exact LVs.nil | refine LEs.cons ?_ ?_ | refine LVs.cons ?_ ?_ | exact lv_any _ | exact lv_c _ | exact le_dead _ | rfl | exact lv_el _ _ | refine lv_agg ?_ | exact lv_k _ | refine lv_fn ?_) | refine LTs.cons rfl ?_ ?_ | exact lv_sl hN _ rfl rfl rfl | exact lv_ad hN _ rfl rfl rfl | exact lv_fzb hN _ rfl rfl rfl (Or.inr rfl) | (refine lv_fz hN _ rfl rfl (by first | exact Or.inr rfl | exact Or.inl rfl) ?_; first | exact RdLe.refl _ | exact RdLe.unn _) | refine le_box hN rfl ?_ | refine le_arr hN rfl rfl ?_ | exact lv_nul hN _ rfl rfl | exact le_new hN rfl rfl rfl rfl | (with_reducible first | refine lv_eq ?_ | refine congrArg C.B ?_ | refine congrArg C.I ?_ | refine congrArg C.R ?_ | refine congrArg (C.int _) ?_ | refine congrArg C.bool ?_))); (try (any_goals (first | (with_reducible rfl) | (refine prop_id ?_; omega)))))
    all_goals first | rw [tf_exs, hSo] | rw [tf_alls, hAl] | rw [tf_exs, hIn]
    all_goals by_cases hR : 0 ≤ gi rs (gi (gr a.nxt v) k).toNat
    all_goals simp [tf, *]
  · (refine ret_c (.inr rfl) (by first | rfl | (simp (disch := first | decide | omega | (simp only [List.length_cons, List.length_nil]; omega)) only [resV, resL, resA, boxA, go_sem, beq_self_eq_true, ↓tmL_cons, ↓hpL_get hN, hpL_set hN, reduceIte, reduceCtorEq, Nat.reduceAdd, Nat.reduceLT, Nat.reduceLeDiff, Nat.reduceEqDiff, Nat.reduceSub]; rfl)) ?_)
    rw [show k = (gr a.nxt v).length by omega] at hSo
    rw [← hSo]
    exact congrArg C.bool (tf_congr ⟨fun h => .inl ⟨by assumption, h⟩, fun h => h.elim (fun h => h.2) fun h => absurd (by assumption) h.1⟩)
  · have hne : ¬ gi a.own v = who := by simpa using (by assumption : (gi a.own v == who) = false)
    have h1 : ins = true := by assumption
    rw [← hIn, show k = (gr a.nxt v).length by omega] at h1
    (refine ret_c (.inr rfl) (by first | rfl | (simp (disch := first | decide | omega | (simp only [List.length_cons, List.length_nil]; omega)) only [resV, resL, resA, boxA, go_sem, beq_self_eq_true, ↓tmL_cons, ↓hpL_get hN, hpL_set hN, reduceIte, reduceCtorEq, Nat.reduceAdd, Nat.reduceLT, Nat.reduceLeDiff, Nat.reduceEqDiff, Nat.reduceSub]; rfl)) ?_)
    rw [← hAl, show k = (gr a.nxt v).length by omega]
    exact congrArg C.bool (tf_congr ⟨fun h => .inr ⟨hne, tf_eq.1 h1, h⟩, fun h => h.elim (fun h => absurd h.1 hne) fun h => h.2.2⟩)
  · have hne : ¬ gi a.own v = who := by simpa using (by assumption : (gi a.own v == who) = false)
    have h1 : ins = false := by assumption
    rw [← hIn, show k = (gr a.nxt v).length by omega] at h1
    (refine ret_c (.inr rfl) (by first | rfl | (simp (disch := first | decide | omega | (simp only [List.length_cons, List.length_nil]; omega)) only [resV, resL, resA, boxA, go_sem, beq_self_eq_true, ↓tmL_cons, ↓hpL_get hN, hpL_set hN, reduceIte, reduceCtorEq, Nat.reduceAdd, Nat.reduceLT, Nat.reduceLeDiff, Nat.reduceEqDiff, Nat.reduceSub]; rfl)) ?_)
    exact congrArg C.bool (tf_false fun h => h.elim (fun h => hne h.1) fun h => absurd (tf_true h.2.1) (by rw [h1]; decide)).symm
end Go.Proofs.Ytfmnikiinfbanaa
namespace Go.Proofs.Ytfmnikiinfbanaa
set_option linter.unusedVariables false
set_option linter.unusedSimpArgs false
open Go.RowKit
theorem mem_filtA {p : Int → Prop} {xs : List Int} {x : Int} : ∀ k, k ≤ xs.length → (x ∈ filt p xs k ↔ ∃ j, j < k ∧ gi xs j = x ∧ p x)
  | 0, _ => ⟨fun h => (by cases h), fun ⟨j, h, _⟩ => absurd h (Nat.not_lt_zero _)⟩
  | k + 1, hk => by
    have ih := mem_filtA (p := p) (xs := xs) (x := x) k (by omega)
    by_cases h : p (gi xs k)
    · rw [filt_yes h, List.mem_append, ih, List.mem_singleton]
      constructor
      · rintro (⟨j, h1, h2⟩ | rfl)
        · exact ⟨j, by omega, h2⟩
        · exact ⟨k, by omega, rfl, h⟩
      · rintro ⟨j, h1, h2, h3⟩
        rcases Nat.lt_or_ge j k with h' | h'
        · exact .inl ⟨j, h', h2, h3⟩
        · rw [show j = k by omega] at h2; exact .inr h2.symm
    · rw [filt_no h, ih]
      constructor
      · rintro ⟨j, h1, h2⟩; exact ⟨j, by omega, h2⟩
      · rintro ⟨j, h1, h2, h3⟩
        rcases Nat.lt_or_ge j k with h' | h'
        · exact ⟨j, h', h2, h3⟩
        · rw [show j = k by omega] at h2; exact absurd (h2 ▸ h3) h
def pgA (g : Pa) : PG.Gm := pgOf (gmOf g) g.prio.length
theorem pgA_E {g : Pa} (v u : Nat) : (pgA g).E v u ↔ v < g.prio.length ∧ u < g.prio.length ∧ ∃ t, t < (gr g.ar.nxt v).length ∧ gi (gr g.ar.nxt v) t = (u : Int) := by
  show v < _ ∧ u < _ ∧ edg (gmOf g) v u = true ∧ _ ↔ _
  constructor
  · rintro ⟨a, b, _, c⟩; exact ⟨a, b, c⟩
  · rintro ⟨a, b, c⟩
    refine ⟨a, b, ?_, c⟩
    have : gi (gmOf g).pick v = -1 := gi_tab _ (by omega)
    simp [edg, this]
theorem pgA_own {g : Pa} (hg : PaOk g) {v : Nat} (hv : v < g.prio.length) : (pgA g).own v = gi g.ar.own v := own_of (gmOk_of hg) hv
noncomputable def rkV (P : PG.Gm) (who : Int) (S T : Nat → Prop) : Nat → Nat → Int
  | 0, v => @ite _ (S v ∧ T v) (Classical.propDecidable _) 0 (-1)
  | k + 1, v => @ite _ (0 ≤ rkV P who S T k v) (Classical.propDecidable _) (rkV P who S T k v) (@ite _ (PG.AttrN P who S T (k + 1) v) (Classical.propDecidable _) ((k : Int) + 1) (-1))
section
variable {P : PG.Gm} {who : Int} {S T : Nat → Prop}
theorem rkV_iff : ∀ k v, 0 ≤ rkV P who S T k v ↔ PG.AttrN P who S T k v
  | 0, v => by
    unfold rkV
    by_cases h : S v ∧ T v
    · rw [if_pos h]; exact ⟨fun _ => h, fun _ => Int.le_refl _⟩
    · rw [if_neg h]; exact ⟨fun h' => absurd h' (by decide), fun h' => absurd h' h⟩
  | k + 1, v => by
    have ih := rkV_iff k v
    unfold rkV
    by_cases h : 0 ≤ rkV P who S T k v
    · rw [if_pos h]; exact ⟨fun _ => PG.attrN_succ (ih.1 h), fun _ => h⟩
    · rw [if_neg h]
      by_cases h' : PG.AttrN P who S T (k + 1) v
      · rw [if_pos h']; exact ⟨fun _ => h', fun _ => by omega⟩
      · rw [if_neg h']; exact ⟨fun h' => absurd h' (by decide), fun h2 => absurd h2 h'⟩
theorem rkV_ge (k v : Nat) : -1 ≤ rkV P who S T k v := by
  induction k with
  | zero => unfold rkV; split <;> decide
  | succ k ih =>
    unfold rkV
    split
    · exact ih
    · split <;> omega
theorem rkV_old {k v : Nat} (h : 0 ≤ rkV P who S T k v) : rkV P who S T (k + 1) v = rkV P who S T k v := if_pos h
theorem rkV_new {k v : Nat} (h : ¬ 0 ≤ rkV P who S T k v) (h' : PG.AttrN P who S T (k + 1) v) : rkV P who S T (k + 1) v = (k : Int) + 1 := (if_neg h).trans (if_pos h')
theorem rkV_none {k v : Nat} (h : ¬ 0 ≤ rkV P who S T k v) (h' : ¬ PG.AttrN P who S T (k + 1) v) : rkV P who S T (k + 1) v = rkV P who S T k v := by
  have := rkV_ge (P := P) (who := who) (S := S) (T := T) k v
  rw [(if_neg h).trans (if_neg h') |> fun e => (e : rkV P who S T (k + 1) v = -1)]
  omega
theorem attrN_stop {k : Nat} (h : ∀ v, PG.AttrN P who S T (k + 1) v → PG.AttrN P who S T k v) : ∀ m, k ≤ m → ∀ v, PG.AttrN P who S T m v → PG.AttrN P who S T k v := by
  intro m hm
  induction m with
  | zero => intro v hv; rw [show k = 0 by omega]; exact hv
  | succ m ih =>
    intro v hv
    rcases Nat.lt_or_ge k (m + 1) with hk | hk
    · have ih := ih (by omega)
      rcases hv with hv | ⟨h1, h2, u, h3, h4⟩ | ⟨h1, h2, h3, h4⟩
      · exact ih v hv
      · exact h v (.inr (.inl ⟨h1, h2, u, h3, ih u h4⟩))
      · exact h v (.inr (.inr ⟨h1, h2, h3, fun u a b => ih u (h4 u a b)⟩))
    · rw [show k = m + 1 by omega]; exact hv
theorem rkV_stop {k : Nat} (h : ∀ v, PG.AttrN P who S T (k + 1) v → PG.AttrN P who S T k v) : ∀ m, k ≤ m → ∀ v, rkV P who S T m v = rkV P who S T k v := by
  intro m hm
  induction m with
  | zero => intro v; rw [show k = 0 by omega]
  | succ m ih =>
    intro v
    rcases Nat.lt_or_ge k (m + 1) with hk | hk
    · have ih := ih (by omega) v
      by_cases h0 : 0 ≤ rkV P who S T m v
      · rw [rkV_old h0, ih]
      · rw [rkV_none h0 (fun h' => h0 ((rkV_iff m v).2 (PG.attrN_mono (by omega) (attrN_stop h (m + 1) (by omega) v h')))), ih]
    · rw [show k = m + 1 by omega]
end
theorem pul_iff {g : Pa} (hg : PaOk g) {xs : List Int} {who : Int} {T : Nat → Prop} {k v : Nat} (hv : v < g.prio.length) (hS : (v : Int) ∈ xs) (hx : Bnd xs g.prio.length) (hr : ¬ 0 ≤ rkV (pgA g) who (fun v => (v : Int) ∈ xs) T k v) :
    PulP g.ar who (mks g.prio.length fun v => (v : Int) ∈ xs) (tab g.prio.length (rkV (pgA g) who (fun v => (v : Int) ∈ xs) T k)) v ↔ PG.AttrN (pgA g) who (fun v => (v : Int) ∈ xs) T (k + 1) v := by
  have hl := hg.len
  have ho := pgA_own hg hv
  have hnx : ∀ i, i < (gr g.ar.nxt v).length → ∃ u : Nat, gi (gr g.ar.nxt v) i = u ∧ u < g.prio.length := fun i hi => by
    have := nxtA hg.ar (by omega : v < g.ar.own.length) hi
    exact ⟨(gi (gr g.ar.nxt v) i).toNat, by omega, by omega⟩
  have hin : ∀ u, u < g.prio.length → (gb (mks g.prio.length fun v => (v : Int) ∈ xs) u = true ↔ (u : Int) ∈ xs) := fun u hu => by rw [gb_mks _ hu]; exact tf_eq
  have hrk : ∀ u, u < g.prio.length → (0 ≤ gi (tab g.prio.length (rkV (pgA g) who (fun v => (v : Int) ∈ xs) T k)) u ↔ PG.AttrN (pgA g) who (fun v => (v : Int) ∈ xs) T k u) := fun u hu => by rw [gi_tab _ hu]; exact rkV_iff k u
  constructor
  · rintro (⟨h1, i, h2, h3, h4⟩ | ⟨h1, ⟨i, h2, h3⟩, h4⟩)
    · obtain ⟨u, e, hu⟩ := hnx i h2
      rw [e, Int.toNat_natCast] at h3 h4
      exact .inr (.inl ⟨hS, by rw [ho]; exact h1, u, (pgA_E v u).2 ⟨hv, hu, i, h2, e⟩, (hrk u hu).1 h4⟩)
    · obtain ⟨u, e, hu⟩ := hnx i h2
      rw [e, Int.toNat_natCast] at h3
      refine .inr (.inr ⟨hS, by rw [ho]; exact h1, ⟨u, (pgA_E v u).2 ⟨hv, hu, i, h2, e⟩, (hin u hu).1 h3⟩, fun u' hE hu' => ?_⟩)
      obtain ⟨_, hu2, t, h5, h6⟩ := (pgA_E v u').1 hE
      have := h4 t h5
      rw [h6, Int.toNat_natCast] at this
      exact (hrk u' hu2).1 (this ((hin u' hu2).2 hu'))
  · rintro (h | ⟨_, h1, u, h2, h3⟩ | ⟨_, h1, ⟨u, h2, h3⟩, h4⟩)
    · exact absurd ((rkV_iff k v).2 h) hr
    · obtain ⟨_, hu, t, h5, h6⟩ := (pgA_E v u).1 h2
      refine .inl ⟨by rw [← ho]; exact h1, t, h5, ?_⟩
      rw [h6, Int.toNat_natCast]
      exact ⟨(hin u hu).2 (PG.attrN_in h3), (hrk u hu).2 h3⟩
    · obtain ⟨_, hu, t, h5, h6⟩ := (pgA_E v u).1 h2
      refine .inr ⟨by rw [← ho]; exact h1, ⟨t, h5, by rw [h6, Int.toNat_natCast]; exact (hin u hu).2 h3⟩, fun i hi hb => ?_⟩
      obtain ⟨u', e, hu'⟩ := hnx i hi
      rw [e, Int.toNat_natCast] at hb ⊢
      exact (hrk u' hu').2 (h4 u' ((pgA_E v u').2 ⟨hv, hu', i, hi, e⟩) ((hin u' hu').1 hb))
end Go.Proofs.Ytfmnikiinfbanaa
namespace Go.Proofs.Ytfmnikiinfbanaa
set_option linter.unusedVariables false
set_option linter.unusedSimpArgs false
open Go.RowKit
attribute [local irreducible] FunSpec CallR Aw Le
theorem attr_num {P : PG.Gm} {who : Int} {S T : Nat → Prop} {n k v : Nat} (hv : v < n) (h : PG.AttrN P who S T (k + 1) v) (hn : ¬ PG.AttrN P who S T k v) : num (PG.AttrN P who S T k) n < num (PG.AttrN P who S T (k + 1)) n :=
  num_lt (fun t _ h => PG.attrN_succ h) ⟨v, hv, h, hn⟩
theorem len_ne' {n : Nat} (h : (((n : Nat) : Int) == 0) = false) : n ≠ 0 := by
  have : ((n : Nat) : Int) ≠ 0 := by simpa using h
  omega
noncomputable def rkF (g : Pa) (who : Int) (xs ys : List Int) : List Int := tab g.prio.length (rkV (pgA g) who (fun v => (v : Int) ∈ xs) (fun v => (v : Int) ∈ ys) g.prio.length)
set_option maxHeartbeats 2000000 in
theorem ranksIn_f (g : Pa) (hg : PaOk g) (who : Int) (xs ys : List Int) (hx : IsSet xs g.prio.length) (hy : IsSet ys g.prio.length) : FunSpec Try.prog 120 [arA g.ar, .c (.int .i64 who), .c (.I xs), .c (.I ys)] [.arr 2 .yes (.I (rkF g who xs ys))] (fun ns => .sl (ns.getD 0 0)) := by
  have ha := hg.ar
  have hl := hg.len
  have hle := ha.le
  have hxl := isSet_len hx (by omega)
  have hyl := isSet_len hy (by omega)
  have hxb := hx.bnd
  have hyb := hy.bnd
  have hm := markOf_f g.ar xs (by rw [← hl]; exact hxb) (by omega) (by omega)
  rw [← hl] at hm
  have hwl := mks_len g.prio.length fun v => (v : Int) ∈ xs
  (refine f_intro tiOK Try.func120 rfl rfl (by kernel_rfl) fun hp0 ν hX hN => ?_; simp only [numT, Nat.reduceAdd])
  (repeat' (first | (with_reducible first | (refine hK _ _ ?_; clear hK K) | (refine hKN _ ?_; clear hKN K) | (refine hKD _ _ _ ?_; clear hKD K) | (refine hKE _ _ ?_; clear hKE K) | refine k_seq ?_ | refine n_sq ?_ | refine a_nil ?_ | refine k_label ?_ | refine k_block ?_ | refine n_bk ?_ | refine k_exit ?_ | refine n_sqx ?_ | refine n_kx ?_ | refine n_bkx ?_ | refine n_bkn rfl ?_ | refine k_ret ?_ | refine n_sqr ?_ | refine n_kr ?_ | refine n_bkr ?_ | refine k_skip ?_ | refine n_k ?_ | refine n_end ?_ | (refine hXX ?_; clear hXX X hYY Y) | (refine hYY ?_; clear hXX X hYY Y)) | (with_reducible refine k_cid ?_; first | refine k_ctl rfl ?_ | refine k_cfl rfl ?_) | (with_reducible refine a_id ?_; first | refine a_passl rfl rfl rfl rfl ?_ | refine a_runl rfl rfl rfl ?_ | refine a_pul rfl rfl rfl rfl ?_) | (with_reducible refine d_id ?_; first | refine d_passl rfl rfl rfl rfl ?_ | refine d_runl rfl rfl rfl ?_ | refine d_pul rfl rfl rfl rfl ?_ | refine d_end hN (by apply Exists.intro; apply And.intro; (repeat' (first | apply FtI.nil | apply FI.nil | apply FI.cons | apply FtI.cons)); kernel_rfl) ?_) | ((first | (with_reducible first | refine a_opd rfl rfl fun K hK => ?_ | refine d_opd rfl rfl fun K hKD => ?_ | refine a_opn rfl rfl fun K hKN => ?_ | refine d_opn rfl rfl fun K hKE => ?_ | refine k_cond fun X Y hXX hYY => ?_ | refine FN_new ?_) | (with_reducible refine a_id ?_; refine a_guard rfl rfl fun X Y hXX hYY => ?_) | (with_reducible refine d_id ?_; refine d_guard rfl rfl fun X Y hXX hYY => ?_)); simp (disch := first | decide | omega | (simp only [List.length_cons, List.length_nil]; omega)) only [go_sem, beq_self_eq_true, ↓tmL_cons, ↓hpL_get hN, hpL_set hN, reduceIte, reduceCtorEq, Nat.reduceAdd, Nat.reduceLT, Nat.reduceLeDiff, Nat.reduceEqDiff, Nat.reduceSub]) | (with_reducible refine And.intro (fun h => ?_) (fun h => ?_) <;> try (exfalso; omega)) | (with_reducible refine k_reg tiOK hN rfl ?_ ?_; kernel_rfl) | (with_reducible refine k_drawn tiOK hN rfl ?_ ?_ ?_ ?_; (kernel_rfl); (kernel_rfl); (kernel_rfl)) | (refine k_call (hm) ?_ rfl (fun _ => rfl) ?_; focus ((repeat' (first | (with_reducible first | exact Args_nil | refine Args_cons ?_ ?_ | exact ag_c _ | refine ag_agg ?_ | exact ag_elA _ | exact ag_el _ _ | refine ag_fn ?_ | exact ag_unn _) | exact ag_box hN rfl rfl | (refine ag_fz hN rfl ?_; first | exact RdLe.refl _ | exact RdLe.unn _) | exact ag_nul rfl rfl rfl)); done)) | (with_reducible first | exact Args_nil | refine Args_cons ?_ ?_ | exact ag_c _ | refine ag_agg ?_ | exact ag_elA _ | exact ag_el _ _ | refine ag_fn ?_ | exact ag_unn _) | exact ag_box hN rfl rfl | (refine ag_fz hN rfl ?_; first | exact RdLe.refl _ | exact RdLe.unn _) | exact ag_nul rfl rfl rfl | (simp only [hpUp, List.map_nil]) | (with_reducible refine FN_nil ?_) | (with_reducible refine And.intro ?_ ?_) | (refine prop_id ?_; omega) | (exact nm_ne hN (by decide))))
  (refine k_loop (fun (k : Nat) => (tmL [(29, .c (.int .i64 k)), (28, .c (.int .i64 g.prio.length)), (10, .sl (ν 2)), (9, .sl (ν 1)), (1, .c (.int .i64 who)), (2, .c (.I xs)), (3, .c (.I ys)), (4, .ad (ν 0) 0)], hpL hp0 ν [.box [.c (.I g.ar.own), .c (.R g.ar.nxt)], .arr 4 .yes (.B (mks g.prio.length fun v => (v : Int) ∈ xs)), .arr 2 .yes (.I (tab g.prio.length fun v => if v < k then -1 else 0))])) (fun (k : Nat) => k ≤ g.prio.length) (fun (k : Nat) => g.prio.length - k) ⟨0, ?_, le_L hX hN [] ?_ ?_⟩ ?_; (repeat' (first | (with_reducible first | exact LEs.nil _ | exact LTs.nil | exact LVs.nil | refine LEs.cons ?_ ?_ | refine LVs.cons ?_ ?_ | exact lv_any _ | exact lv_c _ | exact le_dead _ | rfl | exact lv_el _ _ | refine lv_agg ?_ | exact lv_k _ | refine lv_fn ?_) | refine LTs.cons rfl ?_ ?_ | exact lv_sl hN _ rfl rfl rfl | exact lv_ad hN _ rfl rfl rfl | exact lv_fzb hN _ rfl rfl rfl (Or.inr rfl) | (refine lv_fz hN _ rfl rfl (by first | exact Or.inr rfl | exact Or.inl rfl) ?_; first | exact RdLe.refl _ | exact RdLe.unn _) | refine le_box hN rfl ?_ | refine le_arr hN rfl rfl ?_ | exact lv_nul hN _ rfl rfl | exact le_new hN rfl rfl rfl rfl | (with_reducible first | refine lv_eq ?_ | refine congrArg C.B ?_ | refine congrArg C.I ?_ | refine congrArg C.R ?_ | refine congrArg (C.int _) ?_ | refine congrArg C.bool ?_))); (try (any_goals (first | (with_reducible rfl) | (refine prop_id ?_; omega)))))
  · rw [← hl]; exact tab_zero _ _
  intro k hk
  have htl := tab_len g.prio.length fun v => if v < k then (-1 : Int) else 0
  (repeat' (first | (with_reducible first | (refine hK _ _ ?_; clear hK K) | (refine hKN _ ?_; clear hKN K) | (refine hKD _ _ _ ?_; clear hKD K) | (refine hKE _ _ ?_; clear hKE K) | refine k_seq ?_ | refine n_sq ?_ | refine a_nil ?_ | refine k_label ?_ | refine k_block ?_ | refine n_bk ?_ | refine k_exit ?_ | refine n_sqx ?_ | refine n_kx ?_ | refine n_bkx ?_ | refine n_bkn rfl ?_ | refine k_ret ?_ | refine n_sqr ?_ | refine n_kr ?_ | refine n_bkr ?_ | refine k_skip ?_ | refine n_k ?_ | refine n_end ?_ | (refine hXX ?_; clear hXX X hYY Y) | (refine hYY ?_; clear hXX X hYY Y)) | (with_reducible refine k_cid ?_; first | refine k_ctl rfl ?_ | refine k_cfl rfl ?_) | (with_reducible refine a_id ?_; first | refine a_passl rfl rfl rfl rfl ?_ | refine a_runl rfl rfl rfl ?_ | refine a_pul rfl rfl rfl rfl ?_) | (with_reducible refine d_id ?_; first | refine d_passl rfl rfl rfl rfl ?_ | refine d_runl rfl rfl rfl ?_ | refine d_pul rfl rfl rfl rfl ?_ | refine d_end hN (by apply Exists.intro; apply And.intro; (repeat' (first | apply FtI.nil | apply FI.nil | apply FI.cons | apply FtI.cons)); kernel_rfl) ?_) | ((first | (with_reducible first | refine a_opd rfl rfl fun K hK => ?_ | refine d_opd rfl rfl fun K hKD => ?_ | refine a_opn rfl rfl fun K hKN => ?_ | refine d_opn rfl rfl fun K hKE => ?_ | refine k_cond fun X Y hXX hYY => ?_ | refine FN_new ?_) | (with_reducible refine a_id ?_; refine a_guard rfl rfl fun X Y hXX hYY => ?_) | (with_reducible refine d_id ?_; refine d_guard rfl rfl fun X Y hXX hYY => ?_)); simp (disch := first | decide | omega | (simp only [List.length_cons, List.length_nil]; omega)) only [go_sem, beq_self_eq_true, ↓tmL_cons, ↓hpL_get hN, hpL_set hN, reduceIte, reduceCtorEq, Nat.reduceAdd, Nat.reduceLT, Nat.reduceLeDiff, Nat.reduceEqDiff, Nat.reduceSub]) | (with_reducible refine And.intro (fun h => ?_) (fun h => ?_) <;> try (exfalso; omega)) | (with_reducible refine k_reg tiOK hN rfl ?_ ?_; kernel_rfl) | (with_reducible refine k_drawn tiOK hN rfl ?_ ?_ ?_ ?_; (kernel_rfl); (kernel_rfl); (kernel_rfl)) | (with_reducible refine And.intro ?_ ?_) | (refine prop_id ?_; omega) | (exact nm_ne hN (by decide))))
  · (refine ⟨k + 1, ⟨?_, ?_⟩, le_L hX hN [] ?_ ?_⟩; (try any_goals dsimp only); (repeat' (first | (with_reducible first | exact LEs.nil _ | exact LTs.nil | exact LVs.nil | refine LEs.cons ?_ ?_ | refine LVs.cons ?_ ?_ | exact lv_any _ | exact lv_c _ | exact le_dead _ | rfl | exact lv_el _ _ | refine lv_agg ?_ | exact lv_k _ | refine lv_fn ?_) | refine LTs.cons rfl ?_ ?_ | exact lv_sl hN _ rfl rfl rfl | exact lv_ad hN _ rfl rfl rfl | exact lv_fzb hN _ rfl rfl rfl (Or.inr rfl) | (refine lv_fz hN _ rfl rfl (by first | exact Or.inr rfl | exact Or.inl rfl) ?_; first | exact RdLe.refl _ | exact RdLe.unn _) | refine le_box hN rfl ?_ | refine le_arr hN rfl rfl ?_ | exact lv_nul hN _ rfl rfl | exact le_new hN rfl rfl rfl rfl | (with_reducible first | refine lv_eq ?_ | refine congrArg C.B ?_ | refine congrArg C.I ?_ | refine congrArg C.R ?_ | refine congrArg (C.int _) ?_ | refine congrArg C.bool ?_))); (try (any_goals (first | (with_reducible rfl) | (refine prop_id ?_; omega)))))
    exact filli (by omega) rfl
  rw [tab_done (by omega : g.prio.length ≤ k)]
  (refine k_loop (fun (j : Nat) => (tmL [(38, .c (.int .i64 j)), (37, .c (.int .i64 ys.length)), (36, .c (.I ys)), (10, .sl (ν 2)), (9, .sl (ν 1)), (1, .c (.int .i64 who)), (2, .c (.I xs)), (4, .ad (ν 0) 0)], hpL hp0 ν [.box [.c (.I g.ar.own), .c (.R g.ar.nxt)], .arr 4 .yes (.B (mks g.prio.length fun v => (v : Int) ∈ xs)), .arr 2 .yes (.I (tab g.prio.length fun v => @ite _ ((v : Int) ∈ xs ∧ ∃ i, i < j ∧ gi ys i = v) (Classical.propDecidable _) 0 (-1)))])) (fun (j : Nat) => j ≤ ys.length) (fun (j : Nat) => ys.length - j) ⟨0, ?_, le_L hX hN [] ?_ ?_⟩ ?_; (repeat' (first | (with_reducible first | exact LEs.nil _ | exact LTs.nil | exact LVs.nil | refine LEs.cons ?_ ?_ | refine LVs.cons ?_ ?_ | exact lv_any _ | exact lv_c _ | exact le_dead _ | rfl | exact lv_el _ _ | refine lv_agg ?_ | exact lv_k _ | refine lv_fn ?_) | refine LTs.cons rfl ?_ ?_ | exact lv_sl hN _ rfl rfl rfl | exact lv_ad hN _ rfl rfl rfl | exact lv_fzb hN _ rfl rfl rfl (Or.inr rfl) | (refine lv_fz hN _ rfl rfl (by first | exact Or.inr rfl | exact Or.inl rfl) ?_; first | exact RdLe.refl _ | exact RdLe.unn _) | refine le_box hN rfl ?_ | refine le_arr hN rfl rfl ?_ | exact lv_nul hN _ rfl rfl | exact le_new hN rfl rfl rfl rfl | (with_reducible first | refine lv_eq ?_ | refine congrArg C.B ?_ | refine congrArg C.I ?_ | refine congrArg C.R ?_ | refine congrArg (C.int _) ?_ | refine congrArg C.bool ?_))); (try (any_goals (first | (with_reducible rfl) | (refine prop_id ?_; omega)))))
  · exact tab_congr fun v hv => if_neg (by rintro ⟨_, i, h, _⟩; omega)
  intro j hj
  have hyj := hyb j
  have htl2 := tab_len g.prio.length fun v => @ite Int ((v : Int) ∈ xs ∧ ∃ i, i < j ∧ gi ys i = v) (Classical.propDecidable _) 0 (-1)
  (repeat' (first | (with_reducible first | (refine hK _ _ ?_; clear hK K) | (refine hKN _ ?_; clear hKN K) | (refine hKD _ _ _ ?_; clear hKD K) | (refine hKE _ _ ?_; clear hKE K) | refine k_seq ?_ | refine n_sq ?_ | refine a_nil ?_ | refine k_label ?_ | refine k_block ?_ | refine n_bk ?_ | refine k_exit ?_ | refine n_sqx ?_ | refine n_kx ?_ | refine n_bkx ?_ | refine n_bkn rfl ?_ | refine k_ret ?_ | refine n_sqr ?_ | refine n_kr ?_ | refine n_bkr ?_ | refine k_skip ?_ | refine n_k ?_ | refine n_end ?_ | (refine hXX ?_; clear hXX X hYY Y) | (refine hYY ?_; clear hXX X hYY Y)) | (with_reducible refine k_cid ?_; first | refine k_ctl rfl ?_ | refine k_cfl rfl ?_) | (with_reducible refine a_id ?_; first | refine a_passl rfl rfl rfl rfl ?_ | refine a_runl rfl rfl rfl ?_ | refine a_pul rfl rfl rfl rfl ?_) | (with_reducible refine d_id ?_; first | refine d_passl rfl rfl rfl rfl ?_ | refine d_runl rfl rfl rfl ?_ | refine d_pul rfl rfl rfl rfl ?_ | refine d_end hN (by apply Exists.intro; apply And.intro; (repeat' (first | apply FtI.nil | apply FI.nil | apply FI.cons | apply FtI.cons)); kernel_rfl) ?_) | ((first | (with_reducible first | refine a_opd rfl rfl fun K hK => ?_ | refine d_opd rfl rfl fun K hKD => ?_ | refine a_opn rfl rfl fun K hKN => ?_ | refine d_opn rfl rfl fun K hKE => ?_ | refine k_cond fun X Y hXX hYY => ?_ | refine FN_new ?_) | (with_reducible refine a_id ?_; refine a_guard rfl rfl fun X Y hXX hYY => ?_) | (with_reducible refine d_id ?_; refine d_guard rfl rfl fun X Y hXX hYY => ?_)); simp (disch := first | decide | omega | (simp only [List.length_cons, List.length_nil]; omega)) only [go_sem, beq_self_eq_true, ↓tmL_cons, ↓hpL_get hN, hpL_set hN, reduceIte, reduceCtorEq, Nat.reduceAdd, Nat.reduceLT, Nat.reduceLeDiff, Nat.reduceEqDiff, Nat.reduceSub]) | (with_reducible refine And.intro (fun h => ?_) (fun h => ?_) <;> try (exfalso; omega)) | (with_reducible refine k_reg tiOK hN rfl ?_ ?_; kernel_rfl) | (with_reducible refine k_drawn tiOK hN rfl ?_ ?_ ?_ ?_; (kernel_rfl); (kernel_rfl); (kernel_rfl)) | (with_reducible refine And.intro ?_ ?_) | (refine prop_id ?_; omega) | (exact nm_ne hN (by decide))))
  · have hw : (((gi ys j).toNat : Nat) : Int) ∈ xs := by
      have h' : gb (mks g.prio.length fun v => (v : Int) ∈ xs) (gi ys j).toNat = true := by assumption
      rw [gb_mks _ (by omega)] at h'
      exact tf_eq.1 h'
    (refine ⟨j + 1, ⟨?_, ?_⟩, le_L hX hN [] ?_ ?_⟩; (try any_goals dsimp only); (repeat' (first | (with_reducible first | exact LEs.nil _ | exact LTs.nil | exact LVs.nil | refine LEs.cons ?_ ?_ | refine LVs.cons ?_ ?_ | exact lv_any _ | exact lv_c _ | exact le_dead _ | rfl | exact lv_el _ _ | refine lv_agg ?_ | exact lv_k _ | refine lv_fn ?_) | refine LTs.cons rfl ?_ ?_ | exact lv_sl hN _ rfl rfl rfl | exact lv_ad hN _ rfl rfl rfl | exact lv_fzb hN _ rfl rfl rfl (Or.inr rfl) | (refine lv_fz hN _ rfl rfl (by first | exact Or.inr rfl | exact Or.inl rfl) ?_; first | exact RdLe.refl _ | exact RdLe.unn _) | refine le_box hN rfl ?_ | refine le_arr hN rfl rfl ?_ | exact lv_nul hN _ rfl rfl | exact le_new hN rfl rfl rfl rfl | (with_reducible first | refine lv_eq ?_ | refine congrArg C.B ?_ | refine congrArg C.I ?_ | refine congrArg C.R ?_ | refine congrArg (C.int _) ?_ | refine congrArg C.bool ?_))); (try (any_goals (first | (with_reducible rfl) | (refine prop_id ?_; omega)))))
    rw [tab_set (by omega)]
    refine tab_congr fun v hv => ?_
    by_cases e : v = (gi ys j).toNat
    · rw [if_pos e, if_pos]
      exact ⟨e ▸ hw, j, by omega, by omega⟩
    · rw [if_neg e]
      by_cases h1 : (v : Int) ∈ xs ∧ ∃ i, i < j ∧ gi ys i = v
      · rw [if_pos h1, if_pos ⟨h1.1, let ⟨i, a, b⟩ := h1.2; ⟨i, by omega, b⟩⟩]
      · rw [if_neg h1, if_neg fun h2 => h1 ⟨h2.1, let ⟨i, a, b⟩ := h2.2; ⟨i, by
          rcases Nat.lt_or_ge i j with h' | h'
          · exact h'
          · exact absurd (show v = (gi ys j).toNat by rw [show j = i by omega, b, Int.toNat_natCast]) e, b⟩⟩]
  · have hw : ¬ (((gi ys j).toNat : Nat) : Int) ∈ xs := by
      have h' : gb (mks g.prio.length fun v => (v : Int) ∈ xs) (gi ys j).toNat = false := by assumption
      rw [gb_mks _ (by omega)] at h'
      exact fun h => by rw [tf_true h] at h'; cases h'
    (refine ⟨j + 1, ⟨?_, ?_⟩, le_L hX hN [] ?_ ?_⟩; (try any_goals dsimp only); (repeat' (first | (with_reducible first | exact LEs.nil _ | exact LTs.nil | exact LVs.nil | refine LEs.cons ?_ ?_ | refine LVs.cons ?_ ?_ | exact lv_any _ | exact lv_c _ | exact le_dead _ | rfl | exact lv_el _ _ | refine lv_agg ?_ | exact lv_k _ | refine lv_fn ?_) | refine LTs.cons rfl ?_ ?_ | exact lv_sl hN _ rfl rfl rfl | exact lv_ad hN _ rfl rfl rfl | exact lv_fzb hN _ rfl rfl rfl (Or.inr rfl) | (refine lv_fz hN _ rfl rfl (by first | exact Or.inr rfl | exact Or.inl rfl) ?_; first | exact RdLe.refl _ | exact RdLe.unn _) | refine le_box hN rfl ?_ | refine le_arr hN rfl rfl ?_ | exact lv_nul hN _ rfl rfl | exact le_new hN rfl rfl rfl rfl | (with_reducible first | refine lv_eq ?_ | refine congrArg C.B ?_ | refine congrArg C.I ?_ | refine congrArg C.R ?_ | refine congrArg (C.int _) ?_ | refine congrArg C.bool ?_))); (try (any_goals (first | (with_reducible rfl) | (refine prop_id ?_; omega)))))
    refine tab_congr fun v hv => ?_
    by_cases h1 : (v : Int) ∈ xs ∧ ∃ i, i < j ∧ gi ys i = v
    · rw [if_pos h1, if_pos ⟨h1.1, let ⟨i, a, b⟩ := h1.2; ⟨i, by omega, b⟩⟩]
    · rw [if_neg h1, if_neg fun h2 => h1 ⟨h2.1, let ⟨i, a, b⟩ := h2.2; ⟨i, by
        rcases Nat.lt_or_ge i j with h' | h'
        · exact h'
        · exact absurd (show (((gi ys j).toNat : Nat) : Int) ∈ xs by rw [show j = i by omega, b, Int.toNat_natCast]; exact h2.1) hw, b⟩⟩]
  have hr0 : (tab g.prio.length fun v => @ite Int ((v : Int) ∈ xs ∧ ∃ i, i < j ∧ gi ys i = v) (Classical.propDecidable _) 0 (-1)) = tab g.prio.length (rkV (pgA g) who (fun v => (v : Int) ∈ xs) (fun v => (v : Int) ∈ ys) 0) := by
    refine tab_congr fun v hv => ?_
    have e : ((v : Int) ∈ xs ∧ ∃ i, i < j ∧ gi ys i = v) ↔ ((v : Int) ∈ xs ∧ (v : Int) ∈ ys) := by
      rw [show j = ys.length by omega]
      exact and_congr_right fun _ => mem_iff_gi.symm
    have e2 : rkV (pgA g) who (fun v => (v : Int) ∈ xs) (fun v => (v : Int) ∈ ys) 0 v = @ite Int ((v : Int) ∈ xs ∧ (v : Int) ∈ ys) (Classical.propDecidable _) 0 (-1) := rfl
    rw [e2]
    by_cases h1 : (v : Int) ∈ xs ∧ (v : Int) ∈ ys
    · rw [if_pos (e.2 h1), if_pos h1]
    · rw [if_neg fun h => h1 (e.1 h), if_neg h1]
  rw [hr0]
  clear hr0 htl2
  (refine k_loop (fun (r : Nat) => (tmL [(14, .c (.int .i64 r)), (10, .sl (ν 2)), (9, .sl (ν 1)), (1, .c (.int .i64 who)), (2, .c (.I xs)), (4, .ad (ν 0) 0)], hpL hp0 ν [.box [.c (.I g.ar.own), .c (.R g.ar.nxt)], .arr 4 .yes (.B (mks g.prio.length fun v => (v : Int) ∈ xs)), .arr 2 .yes (.I (tab g.prio.length (rkV (pgA g) who (fun v => (v : Int) ∈ xs) (fun v => (v : Int) ∈ ys) r)))])) (fun (r : Nat) => r ≤ num (PG.AttrN (pgA g) who (fun v => (v : Int) ∈ xs) (fun v => (v : Int) ∈ ys) r) g.prio.length) (fun (r : Nat) => g.prio.length - num (PG.AttrN (pgA g) who (fun v => (v : Int) ∈ xs) (fun v => (v : Int) ∈ ys) r) g.prio.length) ⟨0, ?_, le_L hX hN [] ?_ ?_⟩ ?_; (repeat' (first | (with_reducible first | exact LEs.nil _ | exact LTs.nil | exact LVs.nil | refine LEs.cons ?_ ?_ | refine LVs.cons ?_ ?_ | exact lv_any _ | exact lv_c _ | exact le_dead _ | rfl | exact lv_el _ _ | refine lv_agg ?_ | exact lv_k _ | refine lv_fn ?_) | refine LTs.cons rfl ?_ ?_ | exact lv_sl hN _ rfl rfl rfl | exact lv_ad hN _ rfl rfl rfl | exact lv_fzb hN _ rfl rfl rfl (Or.inr rfl) | (refine lv_fz hN _ rfl rfl (by first | exact Or.inr rfl | exact Or.inl rfl) ?_; first | exact RdLe.refl _ | exact RdLe.unn _) | refine le_box hN rfl ?_ | refine le_arr hN rfl rfl ?_ | exact lv_nul hN _ rfl rfl | exact le_new hN rfl rfl rfl rfl | (with_reducible first | refine lv_eq ?_ | refine congrArg C.B ?_ | refine congrArg C.I ?_ | refine congrArg C.R ?_ | refine congrArg (C.int _) ?_ | refine congrArg C.bool ?_))); (try (any_goals (first | (with_reducible rfl) | (refine prop_id ?_; omega)))))
  intro r hr
  have hnl := num_le (p := PG.AttrN (pgA g) who (fun v => (v : Int) ∈ xs) (fun v => (v : Int) ∈ ys) r) (k := g.prio.length)
  have htr := tab_len g.prio.length (rkV (pgA g) who (fun v => (v : Int) ∈ xs) (fun v => (v : Int) ∈ ys) r)
  (repeat' (first | (with_reducible first | (refine hK _ _ ?_; clear hK K) | (refine hKN _ ?_; clear hKN K) | (refine hKD _ _ _ ?_; clear hKD K) | (refine hKE _ _ ?_; clear hKE K) | refine k_seq ?_ | refine n_sq ?_ | refine a_nil ?_ | refine k_label ?_ | refine k_block ?_ | refine n_bk ?_ | refine k_exit ?_ | refine n_sqx ?_ | refine n_kx ?_ | refine n_bkx ?_ | refine n_bkn rfl ?_ | refine k_ret ?_ | refine n_sqr ?_ | refine n_kr ?_ | refine n_bkr ?_ | refine k_skip ?_ | refine n_k ?_ | refine n_end ?_ | (refine hXX ?_; clear hXX X hYY Y) | (refine hYY ?_; clear hXX X hYY Y)) | (with_reducible refine k_cid ?_; first | refine k_ctl rfl ?_ | refine k_cfl rfl ?_) | (with_reducible refine a_id ?_; first | refine a_passl rfl rfl rfl rfl ?_ | refine a_runl rfl rfl rfl ?_ | refine a_pul rfl rfl rfl rfl ?_) | (with_reducible refine d_id ?_; first | refine d_passl rfl rfl rfl rfl ?_ | refine d_runl rfl rfl rfl ?_ | refine d_pul rfl rfl rfl rfl ?_ | refine d_end hN (by apply Exists.intro; apply And.intro; (repeat' (first | apply FtI.nil | apply FI.nil | apply FI.cons | apply FtI.cons)); kernel_rfl) ?_) | ((first | (with_reducible first | refine a_opd rfl rfl fun K hK => ?_ | refine d_opd rfl rfl fun K hKD => ?_ | refine a_opn rfl rfl fun K hKN => ?_ | refine d_opn rfl rfl fun K hKE => ?_ | refine k_cond fun X Y hXX hYY => ?_ | refine FN_new ?_) | (with_reducible refine a_id ?_; refine a_guard rfl rfl fun X Y hXX hYY => ?_) | (with_reducible refine d_id ?_; refine d_guard rfl rfl fun X Y hXX hYY => ?_)); simp (disch := first | decide | omega | (simp only [List.length_cons, List.length_nil]; omega)) only [go_sem, beq_self_eq_true, ↓tmL_cons, ↓hpL_get hN, hpL_set hN, reduceIte, reduceCtorEq, Nat.reduceAdd, Nat.reduceLT, Nat.reduceLeDiff, Nat.reduceEqDiff, Nat.reduceSub]) | (with_reducible refine And.intro (fun h => ?_) (fun h => ?_) <;> try (exfalso; omega)) | (with_reducible refine k_reg tiOK hN rfl ?_ ?_; kernel_rfl) | (with_reducible refine k_drawn tiOK hN rfl ?_ ?_ ?_ ?_; (kernel_rfl); (kernel_rfl); (kernel_rfl)) | (with_reducible refine And.intro ?_ ?_) | (refine prop_id ?_; omega) | (exact nm_ne hN (by decide))))
  (refine k_loop (fun (j : Nat) => (tmL [(55, .c (.int .i64 j)), (54, .c (.int .i64 xs.length)), (53, .c (.I xs)), (15, .sl (ν 3)), (14, .c (.int .i64 r)), (10, .sl (ν 2)), (9, .sl (ν 1)), (1, .c (.int .i64 who)), (2, .c (.I xs)), (4, .ad (ν 0) 0)], hpL hp0 ν [.box [.c (.I g.ar.own), .c (.R g.ar.nxt)], .arr 4 .yes (.B (mks g.prio.length fun v => (v : Int) ∈ xs)), .arr 2 .yes (.I (tab g.prio.length (rkV (pgA g) who (fun v => (v : Int) ∈ xs) (fun v => (v : Int) ∈ ys) r))), .arr 2 .yes (.I (filt (fun x => ¬ 0 ≤ rkV (pgA g) who (fun v => (v : Int) ∈ xs) (fun v => (v : Int) ∈ ys) r x.toNat ∧ PG.AttrN (pgA g) who (fun v => (v : Int) ∈ xs) (fun v => (v : Int) ∈ ys) (r + 1) x.toNat) xs j))])) (fun (j : Nat) => j ≤ xs.length) (fun (j : Nat) => xs.length - j) ⟨0, ?_, le_L hX hN [] ?_ ?_⟩ ?_; (repeat' (first | (with_reducible first | exact LEs.nil _ | exact LTs.nil | exact LVs.nil | refine LEs.cons ?_ ?_ | refine LVs.cons ?_ ?_ | exact lv_any _ | exact lv_c _ | exact le_dead _ | rfl | exact lv_el _ _ | refine lv_agg ?_ | exact lv_k _ | refine lv_fn ?_) | refine LTs.cons rfl ?_ ?_ | exact lv_sl hN _ rfl rfl rfl | exact lv_ad hN _ rfl rfl rfl | exact lv_fzb hN _ rfl rfl rfl (Or.inr rfl) | (refine lv_fz hN _ rfl rfl (by first | exact Or.inr rfl | exact Or.inl rfl) ?_; first | exact RdLe.refl _ | exact RdLe.unn _) | refine le_box hN rfl ?_ | refine le_arr hN rfl rfl ?_ | exact lv_nul hN _ rfl rfl | exact le_new hN rfl rfl rfl rfl | (with_reducible first | refine lv_eq ?_ | refine congrArg C.B ?_ | refine congrArg C.I ?_ | refine congrArg C.R ?_ | refine congrArg (C.int _) ?_ | refine congrArg C.bool ?_))); (try (any_goals (first | (with_reducible rfl) | (refine prop_id ?_; omega)))))
  · rfl
  intro j hj
  have hxj := hxb j
  have hfl := filt_len (fun x => ¬ 0 ≤ rkV (pgA g) who (fun v => (v : Int) ∈ xs) (fun v => (v : Int) ∈ ys) r x.toNat ∧ PG.AttrN (pgA g) who (fun v => (v : Int) ∈ xs) (fun v => (v : Int) ∈ ys) (r + 1) x.toNat) xs j
  rcases Nat.lt_or_ge j xs.length with hjl | hjl
  · obtain ⟨u, hu, hun⟩ : ∃ u : Nat, gi xs j = u ∧ u < g.prio.length := ⟨(gi xs j).toNat, by omega, by omega⟩
    have hp := isPulled_f g.ar ha who (mks g.prio.length fun v => (v : Int) ∈ xs) (by omega) (tab g.prio.length (rkV (pgA g) who (fun v => (v : Int) ∈ xs) (fun v => (v : Int) ∈ ys) r)) (by omega) u (by omega)
    rw [← hu] at hp
    have hut : (gi xs j).toNat = u := by rw [hu, Int.toNat_natCast]
    have hum : (u : Int) ∈ xs := hu ▸ gi_mem hjl
    (repeat' (first | (with_reducible first | (refine hK _ _ ?_; clear hK K) | (refine hKN _ ?_; clear hKN K) | (refine hKD _ _ _ ?_; clear hKD K) | (refine hKE _ _ ?_; clear hKE K) | refine k_seq ?_ | refine n_sq ?_ | refine a_nil ?_ | refine k_label ?_ | refine k_block ?_ | refine n_bk ?_ | refine k_exit ?_ | refine n_sqx ?_ | refine n_kx ?_ | refine n_bkx ?_ | refine n_bkn rfl ?_ | refine k_ret ?_ | refine n_sqr ?_ | refine n_kr ?_ | refine n_bkr ?_ | refine k_skip ?_ | refine n_k ?_ | refine n_end ?_ | (refine hXX ?_; clear hXX X hYY Y) | (refine hYY ?_; clear hXX X hYY Y)) | (with_reducible refine k_cid ?_; first | refine k_ctl rfl ?_ | refine k_cfl rfl ?_) | (with_reducible refine a_id ?_; first | refine a_passl rfl rfl rfl rfl ?_ | refine a_runl rfl rfl rfl ?_ | refine a_pul rfl rfl rfl rfl ?_) | (with_reducible refine d_id ?_; first | refine d_passl rfl rfl rfl rfl ?_ | refine d_runl rfl rfl rfl ?_ | refine d_pul rfl rfl rfl rfl ?_ | refine d_end hN (by apply Exists.intro; apply And.intro; (repeat' (first | apply FtI.nil | apply FI.nil | apply FI.cons | apply FtI.cons)); kernel_rfl) ?_) | ((first | (with_reducible first | refine a_opd rfl rfl fun K hK => ?_ | refine d_opd rfl rfl fun K hKD => ?_ | refine a_opn rfl rfl fun K hKN => ?_ | refine d_opn rfl rfl fun K hKE => ?_ | refine k_cond fun X Y hXX hYY => ?_ | refine FN_new ?_) | (with_reducible refine a_id ?_; refine a_guard rfl rfl fun X Y hXX hYY => ?_) | (with_reducible refine d_id ?_; refine d_guard rfl rfl fun X Y hXX hYY => ?_)); simp (disch := first | decide | omega | (simp only [List.length_cons, List.length_nil]; omega)) only [go_sem, beq_self_eq_true, ↓tmL_cons, ↓hpL_get hN, hpL_set hN, reduceIte, reduceCtorEq, Nat.reduceAdd, Nat.reduceLT, Nat.reduceLeDiff, Nat.reduceEqDiff, Nat.reduceSub]) | (with_reducible refine And.intro (fun h => ?_) (fun h => ?_) <;> try (exfalso; omega)) | (with_reducible refine k_reg tiOK hN rfl ?_ ?_; kernel_rfl) | (with_reducible refine k_drawn tiOK hN rfl ?_ ?_ ?_ ?_; (kernel_rfl); (kernel_rfl); (kernel_rfl)) | (refine k_call (hp) ?_ rfl (fun _ => rfl) ?_; focus ((repeat' (first | (with_reducible first | exact Args_nil | refine Args_cons ?_ ?_ | exact ag_c _ | refine ag_agg ?_ | exact ag_elA _ | exact ag_el _ _ | refine ag_fn ?_ | exact ag_unn _) | exact ag_box hN rfl rfl | (refine ag_fz hN rfl ?_; first | exact RdLe.refl _ | exact RdLe.unn _) | exact ag_nul rfl rfl rfl)); done)) | (with_reducible first | exact Args_nil | refine Args_cons ?_ ?_ | exact ag_c _ | refine ag_agg ?_ | exact ag_elA _ | exact ag_el _ _ | refine ag_fn ?_ | exact ag_unn _) | exact ag_box hN rfl rfl | (refine ag_fz hN rfl ?_; first | exact RdLe.refl _ | exact RdLe.unn _) | exact ag_nul rfl rfl rfl | (simp only [hpUp, List.map_nil]) | (with_reducible refine FN_nil ?_) | (with_reducible refine And.intro ?_ ?_) | (refine prop_id ?_; omega) | (exact nm_ne hN (by decide))))
    · have h1 : rkV (pgA g) who (fun v => (v : Int) ∈ xs) (fun v => (v : Int) ∈ ys) r (gi xs j).toNat < 0 := by assumption
      have h2 : PulP g.ar who (mks g.prio.length fun v => (v : Int) ∈ xs) (tab g.prio.length (rkV (pgA g) who (fun v => (v : Int) ∈ xs) (fun v => (v : Int) ∈ ys) r)) u := by assumption
      rw [hut] at h1
      (refine ⟨j + 1, ⟨?_, ?_⟩, le_L hX hN [(3, 5)] ?_ ?_⟩; (try any_goals dsimp only); (repeat' (first | (with_reducible first | exact LEs.nil _ | exact LTs.nil | exact LVs.nil | refine LEs.cons ?_ ?_ | refine LVs.cons ?_ ?_ | exact lv_any _ | exact lv_c _ | exact le_dead _ | rfl | exact lv_el _ _ | refine lv_agg ?_ | exact lv_k _ | refine lv_fn ?_) | refine LTs.cons rfl ?_ ?_ | exact lv_sl hN _ rfl rfl rfl | exact lv_ad hN _ rfl rfl rfl | exact lv_fzb hN _ rfl rfl rfl (Or.inr rfl) | (refine lv_fz hN _ rfl rfl (by first | exact Or.inr rfl | exact Or.inl rfl) ?_; first | exact RdLe.refl _ | exact RdLe.unn _) | refine le_box hN rfl ?_ | refine le_arr hN rfl rfl ?_ | exact lv_nul hN _ rfl rfl | exact le_new hN rfl rfl rfl rfl | (with_reducible first | refine lv_eq ?_ | refine congrArg C.B ?_ | refine congrArg C.I ?_ | refine congrArg C.R ?_ | refine congrArg (C.int _) ?_ | refine congrArg C.bool ?_))); (try (any_goals (first | (with_reducible rfl) | (refine prop_id ?_; omega)))))
      refine filt_yes ?_
      rw [hut]
      exact ⟨by omega, (pul_iff hg hun hum hxb (by omega)).1 h2⟩
    · have h1 : rkV (pgA g) who (fun v => (v : Int) ∈ xs) (fun v => (v : Int) ∈ ys) r (gi xs j).toNat < 0 := by assumption
      have h2 : ¬ PulP g.ar who (mks g.prio.length fun v => (v : Int) ∈ xs) (tab g.prio.length (rkV (pgA g) who (fun v => (v : Int) ∈ xs) (fun v => (v : Int) ∈ ys) r)) u := by assumption
      rw [hut] at h1
      (refine ⟨j + 1, ⟨?_, ?_⟩, le_L hX hN [] ?_ ?_⟩; (try any_goals dsimp only); (repeat' (first | (with_reducible first | exact LEs.nil _ | exact LTs.nil | exact LVs.nil | refine LEs.cons ?_ ?_ | refine LVs.cons ?_ ?_ | exact lv_any _ | exact lv_c _ | exact le_dead _ | rfl | exact lv_el _ _ | refine lv_agg ?_ | exact lv_k _ | refine lv_fn ?_) | refine LTs.cons rfl ?_ ?_ | exact lv_sl hN _ rfl rfl rfl | exact lv_ad hN _ rfl rfl rfl | exact lv_fzb hN _ rfl rfl rfl (Or.inr rfl) | (refine lv_fz hN _ rfl rfl (by first | exact Or.inr rfl | exact Or.inl rfl) ?_; first | exact RdLe.refl _ | exact RdLe.unn _) | refine le_box hN rfl ?_ | refine le_arr hN rfl rfl ?_ | exact lv_nul hN _ rfl rfl | exact le_new hN rfl rfl rfl rfl | (with_reducible first | refine lv_eq ?_ | refine congrArg C.B ?_ | refine congrArg C.I ?_ | refine congrArg C.R ?_ | refine congrArg (C.int _) ?_ | refine congrArg C.bool ?_))); (try (any_goals (first | (with_reducible rfl) | (refine prop_id ?_; omega)))))
      refine filt_no ?_
      rw [hut]
      exact fun h => h2 ((pul_iff hg hun hum hxb (by omega)).2 h.2)
    · have h1 : ¬ rkV (pgA g) who (fun v => (v : Int) ∈ xs) (fun v => (v : Int) ∈ ys) r (gi xs j).toNat < 0 := by assumption
      rw [hut] at h1
      (refine ⟨j + 1, ⟨?_, ?_⟩, le_L hX hN [] ?_ ?_⟩; (try any_goals dsimp only); (repeat' (first | (with_reducible first | exact LEs.nil _ | exact LTs.nil | exact LVs.nil | refine LEs.cons ?_ ?_ | refine LVs.cons ?_ ?_ | exact lv_any _ | exact lv_c _ | exact le_dead _ | rfl | exact lv_el _ _ | refine lv_agg ?_ | exact lv_k _ | refine lv_fn ?_) | refine LTs.cons rfl ?_ ?_ | exact lv_sl hN _ rfl rfl rfl | exact lv_ad hN _ rfl rfl rfl | exact lv_fzb hN _ rfl rfl rfl (Or.inr rfl) | (refine lv_fz hN _ rfl rfl (by first | exact Or.inr rfl | exact Or.inl rfl) ?_; first | exact RdLe.refl _ | exact RdLe.unn _) | refine le_box hN rfl ?_ | refine le_arr hN rfl rfl ?_ | exact lv_nul hN _ rfl rfl | exact le_new hN rfl rfl rfl rfl | (with_reducible first | refine lv_eq ?_ | refine congrArg C.B ?_ | refine congrArg C.I ?_ | refine congrArg C.R ?_ | refine congrArg (C.int _) ?_ | refine congrArg C.bool ?_))); (try (any_goals (first | (with_reducible rfl) | (refine prop_id ?_; omega)))))
      refine filt_no ?_
      rw [hut]
      exact fun h => h.1 (by omega)
  obtain rfl : j = xs.length := by omega
  have hfm : ∀ x, x ∈ filt (fun x => ¬ 0 ≤ rkV (pgA g) who (fun v => (v : Int) ∈ xs) (fun v => (v : Int) ∈ ys) r x.toNat ∧ PG.AttrN (pgA g) who (fun v => (v : Int) ∈ xs) (fun v => (v : Int) ∈ ys) (r + 1) x.toNat) xs xs.length ↔ x ∈ xs ∧ ¬ 0 ≤ rkV (pgA g) who (fun v => (v : Int) ∈ xs) (fun v => (v : Int) ∈ ys) r x.toNat ∧ PG.AttrN (pgA g) who (fun v => (v : Int) ∈ xs) (fun v => (v : Int) ∈ ys) (r + 1) x.toNat := fun x => by
    rw [mem_filtA _ (Nat.le_refl _), mem_iff_gi]
    exact ⟨fun ⟨t, a, b, c⟩ => ⟨⟨t, a, b⟩, c⟩, fun ⟨⟨t, a, b⟩, c⟩ => ⟨t, a, b, c⟩⟩
  clear hxj
  generalize filt (fun x => ¬ 0 ≤ rkV (pgA g) who (fun v => (v : Int) ∈ xs) (fun v => (v : Int) ∈ ys) r x.toNat ∧ PG.AttrN (pgA g) who (fun v => (v : Int) ∈ xs) (fun v => (v : Int) ∈ ys) (r + 1) x.toNat) xs xs.length = fnd at *
  have hfb : Bnd fnd g.prio.length := fun t ht => by
    obtain ⟨t', h1, h2⟩ := mem_gi ((hfm _).1 (gi_mem ht)).1
    rw [← h2]; exact hxb t' h1
  (repeat' (first | (with_reducible first | (refine hK _ _ ?_; clear hK K) | (refine hKN _ ?_; clear hKN K) | (refine hKD _ _ _ ?_; clear hKD K) | (refine hKE _ _ ?_; clear hKE K) | refine k_seq ?_ | refine n_sq ?_ | refine a_nil ?_ | refine k_label ?_ | refine k_block ?_ | refine n_bk ?_ | refine k_exit ?_ | refine n_sqx ?_ | refine n_kx ?_ | refine n_bkx ?_ | refine n_bkn rfl ?_ | refine k_ret ?_ | refine n_sqr ?_ | refine n_kr ?_ | refine n_bkr ?_ | refine k_skip ?_ | refine n_k ?_ | refine n_end ?_ | (refine hXX ?_; clear hXX X hYY Y) | (refine hYY ?_; clear hXX X hYY Y)) | (with_reducible refine k_cid ?_; first | refine k_ctl rfl ?_ | refine k_cfl rfl ?_) | (with_reducible refine a_id ?_; first | refine a_passl rfl rfl rfl rfl ?_ | refine a_runl rfl rfl rfl ?_ | refine a_pul rfl rfl rfl rfl ?_) | (with_reducible refine d_id ?_; first | refine d_passl rfl rfl rfl rfl ?_ | refine d_runl rfl rfl rfl ?_ | refine d_pul rfl rfl rfl rfl ?_ | refine d_end hN (by apply Exists.intro; apply And.intro; (repeat' (first | apply FtI.nil | apply FI.nil | apply FI.cons | apply FtI.cons)); kernel_rfl) ?_) | ((first | (with_reducible first | refine a_opd rfl rfl fun K hK => ?_ | refine d_opd rfl rfl fun K hKD => ?_ | refine a_opn rfl rfl fun K hKN => ?_ | refine d_opn rfl rfl fun K hKE => ?_ | refine k_cond fun X Y hXX hYY => ?_ | refine FN_new ?_) | (with_reducible refine a_id ?_; refine a_guard rfl rfl fun X Y hXX hYY => ?_) | (with_reducible refine d_id ?_; refine d_guard rfl rfl fun X Y hXX hYY => ?_)); simp (disch := first | decide | omega | (simp only [List.length_cons, List.length_nil]; omega)) only [go_sem, beq_self_eq_true, ↓tmL_cons, ↓hpL_get hN, hpL_set hN, reduceIte, reduceCtorEq, Nat.reduceAdd, Nat.reduceLT, Nat.reduceLeDiff, Nat.reduceEqDiff, Nat.reduceSub]) | (with_reducible refine And.intro (fun h => ?_) (fun h => ?_) <;> try (exfalso; omega)) | (with_reducible refine k_reg tiOK hN rfl ?_ ?_; kernel_rfl) | (with_reducible refine k_drawn tiOK hN rfl ?_ ?_ ?_ ?_; (kernel_rfl); (kernel_rfl); (kernel_rfl)) | (with_reducible refine And.intro ?_ ?_) | (refine prop_id ?_; omega) | (exact nm_ne hN (by decide))))
  · have hf0 : fnd = [] := List.eq_nil_of_length_eq_zero (by omega)
    have hst : ∀ v, PG.AttrN (pgA g) who (fun v => (v : Int) ∈ xs) (fun v => (v : Int) ∈ ys) (r + 1) v → PG.AttrN (pgA g) who (fun v => (v : Int) ∈ xs) (fun v => (v : Int) ∈ ys) r v := fun v hv => by
      rcases Classical.em (PG.AttrN (pgA g) who (fun v => (v : Int) ∈ xs) (fun v => (v : Int) ∈ ys) r v) with h | h
      · exact h
      · have : (v : Int) ∈ fnd := (hfm v).2 ⟨PG.attrN_in hv, fun h' => h ((rkV_iff r v).1 h'), hv⟩
        rw [hf0] at this; cases this
    (refine ret_sl hN (i := 2) (.inr rfl) (by first | rfl | (simp (disch := first | decide | omega | (simp only [List.length_cons, List.length_nil]; omega)) only [resV, resL, resA, boxA, go_sem, beq_self_eq_true, ↓tmL_cons, ↓hpL_get hN, hpL_set hN, reduceIte, reduceCtorEq, Nat.reduceAdd, Nat.reduceLT, Nat.reduceLeDiff, Nat.reduceEqDiff, Nat.reduceSub]; rfl)) rfl ?_ rfl)
    exact congrArg C.I (tab_congr fun v _ => (rkV_stop hst g.prio.length (by omega) v).symm)
  have hfne : fnd.length ≠ 0 := len_ne' (by assumption)
  (refine k_loop (fun (i : Nat) => (tmL [(83, .c (.int .i64 i)), (82, .c (.int .i64 fnd.length)), (81, .sl (ν 3)), (14, .c (.int .i64 r)), (10, .sl (ν 2)), (9, .sl (ν 1)), (1, .c (.int .i64 who)), (2, .c (.I xs)), (4, .ad (ν 0) 0)], hpL hp0 ν [.box [.c (.I g.ar.own), .c (.R g.ar.nxt)], .arr 4 .yes (.B (mks g.prio.length fun v => (v : Int) ∈ xs)), .arr 2 .yes (.I (tab g.prio.length fun v => @ite Int (∃ t, t < i ∧ gi fnd t = v) (Classical.propDecidable _) ((r : Int) + 1) (rkV (pgA g) who (fun v => (v : Int) ∈ xs) (fun v => (v : Int) ∈ ys) r v))), .arr 2 .yes (.I fnd)])) (fun (i : Nat) => i ≤ fnd.length) (fun (i : Nat) => fnd.length - i) ⟨0, ?_, le_L hX hN [] ?_ ?_⟩ ?_; (repeat' (first | (with_reducible first | exact LEs.nil _ | exact LTs.nil | exact LVs.nil | refine LEs.cons ?_ ?_ | refine LVs.cons ?_ ?_ | exact lv_any _ | exact lv_c _ | exact le_dead _ | rfl | exact lv_el _ _ | refine lv_agg ?_ | exact lv_k _ | refine lv_fn ?_) | refine LTs.cons rfl ?_ ?_ | exact lv_sl hN _ rfl rfl rfl | exact lv_ad hN _ rfl rfl rfl | exact lv_fzb hN _ rfl rfl rfl (Or.inr rfl) | (refine lv_fz hN _ rfl rfl (by first | exact Or.inr rfl | exact Or.inl rfl) ?_; first | exact RdLe.refl _ | exact RdLe.unn _) | refine le_box hN rfl ?_ | refine le_arr hN rfl rfl ?_ | exact lv_nul hN _ rfl rfl | exact le_new hN rfl rfl rfl rfl | (with_reducible first | refine lv_eq ?_ | refine congrArg C.B ?_ | refine congrArg C.I ?_ | refine congrArg C.R ?_ | refine congrArg (C.int _) ?_ | refine congrArg C.bool ?_))); (try (any_goals (first | (with_reducible rfl) | (refine prop_id ?_; omega)))))
  · exact tab_congr fun v hv => if_neg (by rintro ⟨t, h, _⟩; omega)
  intro i hi
  have hfi := hfb i
  have htl3 := tab_len g.prio.length fun v => @ite Int (∃ t, t < i ∧ gi fnd t = v) (Classical.propDecidable _) ((r : Int) + 1) (rkV (pgA g) who (fun v => (v : Int) ∈ xs) (fun v => (v : Int) ∈ ys) r v)
  (repeat' (first | (with_reducible first | (refine hK _ _ ?_; clear hK K) | (refine hKN _ ?_; clear hKN K) | (refine hKD _ _ _ ?_; clear hKD K) | (refine hKE _ _ ?_; clear hKE K) | refine k_seq ?_ | refine n_sq ?_ | refine a_nil ?_ | refine k_label ?_ | refine k_block ?_ | refine n_bk ?_ | refine k_exit ?_ | refine n_sqx ?_ | refine n_kx ?_ | refine n_bkx ?_ | refine n_bkn rfl ?_ | refine k_ret ?_ | refine n_sqr ?_ | refine n_kr ?_ | refine n_bkr ?_ | refine k_skip ?_ | refine n_k ?_ | refine n_end ?_ | (refine hXX ?_; clear hXX X hYY Y) | (refine hYY ?_; clear hXX X hYY Y)) | (with_reducible refine k_cid ?_; first | refine k_ctl rfl ?_ | refine k_cfl rfl ?_) | (with_reducible refine a_id ?_; first | refine a_passl rfl rfl rfl rfl ?_ | refine a_runl rfl rfl rfl ?_ | refine a_pul rfl rfl rfl rfl ?_) | (with_reducible refine d_id ?_; first | refine d_passl rfl rfl rfl rfl ?_ | refine d_runl rfl rfl rfl ?_ | refine d_pul rfl rfl rfl rfl ?_ | refine d_end hN (by apply Exists.intro; apply And.intro; (repeat' (first | apply FtI.nil | apply FI.nil | apply FI.cons | apply FtI.cons)); kernel_rfl) ?_) | ((first | (with_reducible first | refine a_opd rfl rfl fun K hK => ?_ | refine d_opd rfl rfl fun K hKD => ?_ | refine a_opn rfl rfl fun K hKN => ?_ | refine d_opn rfl rfl fun K hKE => ?_ | refine k_cond fun X Y hXX hYY => ?_ | refine FN_new ?_) | (with_reducible refine a_id ?_; refine a_guard rfl rfl fun X Y hXX hYY => ?_) | (with_reducible refine d_id ?_; refine d_guard rfl rfl fun X Y hXX hYY => ?_)); simp (disch := first | decide | omega | (simp only [List.length_cons, List.length_nil]; omega)) only [go_sem, beq_self_eq_true, ↓tmL_cons, ↓hpL_get hN, hpL_set hN, reduceIte, reduceCtorEq, Nat.reduceAdd, Nat.reduceLT, Nat.reduceLeDiff, Nat.reduceEqDiff, Nat.reduceSub]) | (with_reducible refine And.intro (fun h => ?_) (fun h => ?_) <;> try (exfalso; omega)) | (with_reducible refine k_reg tiOK hN rfl ?_ ?_; kernel_rfl) | (with_reducible refine k_drawn tiOK hN rfl ?_ ?_ ?_ ?_; (kernel_rfl); (kernel_rfl); (kernel_rfl)) | (with_reducible refine And.intro ?_ ?_) | (refine prop_id ?_; omega) | (exact nm_ne hN (by decide))))
  · (refine ⟨i + 1, ⟨?_, ?_⟩, le_L hX hN [] ?_ ?_⟩; (try any_goals dsimp only); (repeat' (first | (with_reducible first | exact LEs.nil _ | exact LTs.nil | exact LVs.nil | refine LEs.cons ?_ ?_ | refine LVs.cons ?_ ?_ | exact lv_any _ | exact lv_c _ | exact le_dead _ | rfl | exact lv_el _ _ | refine lv_agg ?_ | exact lv_k _ | refine lv_fn ?_) | refine LTs.cons rfl ?_ ?_ | exact lv_sl hN _ rfl rfl rfl | exact lv_ad hN _ rfl rfl rfl | exact lv_fzb hN _ rfl rfl rfl (Or.inr rfl) | (refine lv_fz hN _ rfl rfl (by first | exact Or.inr rfl | exact Or.inl rfl) ?_; first | exact RdLe.refl _ | exact RdLe.unn _) | refine le_box hN rfl ?_ | refine le_arr hN rfl rfl ?_ | exact lv_nul hN _ rfl rfl | exact le_new hN rfl rfl rfl rfl | (with_reducible first | refine lv_eq ?_ | refine congrArg C.B ?_ | refine congrArg C.I ?_ | refine congrArg C.R ?_ | refine congrArg (C.int _) ?_ | refine congrArg C.bool ?_))); (try (any_goals (first | (with_reducible rfl) | (refine prop_id ?_; omega)))))
    rw [tab_set (by omega)]
    refine tab_congr fun v hv => ?_
    by_cases e : v = (gi fnd i).toNat
    · rw [if_pos e, if_pos ⟨i, by omega, by omega⟩]
    · rw [if_neg e]
      by_cases h1 : ∃ t, t < i ∧ gi fnd t = v
      · rw [if_pos h1, if_pos (let ⟨t, a, b⟩ := h1; ⟨t, by omega, b⟩)]
      · rw [if_neg h1, if_neg fun h2 => h1 (let ⟨t, a, b⟩ := h2; ⟨t, by
          rcases Nat.lt_or_ge t i with h' | h'
          · exact h'
          · exact absurd (show v = (gi fnd i).toNat by rw [show i = t by omega, b, Int.toNat_natCast]) e, b⟩)]
  · obtain rfl : i = fnd.length := by omega
    have hm0 := (hfm _).1 (gi_mem (show 0 < fnd.length by omega))
    have hb0 := hfb 0 (by omega)
    have hnum := attr_num (P := pgA g) (who := who) (S := fun v => (v : Int) ∈ xs) (T := fun v => (v : Int) ∈ ys) (n := g.prio.length) (k := r) (v := (gi fnd 0).toNat) (by omega) hm0.2.2 fun h => hm0.2.1 ((rkV_iff r _).2 h)
    have hnl2 := num_le (p := PG.AttrN (pgA g) who (fun v => (v : Int) ∈ xs) (fun v => (v : Int) ∈ ys) (r + 1)) (k := g.prio.length)
    (refine ⟨r + 1, ⟨?_, ?_⟩, le_L hX hN [] ?_ ?_⟩; (try any_goals dsimp only); (repeat' (first | (with_reducible first | exact LEs.nil _ | exact LTs.nil | exact LVs.nil | refine LEs.cons ?_ ?_ | refine LVs.cons ?_ ?_ | exact lv_any _ | exact lv_c _ | exact le_dead _ | rfl | exact lv_el _ _ | refine lv_agg ?_ | exact lv_k _ | refine lv_fn ?_) | refine LTs.cons rfl ?_ ?_ | exact lv_sl hN _ rfl rfl rfl | exact lv_ad hN _ rfl rfl rfl | exact lv_fzb hN _ rfl rfl rfl (Or.inr rfl) | (refine lv_fz hN _ rfl rfl (by first | exact Or.inr rfl | exact Or.inl rfl) ?_; first | exact RdLe.refl _ | exact RdLe.unn _) | refine le_box hN rfl ?_ | refine le_arr hN rfl rfl ?_ | exact lv_nul hN _ rfl rfl | exact le_new hN rfl rfl rfl rfl | (with_reducible first | refine lv_eq ?_ | refine congrArg C.B ?_ | refine congrArg C.I ?_ | refine congrArg C.R ?_ | refine congrArg (C.int _) ?_ | refine congrArg C.bool ?_))); (try (any_goals (first | (with_reducible rfl) | (refine prop_id ?_; omega)))))
    refine tab_congr fun v hv => ?_
    by_cases h0 : 0 ≤ rkV (pgA g) who (fun v => (v : Int) ∈ xs) (fun v => (v : Int) ∈ ys) r v
    · rw [rkV_old h0, if_neg]
      rintro ⟨t, a, b⟩
      have := ((hfm _).1 (gi_mem a)).2.1
      rw [b, Int.toNat_natCast] at this
      exact this h0
    · by_cases h1 : PG.AttrN (pgA g) who (fun v => (v : Int) ∈ xs) (fun v => (v : Int) ∈ ys) (r + 1) v
      · rw [rkV_new h0 h1, if_pos]
        exact mem_gi ((hfm v).2 ⟨PG.attrN_in h1, by rw [Int.toNat_natCast]; exact h0, by rw [Int.toNat_natCast]; exact h1⟩)
      · rw [rkV_none h0 h1, if_neg]
        rintro ⟨t, a, b⟩
        have := ((hfm _).1 (gi_mem a)).2.2
        rw [b, Int.toNat_natCast] at this
        exact h1 this
end Go.Proofs.Ytfmnikiinfbanaa
