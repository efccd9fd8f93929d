/-
  Traps: the vertices by which a set is none.
-/
import Derived.Test.YthdioaeekhkgcaaZSvE13
import Derived.Test.YthdioaeekhkgcaaZSvG3
namespace Go.Proofs.Ythdioaeekhkgcaa
set_option linter.unusedVariables false
set_option linter.unusedSimpArgs false
open Go.RowKit
attribute [local irreducible] FunSpec CallR Aw Le
theorem l7Holds_f (g : Gm) (n : Nat) (hg : GmOk g n) (inn : List Bool) (hi : inn.length = n) (who : Int) (ht : PG.Total (pgOf g n) (fun v => gb inn v = true)) : FunSpec Try.prog 80 [gmA g, .c (.B inn), .c (.int .i64 who)] [] (fun _ => .c (.bool (tf (∀ v, gb inn v = true → (PG.Won (pgOf g n) 0 (fun v => gb inn v = true) v ↔ who = 0))))) := by
  have hle := hg.le
  have hw := l7Win_f g n hg _ inn hi (Nat.lt_succ_self _) ht
  obtain ⟨win, hwin⟩ : ∃ win, win = mks n (PG.Won (pgOf g n) 0 (fun v => gb inn v = true)) := ⟨_, rfl⟩
  have hwl : win.length = n := by rw [hwin, mks_len]
  rw [← hwin] at hw
  (refine f_intro tiOK Try.func80 rfl rfl (by kernel_rfl) fun hp0 ν hX hN => ?_; simp only [numT, Nat.reduceAdd])
  (repeat' (first | (with_reducible first | (refine hK _ _ ?_; clear hK K) | (refine hKN _ ?_; clear hKN K) | (refine hKD _ _ _ ?_; clear hKD K) | (refine hKE _ _ ?_; clear hKE K) | refine k_seq ?_ | refine n_sq ?_ | refine a_nil ?_ | refine k_label ?_ | refine k_block ?_ | refine n_bk ?_ | refine k_exit ?_ | refine n_sqx ?_ | refine n_kx ?_ | refine n_bkx ?_ | refine n_bkn rfl ?_ | refine k_ret ?_ | refine n_sqr ?_ | refine n_kr ?_ | refine n_bkr ?_ | refine k_skip ?_ | refine n_k ?_ | refine n_end ?_ | (refine hXX ?_; clear hXX X hYY Y) | (refine hYY ?_; clear hXX X hYY Y)) | (with_reducible refine k_cid ?_; first | refine k_ctl rfl ?_ | refine k_cfl rfl ?_) | (with_reducible refine a_id ?_; first | refine a_passl rfl rfl rfl rfl ?_ | refine a_runl rfl rfl rfl ?_ | refine a_pul rfl rfl rfl rfl ?_) | (with_reducible refine d_id ?_; first | refine d_passl rfl rfl rfl rfl ?_ | refine d_runl rfl rfl rfl ?_ | refine d_pul rfl rfl rfl rfl ?_ | refine d_end hN (by apply Exists.intro; apply And.intro; (repeat' (first | apply FtI.nil | apply FI.nil | apply FI.cons | apply FtI.cons)); kernel_rfl) ?_) | ((first | (with_reducible first | refine a_opd rfl rfl fun K hK => ?_ | refine d_opd rfl rfl fun K hKD => ?_ | refine a_opn rfl rfl fun K hKN => ?_ | refine d_opn rfl rfl fun K hKE => ?_ | refine k_cond fun X Y hXX hYY => ?_ | refine FN_new ?_) | (with_reducible refine a_id ?_; refine a_guard rfl rfl fun X Y hXX hYY => ?_) | (with_reducible refine d_id ?_; refine d_guard rfl rfl fun X Y hXX hYY => ?_)); simp (disch := first | decide | omega | (simp only [List.length_cons, List.length_nil]; omega)) only [go_sem, beq_self_eq_true, ↓tmL_cons, ↓hpL_get hN, hpL_set hN, reduceIte, reduceCtorEq, Nat.reduceAdd, Nat.reduceLT, Nat.reduceLeDiff, Nat.reduceEqDiff, Nat.reduceSub]) | (with_reducible refine And.intro (fun h => ?_) (fun h => ?_) <;> try (exfalso; omega)) | (with_reducible refine k_reg tiOK hN rfl ?_ ?_; kernel_rfl) | (with_reducible refine k_drawn tiOK hN rfl ?_ ?_ ?_ ?_; (kernel_rfl); (kernel_rfl); (kernel_rfl)) | (refine k_call hw ?_ rfl (fun _ => rfl) ?_) | (with_reducible first | exact Args_nil | refine Args_cons ?_ ?_ | exact ag_c _ | refine ag_agg ?_ | exact ag_elA _ | exact ag_el _ _ | refine ag_fn ?_ | exact ag_unn _) | exact ag_box hN rfl rfl | (refine ag_fz hN rfl ?_; first | exact RdLe.refl _ | exact RdLe.unn _) | exact ag_nul rfl rfl rfl | (simp only [hpUp, List.map_nil]) | (with_reducible refine FN_nil ?_) | (with_reducible refine And.intro ?_ ?_) | (refine prop_id ?_; omega) | (exact nm_ne hN (by decide))))
  (refine k_loop (fun (k : Nat) => (tmL [(8, .c (.int .i64 k)), (7, .sl (ν 1)), (3, .ad (ν 0) 0), (1, .c (.B inn)), (2, .c (.int .i64 who))], hpL hp0 ν [.dead, .arr 4 .yes (.B win)])) (fun (k : Nat) => k ≤ n ∧ ∀ v, v < k → gb inn v = true → (gb win v == (who == 0)) = true) (fun (k : Nat) => n - k) ⟨0, ?_, le_L hX hN [] ?_ ?_⟩ ?_; (repeat' (first | (with_reducible first | exact LEs.nil _ | exact LTs.nil | exact LVs.nil | refine LEs.cons ?_ ?_ | refine LVs.cons ?_ ?_ | exact lv_any _ | exact lv_c _ | exact le_dead _ | rfl | exact lv_el _ _ | refine lv_agg ?_ | exact lv_k _ | refine lv_fn ?_) | refine LTs.cons rfl ?_ ?_ | exact lv_sl hN _ rfl rfl rfl | exact lv_ad hN _ rfl rfl rfl | exact lv_fzb hN _ rfl rfl rfl (Or.inr rfl) | (refine lv_fz hN _ rfl rfl (by first | exact Or.inr rfl | exact Or.inl rfl) ?_; first | exact RdLe.refl _ | exact RdLe.unn _) | refine le_box hN rfl ?_ | refine le_arr hN rfl rfl ?_ | exact lv_nul hN _ rfl rfl | exact le_new hN rfl rfl rfl rfl | (with_reducible first | refine lv_eq ?_ | refine congrArg C.B ?_ | refine congrArg C.I ?_ | refine congrArg C.R ?_ | refine congrArg (C.int _) ?_ | refine congrArg C.bool ?_))); (try (any_goals (first | (with_reducible rfl) | (refine prop_id ?_; omega)))))
  · exact ⟨Nat.zero_le _, fun j hj => absurd hj (Nat.not_lt_zero _)⟩
  rintro k ⟨hk, ho⟩
  have key : ∀ v, v < n → ((gb win v == (who == 0)) = true ↔ (PG.Won (pgOf g n) 0 (fun v => gb inn v = true) v ↔ who = 0)) := fun v hv => by
    rw [hwin, gb_mks _ hv]
    by_cases h1 : PG.Won (pgOf g n) 0 (fun v => gb inn v = true) v <;> by_cases h2 : who = 0
    · rw [tf_true h1]; simp [h1, h2]
    · rw [tf_true h1]; simp [h1, h2]
    · rw [tf_false h1]; simp [h1, h2]
    · rw [tf_false h1]; simp [h1, h2]
  (repeat' (first | (with_reducible first | (refine hK _ _ ?_; clear hK K) | (refine hKN _ ?_; clear hKN K) | (refine hKD _ _ _ ?_; clear hKD K) | (refine hKE _ _ ?_; clear hKE K) | refine k_seq ?_ | refine n_sq ?_ | refine a_nil ?_ | refine k_label ?_ | refine k_block ?_ | refine n_bk ?_ | refine k_exit ?_ | refine n_sqx ?_ | refine n_kx ?_ | refine n_bkx ?_ | refine n_bkn rfl ?_ | refine k_ret ?_ | refine n_sqr ?_ | refine n_kr ?_ | refine n_bkr ?_ | refine k_skip ?_ | refine n_k ?_ | refine n_end ?_ | (refine hXX ?_; clear hXX X hYY Y) | (refine hYY ?_; clear hXX X hYY Y)) | (with_reducible refine k_cid ?_; first | refine k_ctl rfl ?_ | refine k_cfl rfl ?_) | (with_reducible refine a_id ?_; first | refine a_passl rfl rfl rfl rfl ?_ | refine a_runl rfl rfl rfl ?_ | refine a_pul rfl rfl rfl rfl ?_) | (with_reducible refine d_id ?_; first | refine d_passl rfl rfl rfl rfl ?_ | refine d_runl rfl rfl rfl ?_ | refine d_pul rfl rfl rfl rfl ?_ | refine d_end hN (by apply Exists.intro; apply And.intro; (repeat' (first | apply FtI.nil | apply FI.nil | apply FI.cons | apply FtI.cons)); kernel_rfl) ?_) | ((first | (with_reducible first | refine a_opd rfl rfl fun K hK => ?_ | refine d_opd rfl rfl fun K hKD => ?_ | refine a_opn rfl rfl fun K hKN => ?_ | refine d_opn rfl rfl fun K hKE => ?_ | refine k_cond fun X Y hXX hYY => ?_ | refine FN_new ?_) | (with_reducible refine a_id ?_; refine a_guard rfl rfl fun X Y hXX hYY => ?_) | (with_reducible refine d_id ?_; refine d_guard rfl rfl fun X Y hXX hYY => ?_)); simp (disch := first | decide | omega | (simp only [List.length_cons, List.length_nil]; omega)) only [go_sem, beq_self_eq_true, ↓tmL_cons, ↓hpL_get hN, hpL_set hN, reduceIte, reduceCtorEq, Nat.reduceAdd, Nat.reduceLT, Nat.reduceLeDiff, Nat.reduceEqDiff, Nat.reduceSub]) | (with_reducible refine And.intro (fun h => ?_) (fun h => ?_) <;> try (exfalso; omega)) | (with_reducible refine k_reg tiOK hN rfl ?_ ?_; kernel_rfl) | (with_reducible refine k_drawn tiOK hN rfl ?_ ?_ ?_ ?_; (kernel_rfl); (kernel_rfl); (kernel_rfl)) | (with_reducible refine And.intro ?_ ?_) | (refine prop_id ?_; omega) | (exact nm_ne hN (by decide))))
  · have hb : (gb win k == (who == 0)) = false := by assumption
    (refine ret_c (.inr rfl) (by first | rfl | (simp (disch := first | decide | omega | (simp only [List.length_cons, List.length_nil]; omega)) only [resV, resL, resA, boxA, go_sem, beq_self_eq_true, ↓tmL_cons, ↓hpL_get hN, hpL_set hN, reduceIte, reduceCtorEq, Nat.reduceAdd, Nat.reduceLT, Nat.reduceLeDiff, Nat.reduceEqDiff, Nat.reduceSub]; rfl)) ?_)
    refine congrArg C.bool (tf_false fun e => ?_).symm
    rw [(key k (by omega)).2 (e k (by assumption))] at hb
    cases hb
  · have hb : gb win k = (who == 0) := by assumption
    (refine ⟨k + 1, ⟨?_, ?_⟩, le_L hX hN [] ?_ ?_⟩; (try any_goals dsimp only); (repeat' (first | (with_reducible first | exact LEs.nil _ | exact LTs.nil | exact LVs.nil | refine LEs.cons ?_ ?_ | refine LVs.cons ?_ ?_ | exact lv_any _ | exact lv_c _ | exact le_dead _ | rfl | exact lv_el _ _ | refine lv_agg ?_ | exact lv_k _ | refine lv_fn ?_) | refine LTs.cons rfl ?_ ?_ | exact lv_sl hN _ rfl rfl rfl | exact lv_ad hN _ rfl rfl rfl | exact lv_fzb hN _ rfl rfl rfl (Or.inr rfl) | (refine lv_fz hN _ rfl rfl (by first | exact Or.inr rfl | exact Or.inl rfl) ?_; first | exact RdLe.refl _ | exact RdLe.unn _) | refine le_box hN rfl ?_ | refine le_arr hN rfl rfl ?_ | exact lv_nul hN _ rfl rfl | exact le_new hN rfl rfl rfl rfl | (with_reducible first | refine lv_eq ?_ | refine congrArg C.B ?_ | refine congrArg C.I ?_ | refine congrArg C.R ?_ | refine congrArg (C.int _) ?_ | refine congrArg C.bool ?_))); (try (any_goals (first | (with_reducible rfl) | (refine prop_id ?_; omega)))))
    exact ⟨by omega, all_succ ho fun _ => by rw [hb]; exact beq_self_eq_true _⟩
  · have hb : gb inn k = false := by assumption
    (refine ⟨k + 1, ⟨?_, ?_⟩, le_L hX hN [] ?_ ?_⟩; (try any_goals dsimp only); (repeat' (first | (with_reducible first | exact LEs.nil _ | exact LTs.nil | exact LVs.nil | refine LEs.cons ?_ ?_ | refine LVs.cons ?_ ?_ | exact lv_any _ | exact lv_c _ | exact le_dead _ | rfl | exact lv_el _ _ | refine lv_agg ?_ | exact lv_k _ | refine lv_fn ?_) | refine LTs.cons rfl ?_ ?_ | exact lv_sl hN _ rfl rfl rfl | exact lv_ad hN _ rfl rfl rfl | exact lv_fzb hN _ rfl rfl rfl (Or.inr rfl) | (refine lv_fz hN _ rfl rfl (by first | exact Or.inr rfl | exact Or.inl rfl) ?_; first | exact RdLe.refl _ | exact RdLe.unn _) | refine le_box hN rfl ?_ | refine le_arr hN rfl rfl ?_ | exact lv_nul hN _ rfl rfl | exact le_new hN rfl rfl rfl rfl | (with_reducible first | refine lv_eq ?_ | refine congrArg C.B ?_ | refine congrArg C.I ?_ | refine congrArg C.R ?_ | refine congrArg (C.int _) ?_ | refine congrArg C.bool ?_))); (try (any_goals (first | (with_reducible rfl) | (refine prop_id ?_; omega)))))
    exact ⟨by omega, all_succ ho fun e => absurd e (no_of hb)⟩
  · (refine ret_c (.inr rfl) (by first | rfl | (simp (disch := first | decide | omega | (simp only [List.length_cons, List.length_nil]; omega)) only [resV, resL, resA, boxA, go_sem, beq_self_eq_true, ↓tmL_cons, ↓hpL_get hN, hpL_set hN, reduceIte, reduceCtorEq, Nat.reduceAdd, Nat.reduceLT, Nat.reduceLeDiff, Nat.reduceEqDiff, Nat.reduceSub]; rfl)) ?_)
    exact congrArg C.bool (tf_true fun v hv => (key v (by have := gb_lt hv; omega)).1 (ho v (by have := gb_lt hv; omega) hv)).symm
theorem bnd_set {xs : List Int} {n : Nat} (h : IsSet xs n) : Bnd xs n := fun k hk => ⟨(h k hk).1, (h k hk).2.1⟩
theorem lstB_nil {bs : List Bool} : ∀ k, lstB bs k = [] ↔ ∀ v, v < k → ¬ gb bs v = true := by
  intro k
  induction k with
  | zero => exact ⟨fun _ v h => absurd h (Nat.not_lt_zero _), fun _ => rfl⟩
  | succ k ih =>
    rw [lstB]
    by_cases h : gb bs k = true
    · rw [if_pos h]
      exact ⟨fun e => absurd e (by simp), fun e => absurd h (e k (by omega))⟩
    · rw [if_neg h, List.append_nil, ih]
      exact ⟨fun e => all_succ e h, fun e v hv => e v (by omega)⟩
theorem wonL_nil {g : Pa} (hg : PaOk g) {xs : List Int} (hx : GameIn g.ar xs) {i : Int} (hi : i = 0 ∨ i = 1) : (wonL g xs (1 - i)).length = 0 ↔ ∀ v : Nat, (v : Int) ∈ xs → PG.Won (pgP g) i (fun v => (v : Int) ∈ xs) v := by
  have hl := hg.len
  have hB := bnd_set hx.1
  have hS : ∀ v : Nat, (v : Int) ∈ xs → v < g.prio.length := fun v hv => by
    obtain ⟨k, hk, e⟩ := mem_gi hv
    have := hB k hk; omega
  rw [List.length_eq_zero_iff, wonL, lstB_nil]
  have hn := fun v => won_not' (P := pgP g) fin_P hS (total_in hg hx) hi v
  constructor
  · intro h v hv
    have h1 := h v (hS v hv)
    rw [gb_mks _ (hS v hv), tf_eq, hn] at h1
    exact Classical.byContradiction fun h2 => h1 ⟨hv, h2⟩
  · intro h v hv
    rw [gb_mks _ hv, tf_eq, hn]
    exact fun h1 => h1.2 (h v h1.1)
end Go.Proofs.Ythdioaeekhkgcaa
