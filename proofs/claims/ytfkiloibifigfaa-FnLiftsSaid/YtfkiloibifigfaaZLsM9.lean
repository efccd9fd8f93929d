/-
  Measures, the program: the functions themselves.
-/
import Derived.Test.YtfkiloibifigfaaZLsM8
import Derived.Test.YtfkiloibifigfaaZLsNp
namespace Go.Proofs.Ytfkiloibifigfaa
set_option linter.unusedVariables false
set_option linter.unusedSimpArgs false
open Go.RowKit
attribute [local irreducible] FunSpec CallR Aw Le
def TabOkP (g : Pa) (t : List (List Int)) : Prop := Small g ∧ TabIs g t
def StdP (g : Pa) (t : List (List Int)) : Prop := TabOkP g t ∧ ∀ v, v < g.prio.length → ¬ Uns g t v
def AtlP (g : Pa) (a b : List Int) (p : Int) : Prop := (Small g ∧ MsrOk g a ∧ MsrOk g b) ∧ ¬ MS.dif (odC g p) a b
theorem frm_neg (p : Nat → Prop) (n : Nat) : decide (frm p n < 0) = tf (∀ j, j < n → ¬ p j) := by
  rcases frm_spec p n with ⟨e, h⟩ | ⟨k, hk, e, h, _⟩
  · rw [e, tf_true h]; rfl
  · rw [e, tf_false fun h' => h' k hk h]; simp
theorem steady_if (g : Pa) (t : List (List Int)) : FunSpec Try.prog 36 [paA g, .c (.R t)] [] (fun _ => .c (.bool (tf (StdP g t)))) := by
  (refine f_intro tiOK Try.func36 rfl rfl (by kernel_rfl) fun hp0 ν hX hN => ?_; simp only [numT, Nat.reduceAdd])
  (repeat' (first | (with_reducible first | (refine hK _ _ ?_; clear hK K) | (refine hKN _ ?_; clear hKN K) | (refine hKD _ _ _ ?_; clear hKD K) | (refine hKE _ _ ?_; clear hKE K) | refine k_seq ?_ | refine n_sq ?_ | refine a_nil ?_ | refine k_label ?_ | refine k_block ?_ | refine n_bk ?_ | refine k_exit ?_ | refine n_sqx ?_ | refine n_kx ?_ | refine n_bkx ?_ | refine n_bkn rfl ?_ | refine k_ret ?_ | refine n_sqr ?_ | refine n_kr ?_ | refine n_bkr ?_ | refine k_skip ?_ | refine n_k ?_ | refine n_end ?_ | (refine hXX ?_; clear hXX X hYY Y) | (refine hYY ?_; clear hXX X hYY Y)) | (with_reducible refine k_cid ?_; first | refine k_ctl rfl ?_ | refine k_cfl rfl ?_) | (with_reducible refine a_id ?_; first | refine a_passl rfl rfl rfl rfl ?_ | refine a_runl rfl rfl rfl ?_ | refine a_pul rfl rfl rfl rfl ?_) | (with_reducible refine d_id ?_; first | refine d_passl rfl rfl rfl rfl ?_ | refine d_runl rfl rfl rfl ?_ | refine d_pul rfl rfl rfl rfl ?_ | refine d_end hN (by apply Exists.intro; apply And.intro; (repeat' (first | apply FtI.nil | apply FI.nil | apply FI.cons | apply FtI.cons)); kernel_rfl) ?_) | ((first | (with_reducible first | refine a_opd rfl rfl fun K hK => ?_ | refine d_opd rfl rfl fun K hKD => ?_ | refine a_opn rfl rfl fun K hKN => ?_ | refine d_opn rfl rfl fun K hKE => ?_ | refine k_cond fun X Y hXX hYY => ?_ | refine FN_new ?_) | (with_reducible refine a_id ?_; refine a_guard rfl rfl fun X Y hXX hYY => ?_) | (with_reducible refine d_id ?_; refine d_guard rfl rfl fun X Y hXX hYY => ?_)); simp (disch := first | decide | omega | (simp only [List.length_cons, List.length_nil]; omega)) only [go_sem, beq_self_eq_true, ↓tmL_cons, ↓hpL_get hN, hpL_set hN, reduceIte, reduceCtorEq, Nat.reduceAdd, Nat.reduceLT, Nat.reduceLeDiff, Nat.reduceEqDiff, Nat.reduceSub]) | (with_reducible refine And.intro (fun h => ?_) (fun h => ?_) <;> try (exfalso; omega)) | (with_reducible refine k_reg tiOK hN rfl ?_ ?_; kernel_rfl) | (with_reducible refine k_drawn tiOK hN rfl ?_ ?_ ?_ ?_; (kernel_rfl); (kernel_rfl); (kernel_rfl)) | (refine k_call (small_if ?_) ?_ rfl (fun _ => rfl) ?_) | (refine k_call (isTable_f g (And.left (by assumption : Small g)) t) ?_ rfl (fun _ => rfl) ?_; focus ((repeat' (first | (with_reducible first | exact Args_nil | refine Args_cons ?_ ?_ | exact ag_c _ | refine ag_agg ?_ | exact ag_elA _ | exact ag_el _ _ | refine ag_fn ?_ | exact ag_unn _) | exact ag_box hN rfl rfl | (refine ag_fz hN rfl ?_; first | exact RdLe.refl _ | exact RdLe.unn _) | exact ag_nul rfl rfl rfl)); done)) | (refine k_call (firstUns_f g (And.left (by assumption : Small g)) t (by assumption)) ?_ rfl (fun _ => rfl) ?_; focus ((repeat' (first | (with_reducible first | exact Args_nil | refine Args_cons ?_ ?_ | exact ag_c _ | refine ag_agg ?_ | exact ag_elA _ | exact ag_el _ _ | refine ag_fn ?_ | exact ag_unn _) | exact ag_box hN rfl rfl | (refine ag_fz hN rfl ?_; first | exact RdLe.refl _ | exact RdLe.unn _) | exact ag_nul rfl rfl rfl)); done)) | (with_reducible first | exact Args_nil | refine Args_cons ?_ ?_ | exact ag_c _ | refine ag_agg ?_ | exact ag_elA _ | exact ag_el _ _ | refine ag_fn ?_ | exact ag_unn _) | exact ag_box hN rfl rfl | (refine ag_fz hN rfl ?_; first | exact RdLe.refl _ | exact RdLe.unn _) | exact ag_nul rfl rfl rfl | (simp only [hpUp, List.map_nil]) | (with_reducible refine FN_nil ?_) | (with_reducible refine And.intro ?_ ?_) | (refine prop_id ?_; omega) | (exact nm_ne hN (by decide))))
  all_goals (refine ret_c (.inr rfl) (by first | rfl | (simp (disch := first | decide | omega | (simp only [List.length_cons, List.length_nil]; omega)) only [resV, resL, resA, boxA, go_sem, beq_self_eq_true, ↓tmL_cons, ↓hpL_get hN, hpL_set hN, reduceIte, reduceCtorEq, Nat.reduceAdd, Nat.reduceLT, Nat.reduceLeDiff, Nat.reduceEqDiff, Nat.reduceSub]; rfl)) ?_)
  all_goals refine congrArg C.bool ?_
  · rw [frm_neg]; exact tf_congr ⟨fun h' => ⟨⟨by assumption, by assumption⟩, h'⟩, fun h' => h'.2⟩
  · exact (tf_false fun h' => absurd h'.1.2 (by assumption)).symm
  · exact (tf_false fun h' => absurd h'.1.1 (by assumption)).symm
theorem leastEx {g : Pa} (hs : Small g) : (gtOf g).Least (gtOf g).least := MS.least_is (MS.least_ex (gt_right hs.1) (gt_mx hs) (by decide))
theorem leastTab {g : Pa} (hs : Small g) : TabIs g (gtOf g).least := (leastEx hs).1.1
end Go.Proofs.Ytfkiloibifigfaa
