/-
  The won vertices, on the reference's side.
-/
import Derived.Test.YthdioaeekhkgcaaD4
import Derived.Test.YthdioaeekhkgcaaE13
namespace Go.Proofs.Ythdioaeekhkgcaa
set_option linter.unusedVariables false
set_option linter.unusedSimpArgs false
open Go.RowKit
attribute [local irreducible] FunSpec CallR Aw Le

/-- Where a list has a value. -/
def atL (xs : List Int) (x : Int) : List Int := lstB (tabb xs.length fun v => gi xs v == x) xs.length
theorem mem_atL {xs : List Int} {x z : Int} : z ∈ atL xs x ↔ ∃ v, v < xs.length ∧ z = (v : Int) ∧ gi xs v = x := by
  unfold atL
  rw [mem_lstB]
  constructor
  · rintro ⟨v, h1, h2, h3⟩
    rw [gb_tabb _ h1] at h3
    exact ⟨v, h1, h2, by simpa using h3⟩
  · rintro ⟨v, h1, h2, h3⟩
    exact ⟨v, h1, h2, by rw [gb_tabb _ h1]; simpa using h3⟩
theorem atL_len (xs : List Int) (x : Int) : (atL xs x).length ≤ xs.length := lstB_len _ _
theorem isSet_lstB {bs : List Bool} : ∀ k : Nat, IsSet (lstB bs k) k := by
  intro k
  induction k with
  | zero => exact fun j hj => absurd hj (Nat.not_lt_zero _)
  | succ k ih =>
    rw [lstB]
    have hw : IsSet (lstB bs k) ((k + 1 : Nat) : Int) := fun j hj => by have := ih j hj; exact ⟨this.1, by omega, this.2.2⟩
    split
    · intro j hj
      have hj' : j < (lstB bs k).length + 1 := by simpa using hj
      rw [gi_snoc]
      by_cases e : j < (lstB bs k).length
      · rw [if_pos e]
        obtain ⟨a, b, c⟩ := hw j e
        refine ⟨a, b, fun h => ?_⟩
        rw [gi_snoc, if_pos (by omega)]
        exact c h
      · have e2 : j = (lstB bs k).length := by omega
        rw [if_neg e, if_pos e2]
        refine ⟨by omega, by omega, fun h => ?_⟩
        rw [gi_snoc, if_pos (by omega)]
        have := ih (j - 1) (by omega)
        omega
    · rw [List.append_nil]; exact hw
theorem isSet_atL (xs : List Int) (x : Int) : IsSet (atL xs x) xs.length := isSet_lstB _
theorem l7Set_f (xs : List Int) (x : Int) (hl : xs.length ≤ 1048576) : FunSpec Try.prog 120 [.c (.I xs), .c (.int .i64 x)] [.arr 2 .yes (.I (atL xs x))] (fun ns => .sl (ns.getD 0 0)) := by
  (refine f_intro tiOK Try.func120 rfl rfl (by kernel_rfl) fun hp0 ν hX hN => ?_; simp only [numT, Nat.reduceAdd])
  (repeat' (first | (with_reducible first | (refine hK _ _ ?_; clear hK K) | (refine hKN _ ?_; clear hKN K) | (refine hKD _ _ _ ?_; clear hKD K) | (refine hKE _ _ ?_; clear hKE K) | refine k_seq ?_ | refine n_sq ?_ | refine a_nil ?_ | refine k_label ?_ | refine k_block ?_ | refine n_bk ?_ | refine k_exit ?_ | refine n_sqx ?_ | refine n_kx ?_ | refine n_bkx ?_ | refine n_bkn rfl ?_ | refine k_ret ?_ | refine n_sqr ?_ | refine n_kr ?_ | refine n_bkr ?_ | refine k_skip ?_ | refine n_k ?_ | refine n_end ?_ | (refine hXX ?_; clear hXX X hYY Y) | (refine hYY ?_; clear hXX X hYY Y)) | (with_reducible refine k_cid ?_; first | refine k_ctl rfl ?_ | refine k_cfl rfl ?_) | (with_reducible refine a_id ?_; first | refine a_passl rfl rfl rfl rfl ?_ | refine a_runl rfl rfl rfl ?_ | refine a_pul rfl rfl rfl rfl ?_) | (with_reducible refine d_id ?_; first | refine d_passl rfl rfl rfl rfl ?_ | refine d_runl rfl rfl rfl ?_ | refine d_pul rfl rfl rfl rfl ?_ | refine d_end hN (by apply Exists.intro; apply And.intro; (repeat' (first | apply FtI.nil | apply FI.nil | apply FI.cons | apply FtI.cons)); kernel_rfl) ?_) | ((first | (with_reducible first | refine a_opd rfl rfl fun K hK => ?_ | refine d_opd rfl rfl fun K hKD => ?_ | refine a_opn rfl rfl fun K hKN => ?_ | refine d_opn rfl rfl fun K hKE => ?_ | refine k_cond fun X Y hXX hYY => ?_ | refine FN_new ?_) | (with_reducible refine a_id ?_; refine a_guard rfl rfl fun X Y hXX hYY => ?_) | (with_reducible refine d_id ?_; refine d_guard rfl rfl fun X Y hXX hYY => ?_)); simp (disch := first | decide | omega | (simp only [List.length_cons, List.length_nil]; omega)) only [go_sem, beq_self_eq_true, ↓tmL_cons, ↓hpL_get hN, hpL_set hN, reduceIte, reduceCtorEq, Nat.reduceAdd, Nat.reduceLT, Nat.reduceLeDiff, Nat.reduceEqDiff, Nat.reduceSub]) | (with_reducible refine And.intro (fun h => ?_) (fun h => ?_) <;> try (exfalso; omega)) | (with_reducible refine k_reg tiOK hN rfl ?_ ?_; kernel_rfl) | (with_reducible refine k_drawn tiOK hN rfl ?_ ?_ ?_ ?_; (kernel_rfl); (kernel_rfl); (kernel_rfl)) | (with_reducible refine And.intro ?_ ?_) | (refine prop_id ?_; omega) | (exact nm_ne hN (by decide))))
  (refine k_loop (fun (k : Nat) => (tmL [(6, .c (.int .i64 k)), (5, .sl (ν 0)), (0, .c (.I xs)), (1, .c (.int .i64 x))], hpL hp0 ν [.arr 2 .yes (.I (lstB (tabb xs.length fun v => gi xs v == x) k))])) (fun (k : Nat) => k ≤ xs.length) (fun (k : Nat) => xs.length - k) ⟨0, ?_, le_L hX hN [] ?_ ?_⟩ ?_; (repeat' (first | (with_reducible first | exact LEs.nil _ | exact LTs.nil | exact LVs.nil | refine LEs.cons ?_ ?_ | refine LVs.cons ?_ ?_ | exact lv_any _ | exact lv_c _ | exact le_dead _ | rfl | exact lv_el _ _ | refine lv_agg ?_ | exact lv_k _ | refine lv_fn ?_) | refine LTs.cons rfl ?_ ?_ | exact lv_sl hN _ rfl rfl rfl | exact lv_ad hN _ rfl rfl rfl | exact lv_fzb hN _ rfl rfl rfl (Or.inr rfl) | (refine lv_fz hN _ rfl rfl (by first | exact Or.inr rfl | exact Or.inl rfl) ?_; first | exact RdLe.refl _ | exact RdLe.unn _) | refine le_box hN rfl ?_ | refine le_arr hN rfl rfl ?_ | exact lv_nul hN _ rfl rfl | exact le_new hN rfl rfl rfl rfl | (with_reducible first | refine lv_eq ?_ | refine congrArg C.B ?_ | refine congrArg C.I ?_ | refine congrArg C.R ?_ | refine congrArg (C.int _) ?_ | refine congrArg C.bool ?_))); (try (any_goals (first | (with_reducible rfl) | (refine prop_id ?_; omega)))))
  · rfl
  intro k hk
  have hll := lstB_len (tabb xs.length fun v => gi xs v == x) k
  have hgk : k < xs.length → gb (tabb xs.length fun v => gi xs v == x) k = (gi xs k == x) := fun h => gb_tabb _ h
  (repeat' (first | (with_reducible first | (refine hK _ _ ?_; clear hK K) | (refine hKN _ ?_; clear hKN K) | (refine hKD _ _ _ ?_; clear hKD K) | (refine hKE _ _ ?_; clear hKE K) | refine k_seq ?_ | refine n_sq ?_ | refine a_nil ?_ | refine k_label ?_ | refine k_block ?_ | refine n_bk ?_ | refine k_exit ?_ | refine n_sqx ?_ | refine n_kx ?_ | refine n_bkx ?_ | refine n_bkn rfl ?_ | refine k_ret ?_ | refine n_sqr ?_ | refine n_kr ?_ | refine n_bkr ?_ | refine k_skip ?_ | refine n_k ?_ | refine n_end ?_ | (refine hXX ?_; clear hXX X hYY Y) | (refine hYY ?_; clear hXX X hYY Y)) | (with_reducible refine k_cid ?_; first | refine k_ctl rfl ?_ | refine k_cfl rfl ?_) | (with_reducible refine a_id ?_; first | refine a_passl rfl rfl rfl rfl ?_ | refine a_runl rfl rfl rfl ?_ | refine a_pul rfl rfl rfl rfl ?_) | (with_reducible refine d_id ?_; first | refine d_passl rfl rfl rfl rfl ?_ | refine d_runl rfl rfl rfl ?_ | refine d_pul rfl rfl rfl rfl ?_ | refine d_end hN (by apply Exists.intro; apply And.intro; (repeat' (first | apply FtI.nil | apply FI.nil | apply FI.cons | apply FtI.cons)); kernel_rfl) ?_) | ((first | (with_reducible first | refine a_opd rfl rfl fun K hK => ?_ | refine d_opd rfl rfl fun K hKD => ?_ | refine a_opn rfl rfl fun K hKN => ?_ | refine d_opn rfl rfl fun K hKE => ?_ | refine k_cond fun X Y hXX hYY => ?_ | refine FN_new ?_) | (with_reducible refine a_id ?_; refine a_guard rfl rfl fun X Y hXX hYY => ?_) | (with_reducible refine d_id ?_; refine d_guard rfl rfl fun X Y hXX hYY => ?_)); simp (disch := first | decide | omega | (simp only [List.length_cons, List.length_nil]; omega)) only [go_sem, beq_self_eq_true, ↓tmL_cons, ↓hpL_get hN, hpL_set hN, reduceIte, reduceCtorEq, Nat.reduceAdd, Nat.reduceLT, Nat.reduceLeDiff, Nat.reduceEqDiff, Nat.reduceSub]) | (with_reducible refine And.intro (fun h => ?_) (fun h => ?_) <;> try (exfalso; omega)) | (with_reducible refine k_reg tiOK hN rfl ?_ ?_; kernel_rfl) | (with_reducible refine k_drawn tiOK hN rfl ?_ ?_ ?_ ?_; (kernel_rfl); (kernel_rfl); (kernel_rfl)) | (with_reducible refine And.intro ?_ ?_) | (refine prop_id ?_; omega) | (exact nm_ne hN (by decide))))
  · (refine ⟨k + 1, ⟨?_, ?_⟩, le_L hX hN [(0, 2)] ?_ ?_⟩; (try any_goals dsimp only); (repeat' (first | (with_reducible first | exact LEs.nil _ | exact LTs.nil | exact LVs.nil | refine LEs.cons ?_ ?_ | refine LVs.cons ?_ ?_ | exact lv_any _ | exact lv_c _ | exact le_dead _ | rfl | exact lv_el _ _ | refine lv_agg ?_ | exact lv_k _ | refine lv_fn ?_) | refine LTs.cons rfl ?_ ?_ | exact lv_sl hN _ rfl rfl rfl | exact lv_ad hN _ rfl rfl rfl | exact lv_fzb hN _ rfl rfl rfl (Or.inr rfl) | (refine lv_fz hN _ rfl rfl (by first | exact Or.inr rfl | exact Or.inl rfl) ?_; first | exact RdLe.refl _ | exact RdLe.unn _) | refine le_box hN rfl ?_ | refine le_arr hN rfl rfl ?_ | exact lv_nul hN _ rfl rfl | exact le_new hN rfl rfl rfl rfl | (with_reducible first | refine lv_eq ?_ | refine congrArg C.B ?_ | refine congrArg C.I ?_ | refine congrArg C.R ?_ | refine congrArg (C.int _) ?_ | refine congrArg C.bool ?_))); (try (any_goals (first | (with_reducible rfl) | (refine prop_id ?_; omega)))))
    rw [lstB, if_pos (by rw [hgk (by omega)]; simpa using (by assumption : gi xs k = x))]
  · have h0 : (gi xs k == x) = false := by assumption
    (refine ⟨k + 1, ⟨?_, ?_⟩, le_L hX hN [] ?_ ?_⟩; (try any_goals dsimp only); (repeat' (first | (with_reducible first | exact LEs.nil _ | exact LTs.nil | exact LVs.nil | refine LEs.cons ?_ ?_ | refine LVs.cons ?_ ?_ | exact lv_any _ | exact lv_c _ | exact le_dead _ | rfl | exact lv_el _ _ | refine lv_agg ?_ | exact lv_k _ | refine lv_fn ?_) | refine LTs.cons rfl ?_ ?_ | exact lv_sl hN _ rfl rfl rfl | exact lv_ad hN _ rfl rfl rfl | exact lv_fzb hN _ rfl rfl rfl (Or.inr rfl) | (refine lv_fz hN _ rfl rfl (by first | exact Or.inr rfl | exact Or.inl rfl) ?_; first | exact RdLe.refl _ | exact RdLe.unn _) | refine le_box hN rfl ?_ | refine le_arr hN rfl rfl ?_ | exact lv_nul hN _ rfl rfl | exact le_new hN rfl rfl rfl rfl | (with_reducible first | refine lv_eq ?_ | refine congrArg C.B ?_ | refine congrArg C.I ?_ | refine congrArg C.R ?_ | refine congrArg (C.int _) ?_ | refine congrArg C.bool ?_))); (try (any_goals (first | (with_reducible rfl) | (refine prop_id ?_; omega)))))
    rw [lstB, if_neg (by rw [hgk (by omega), h0]; simp), List.append_nil]
  · (refine ret_sl hN (i := 0) (.inr rfl) (by first | rfl | (simp (disch := first | decide | omega | (simp only [List.length_cons, List.length_nil]; omega)) only [resV, resL, resA, boxA, go_sem, beq_self_eq_true, ↓tmL_cons, ↓hpL_get hN, hpL_set hN, reduceIte, reduceCtorEq, Nat.reduceAdd, Nat.reduceLT, Nat.reduceLeDiff, Nat.reduceEqDiff, Nat.reduceSub]; rfl)) rfl ?_ rfl)
    rw [show k = xs.length by omega]; rfl
theorem wonBy_f (g : Pa) (hg : PaOk g) (who : Int) (hw : 0 ≤ who ∧ who ≤ 1) : FunSpec Try.prog 51 [paA g, .c (.int .i64 who)] [.arr 2 .yes (.I (atL (winL g) who))] (fun ns => .sl (ns.getD 0 0)) := by
  have h1 := parOk_sf g
  rw [tf_true hg] at h1
  have h2 := l1In_f who 0 1
  rw [tf_true hw] at h2
  have h3 := l7Won_f g hg
  have h4 := winL_le hg
  generalize winL g = wl at *
  (refine f_intro tiOK Try.func51 rfl rfl (by kernel_rfl) fun hp0 ν hX hN => ?_; simp only [numT, Nat.reduceAdd])
  (repeat' (first | (with_reducible first | (refine hK _ _ ?_; clear hK K) | (refine hKN _ ?_; clear hKN K) | (refine hKD _ _ _ ?_; clear hKD K) | (refine hKE _ _ ?_; clear hKE K) | refine k_seq ?_ | refine n_sq ?_ | refine a_nil ?_ | refine k_label ?_ | refine k_block ?_ | refine n_bk ?_ | refine k_exit ?_ | refine n_sqx ?_ | refine n_kx ?_ | refine n_bkx ?_ | refine n_bkn rfl ?_ | refine k_ret ?_ | refine n_sqr ?_ | refine n_kr ?_ | refine n_bkr ?_ | refine k_skip ?_ | refine n_k ?_ | refine n_end ?_ | (refine hXX ?_; clear hXX X hYY Y) | (refine hYY ?_; clear hXX X hYY Y)) | (with_reducible refine k_cid ?_; first | refine k_ctl rfl ?_ | refine k_cfl rfl ?_) | (with_reducible refine a_id ?_; first | refine a_passl rfl rfl rfl rfl ?_ | refine a_runl rfl rfl rfl ?_ | refine a_pul rfl rfl rfl rfl ?_) | (with_reducible refine d_id ?_; first | refine d_passl rfl rfl rfl rfl ?_ | refine d_runl rfl rfl rfl ?_ | refine d_pul rfl rfl rfl rfl ?_ | refine d_end hN (by apply Exists.intro; apply And.intro; (repeat' (first | apply FtI.nil | apply FI.nil | apply FI.cons | apply FtI.cons)); kernel_rfl) ?_) | ((first | (with_reducible first | refine a_opd rfl rfl fun K hK => ?_ | refine d_opd rfl rfl fun K hKD => ?_ | refine a_opn rfl rfl fun K hKN => ?_ | refine d_opn rfl rfl fun K hKE => ?_ | refine k_cond fun X Y hXX hYY => ?_ | refine FN_new ?_) | (with_reducible refine a_id ?_; refine a_guard rfl rfl fun X Y hXX hYY => ?_) | (with_reducible refine d_id ?_; refine d_guard rfl rfl fun X Y hXX hYY => ?_)); simp (disch := first | decide | omega | (simp only [List.length_cons, List.length_nil]; omega)) only [go_sem, beq_self_eq_true, ↓tmL_cons, ↓hpL_get hN, hpL_set hN, reduceIte, reduceCtorEq, Nat.reduceAdd, Nat.reduceLT, Nat.reduceLeDiff, Nat.reduceEqDiff, Nat.reduceSub]) | (with_reducible refine And.intro (fun h => ?_) (fun h => ?_) <;> try (exfalso; omega)) | (with_reducible refine k_reg tiOK hN rfl ?_ ?_; kernel_rfl) | (with_reducible refine k_drawn tiOK hN rfl ?_ ?_ ?_ ?_; (kernel_rfl); (kernel_rfl); (kernel_rfl)) | (refine k_call h1 ?_ rfl (fun _ => rfl) ?_) | (refine k_call h2 ?_ rfl (fun _ => rfl) ?_) | (refine k_call h3 ?_ rfl (fun _ => rfl) ?_) | (refine k_call (l7Set_f wl who h4) ?_ rfl (fun _ => rfl) ?_) | (with_reducible first | exact Args_nil | refine Args_cons ?_ ?_ | exact ag_c _ | refine ag_agg ?_ | exact ag_elA _ | exact ag_el _ _ | refine ag_fn ?_ | exact ag_unn _) | exact ag_box hN rfl rfl | (refine ag_fz hN rfl ?_; first | exact RdLe.refl _ | exact RdLe.unn _) | exact ag_nul rfl rfl rfl | (simp only [hpUp, List.map_nil]) | (with_reducible refine FN_nil ?_) | (with_reducible refine And.intro ?_ ?_) | (refine prop_id ?_; omega) | (exact nm_ne hN (by decide))))
  (refine ret_sl hN (i := 2) (.inr rfl) (by first | rfl | (simp (disch := first | decide | omega | (simp only [List.length_cons, List.length_nil]; omega)) only [resV, resL, resA, boxA, go_sem, beq_self_eq_true, ↓tmL_cons, ↓hpL_get hN, hpL_set hN, reduceIte, reduceCtorEq, Nat.reduceAdd, Nat.reduceLT, Nat.reduceLeDiff, Nat.reduceEqDiff, Nat.reduceSub]; rfl)) rfl ?_ rfl)
  rfl
end Go.Proofs.Ythdioaeekhkgcaa
