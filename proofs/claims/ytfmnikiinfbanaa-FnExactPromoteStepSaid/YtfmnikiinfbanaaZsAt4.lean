/-
  Attraction by ranks: the program's attract.
-/
import Derived.Test.YtfmnikiinfbanaaZsAt3
namespace Go.Proofs.Ytfmnikiinfbanaa
set_option linter.unusedVariables false
set_option linter.unusedSimpArgs false
open Go.RowKit
attribute [local irreducible] FunSpec CallR Aw Le
theorem attr_upto {P : PG.Gm} {who : Int} {S T : Nat → Prop} {n : Nat} (hS : ∀ v, S v → v < n) (v : Nat) : PG.Attr P who S T v ↔ PG.AttrN P who S T n v := by
  refine ⟨fun ⟨m, hm⟩ => ?_, fun h => ⟨n, h⟩⟩
  have key : ∃ k, k ≤ n ∧ ∀ v, PG.AttrN P who S T (k + 1) v → PG.AttrN P who S T k v := by
    refine Classical.byContradiction fun hno => ?_
    have hk : ∀ k, k ≤ n → ∃ v, PG.AttrN P who S T (k + 1) v ∧ ¬ PG.AttrN P who S T k v := fun k hk => by
      refine Classical.byContradiction fun h => hno ⟨k, hk, fun v hv => ?_⟩
      exact Classical.byContradiction fun h' => h ⟨v, hv, h'⟩
    have hc : ∀ k, k ≤ n + 1 → k ≤ num (PG.AttrN P who S T k) n := by
      intro k
      induction k with
      | zero => intro _; exact Nat.zero_le _
      | succ k ih =>
        intro h
        obtain ⟨v, h1, h2⟩ := hk k (by omega)
        have := attr_num (n := n) (hS v (PG.attrN_in h1)) h1 h2
        have := ih (by omega)
        omega
    have h1 := hc (n + 1) (Nat.le_refl _)
    have h2 := num_le (p := PG.AttrN P who S T (n + 1)) (k := n)
    omega
  obtain ⟨k, hk, hst⟩ := key
  rcases Nat.lt_or_ge m k with h | h
  · exact PG.attrN_mono (by omega) hm
  · exact PG.attrN_mono hk (attrN_stop hst m h v hm)
noncomputable def attL (g : Pa) (who : Int) (xs ys : List Int) : List Int := lst (PG.Attr (pgA g) who (fun v => (v : Int) ∈ xs) (fun v => (v : Int) ∈ ys)) g.prio.length
theorem attract_f (g : Pa) (hg : PaOk g) (who : Int) (xs ys : List Int) (hx : IsSet xs g.prio.length) (hy : IsSet ys g.prio.length) : FunSpec Try.prog 95 [arA g.ar, .c (.int .i64 who), .c (.I xs), .c (.I ys)] [.arr 2 .yes (.I (attL g who xs ys))] (fun ns => .sl (ns.getD 0 0)) := by
  have hle := hg.ar.le
  have hl := hg.len
  have hr := ranksIn_f g hg who xs ys hx hy
  have hrl : (rkF g who xs ys).length = g.prio.length := tab_len _ _
  have hat : ∀ k, k < g.prio.length → (0 ≤ gi (rkF g who xs ys) k ↔ PG.Attr (pgA g) who (fun v => (v : Int) ∈ xs) (fun v => (v : Int) ∈ ys) k) := fun k hk => by
    rw [rkF, gi_tab _ hk, rkV_iff, attr_upto]
    intro v hv
    obtain ⟨t, h1, h2⟩ := mem_gi hv
    have := hx.bnd t h1
    omega
  generalize rkF g who xs ys = rk at *
  (refine f_intro tiOK Try.func95 rfl rfl (by kernel_rfl) fun hp0 ν hX hN => ?_; simp only [numT, Nat.reduceAdd])
  (repeat' (first | (with_reducible first | (refine hK _ _ ?_; clear hK K) | (refine hKN _ ?_; clear hKN K) | (refine hKD _ _ _ ?_; clear hKD K) | (refine hKE _ _ ?_; clear hKE K) | refine k_seq ?_ | refine n_sq ?_ | refine a_nil ?_ | refine k_label ?_ | refine k_block ?_ | refine n_bk ?_ | refine k_exit ?_ | refine n_sqx ?_ | refine n_kx ?_ | refine n_bkx ?_ | refine n_bkn rfl ?_ | refine k_ret ?_ | refine n_sqr ?_ | refine n_kr ?_ | refine n_bkr ?_ | refine k_skip ?_ | refine n_k ?_ | refine n_end ?_ | (refine hXX ?_; clear hXX X hYY Y) | (refine hYY ?_; clear hXX X hYY Y)) | (with_reducible refine k_cid ?_; first | refine k_ctl rfl ?_ | refine k_cfl rfl ?_) | (with_reducible refine a_id ?_; first | refine a_passl rfl rfl rfl rfl ?_ | refine a_runl rfl rfl rfl ?_ | refine a_pul rfl rfl rfl rfl ?_) | (with_reducible refine d_id ?_; first | refine d_passl rfl rfl rfl rfl ?_ | refine d_runl rfl rfl rfl ?_ | refine d_pul rfl rfl rfl rfl ?_ | refine d_end hN (by apply Exists.intro; apply And.intro; (repeat' (first | apply FtI.nil | apply FI.nil | apply FI.cons | apply FtI.cons)); kernel_rfl) ?_) | ((first | (with_reducible first | refine a_opd rfl rfl fun K hK => ?_ | refine d_opd rfl rfl fun K hKD => ?_ | refine a_opn rfl rfl fun K hKN => ?_ | refine d_opn rfl rfl fun K hKE => ?_ | refine k_cond fun X Y hXX hYY => ?_ | refine FN_new ?_) | (with_reducible refine a_id ?_; refine a_guard rfl rfl fun X Y hXX hYY => ?_) | (with_reducible refine d_id ?_; refine d_guard rfl rfl fun X Y hXX hYY => ?_)); simp (disch := first | decide | omega | (simp only [List.length_cons, List.length_nil]; omega)) only [go_sem, beq_self_eq_true, ↓tmL_cons, ↓hpL_get hN, hpL_set hN, reduceIte, reduceCtorEq, Nat.reduceAdd, Nat.reduceLT, Nat.reduceLeDiff, Nat.reduceEqDiff, Nat.reduceSub]) | (with_reducible refine And.intro (fun h => ?_) (fun h => ?_) <;> try (exfalso; omega)) | (with_reducible refine k_reg tiOK hN rfl ?_ ?_; kernel_rfl) | (with_reducible refine k_drawn tiOK hN rfl ?_ ?_ ?_ ?_; (kernel_rfl); (kernel_rfl); (kernel_rfl)) | (refine k_call (hr) ?_ rfl (fun _ => rfl) ?_; focus ((repeat' (first | (with_reducible first | exact Args_nil | refine Args_cons ?_ ?_ | exact ag_c _ | refine ag_agg ?_ | exact ag_elA _ | exact ag_el _ _ | refine ag_fn ?_ | exact ag_unn _) | exact ag_box hN rfl rfl | (refine ag_fz hN rfl ?_; first | exact RdLe.refl _ | exact RdLe.unn _) | exact ag_nul rfl rfl rfl)); done)) | (with_reducible first | exact Args_nil | refine Args_cons ?_ ?_ | exact ag_c _ | refine ag_agg ?_ | exact ag_elA _ | exact ag_el _ _ | refine ag_fn ?_ | exact ag_unn _) | exact ag_box hN rfl rfl | (refine ag_fz hN rfl ?_; first | exact RdLe.refl _ | exact RdLe.unn _) | exact ag_nul rfl rfl rfl | (simp only [hpUp, List.map_nil]) | (with_reducible refine FN_nil ?_) | (with_reducible refine And.intro ?_ ?_) | (refine prop_id ?_; omega) | (exact nm_ne hN (by decide))))
  (refine k_loop (fun (k : Nat) => (tmL [(19, .c (.int .i64 k)), (18, .c (.int .i64 rk.length)), (17, .sl (ν 2)), (9, .sl (ν 1))], hpL hp0 ν [.dead, .arr 2 .yes (.I (lst (PG.Attr (pgA g) who (fun v => (v : Int) ∈ xs) (fun v => (v : Int) ∈ ys)) k)), .arr 2 .yes (.I rk)])) (fun (k : Nat) => k ≤ rk.length) (fun (k : Nat) => rk.length - k) ⟨0, ?_, le_L hX hN [] ?_ ?_⟩ ?_; (repeat' (first | (with_reducible first | exact LEs.nil _ | exact LTs.nil | exact LVs.nil | refine LEs.cons ?_ ?_ | refine LVs.cons ?_ ?_ | exact lv_any _ | exact lv_c _ | exact le_dead _ | rfl | exact lv_el _ _ | refine lv_agg ?_ | exact lv_k _ | refine lv_fn ?_) | refine LTs.cons rfl ?_ ?_ | exact lv_sl hN _ rfl rfl rfl | exact lv_ad hN _ rfl rfl rfl | exact lv_fzb hN _ rfl rfl rfl (Or.inr rfl) | (refine lv_fz hN _ rfl rfl (by first | exact Or.inr rfl | exact Or.inl rfl) ?_; first | exact RdLe.refl _ | exact RdLe.unn _) | refine le_box hN rfl ?_ | refine le_arr hN rfl rfl ?_ | exact lv_nul hN _ rfl rfl | exact le_new hN rfl rfl rfl rfl | (with_reducible first | refine lv_eq ?_ | refine congrArg C.B ?_ | refine congrArg C.I ?_ | refine congrArg C.R ?_ | refine congrArg (C.int _) ?_ | refine congrArg C.bool ?_))); (try (any_goals (first | (with_reducible rfl) | (refine prop_id ?_; omega)))))
  · rfl
  intro k hk
  have hll := lst_len (PG.Attr (pgA g) who (fun v => (v : Int) ∈ xs) (fun v => (v : Int) ∈ ys)) k
  (repeat' (first | (with_reducible first | (refine hK _ _ ?_; clear hK K) | (refine hKN _ ?_; clear hKN K) | (refine hKD _ _ _ ?_; clear hKD K) | (refine hKE _ _ ?_; clear hKE K) | refine k_seq ?_ | refine n_sq ?_ | refine a_nil ?_ | refine k_label ?_ | refine k_block ?_ | refine n_bk ?_ | refine k_exit ?_ | refine n_sqx ?_ | refine n_kx ?_ | refine n_bkx ?_ | refine n_bkn rfl ?_ | refine k_ret ?_ | refine n_sqr ?_ | refine n_kr ?_ | refine n_bkr ?_ | refine k_skip ?_ | refine n_k ?_ | refine n_end ?_ | (refine hXX ?_; clear hXX X hYY Y) | (refine hYY ?_; clear hXX X hYY Y)) | (with_reducible refine k_cid ?_; first | refine k_ctl rfl ?_ | refine k_cfl rfl ?_) | (with_reducible refine a_id ?_; first | refine a_passl rfl rfl rfl rfl ?_ | refine a_runl rfl rfl rfl ?_ | refine a_pul rfl rfl rfl rfl ?_) | (with_reducible refine d_id ?_; first | refine d_passl rfl rfl rfl rfl ?_ | refine d_runl rfl rfl rfl ?_ | refine d_pul rfl rfl rfl rfl ?_ | refine d_end hN (by apply Exists.intro; apply And.intro; (repeat' (first | apply FtI.nil | apply FI.nil | apply FI.cons | apply FtI.cons)); kernel_rfl) ?_) | ((first | (with_reducible first | refine a_opd rfl rfl fun K hK => ?_ | refine d_opd rfl rfl fun K hKD => ?_ | refine a_opn rfl rfl fun K hKN => ?_ | refine d_opn rfl rfl fun K hKE => ?_ | refine k_cond fun X Y hXX hYY => ?_ | refine FN_new ?_) | (with_reducible refine a_id ?_; refine a_guard rfl rfl fun X Y hXX hYY => ?_) | (with_reducible refine d_id ?_; refine d_guard rfl rfl fun X Y hXX hYY => ?_)); simp (disch := first | decide | omega | (simp only [List.length_cons, List.length_nil]; omega)) only [go_sem, beq_self_eq_true, ↓tmL_cons, ↓hpL_get hN, hpL_set hN, reduceIte, reduceCtorEq, Nat.reduceAdd, Nat.reduceLT, Nat.reduceLeDiff, Nat.reduceEqDiff, Nat.reduceSub]) | (with_reducible refine And.intro (fun h => ?_) (fun h => ?_) <;> try (exfalso; omega)) | (with_reducible refine k_reg tiOK hN rfl ?_ ?_; kernel_rfl) | (with_reducible refine k_drawn tiOK hN rfl ?_ ?_ ?_ ?_; (kernel_rfl); (kernel_rfl); (kernel_rfl)) | (with_reducible refine And.intro ?_ ?_) | (refine prop_id ?_; omega) | (exact nm_ne hN (by decide))))
  · (refine ⟨k + 1, ⟨?_, ?_⟩, le_L hX hN [(1, 4)] ?_ ?_⟩; (try any_goals dsimp only); (repeat' (first | (with_reducible first | exact LEs.nil _ | exact LTs.nil | exact LVs.nil | refine LEs.cons ?_ ?_ | refine LVs.cons ?_ ?_ | exact lv_any _ | exact lv_c _ | exact le_dead _ | rfl | exact lv_el _ _ | refine lv_agg ?_ | exact lv_k _ | refine lv_fn ?_) | refine LTs.cons rfl ?_ ?_ | exact lv_sl hN _ rfl rfl rfl | exact lv_ad hN _ rfl rfl rfl | exact lv_fzb hN _ rfl rfl rfl (Or.inr rfl) | (refine lv_fz hN _ rfl rfl (by first | exact Or.inr rfl | exact Or.inl rfl) ?_; first | exact RdLe.refl _ | exact RdLe.unn _) | refine le_box hN rfl ?_ | refine le_arr hN rfl rfl ?_ | exact lv_nul hN _ rfl rfl | exact le_new hN rfl rfl rfl rfl | (with_reducible first | refine lv_eq ?_ | refine congrArg C.B ?_ | refine congrArg C.I ?_ | refine congrArg C.R ?_ | refine congrArg (C.int _) ?_ | refine congrArg C.bool ?_))); (try (any_goals (first | (with_reducible rfl) | (refine prop_id ?_; omega)))))
    exact lst_yes ((hat k (by omega)).1 (by omega))
  · (refine ⟨k + 1, ⟨?_, ?_⟩, le_L hX hN [] ?_ ?_⟩; (try any_goals dsimp only); (repeat' (first | (with_reducible first | exact LEs.nil _ | exact LTs.nil | exact LVs.nil | refine LEs.cons ?_ ?_ | refine LVs.cons ?_ ?_ | exact lv_any _ | exact lv_c _ | exact le_dead _ | rfl | exact lv_el _ _ | refine lv_agg ?_ | exact lv_k _ | refine lv_fn ?_) | refine LTs.cons rfl ?_ ?_ | exact lv_sl hN _ rfl rfl rfl | exact lv_ad hN _ rfl rfl rfl | exact lv_fzb hN _ rfl rfl rfl (Or.inr rfl) | (refine lv_fz hN _ rfl rfl (by first | exact Or.inr rfl | exact Or.inl rfl) ?_; first | exact RdLe.refl _ | exact RdLe.unn _) | refine le_box hN rfl ?_ | refine le_arr hN rfl rfl ?_ | exact lv_nul hN _ rfl rfl | exact le_new hN rfl rfl rfl rfl | (with_reducible first | refine lv_eq ?_ | refine congrArg C.B ?_ | refine congrArg C.I ?_ | refine congrArg C.R ?_ | refine congrArg (C.int _) ?_ | refine congrArg C.bool ?_))); (try (any_goals (first | (with_reducible rfl) | (refine prop_id ?_; omega)))))
    exact lst_no fun h => absurd ((hat k (by omega)).2 h) (by omega)
  · (refine ret_sl hN (i := 1) (.inr rfl) (by first | rfl | (simp (disch := first | decide | omega | (simp only [List.length_cons, List.length_nil]; omega)) only [resV, resL, resA, boxA, go_sem, beq_self_eq_true, ↓tmL_cons, ↓hpL_get hN, hpL_set hN, reduceIte, reduceCtorEq, Nat.reduceAdd, Nat.reduceLT, Nat.reduceLeDiff, Nat.reduceEqDiff, Nat.reduceSub]; rfl)) rfl ?_ rfl)
    rw [show k = g.prio.length by omega]; rfl
end Go.Proofs.Ytfmnikiinfbanaa
