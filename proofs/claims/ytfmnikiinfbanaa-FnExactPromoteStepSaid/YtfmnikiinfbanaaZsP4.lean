/-
  Priority promotion, the program: what is below, what is pulled.
-/
import Derived.Test.YtfmnikiinfbanaaZsP3
import Derived.Test.YtfmnikiinfbanaaZsBs
import Derived.Test.YtfmnikiinfbanaaZsNp
namespace Go.Proofs.Ytfmnikiinfbanaa
set_option linter.unusedVariables false
set_option linter.unusedSimpArgs false
open Go.RowKit
attribute [local irreducible] FunSpec CallR Aw Le
abbrev stA (s : St) : AV := .agg [.c (.I s.won), .c (.I s.region), .c (.int .i64 s.at_)]
abbrev stE (s : St) : Ent := .box [.c (.I s.won), .c (.I s.region), .c (.int .i64 s.at_)]
theorem isSet_of {xs : List Int} {m : Int} (hp : xs.Pairwise (· < ·)) (hb : ∀ x, x ∈ xs → 0 ≤ x ∧ x < m) : IsSet xs m := fun k hk => by
  have h1 := hb _ (gi_mem hk)
  refine ⟨h1.1, h1.2, fun h0 => ?_⟩
  have h2 := List.pairwise_iff_getElem.1 hp (k - 1) k (by omega) hk (by omega)
  rwa [← gi_get (by omega : k - 1 < xs.length), ← gi_get hk] at h2
theorem lst_incA (p : Nat → Prop) : ∀ k, (lst p k).Pairwise (· < ·)
  | 0 => List.Pairwise.nil
  | k + 1 => by
    by_cases h : p k
    · rw [lst_yes h, List.pairwise_append]
      refine ⟨lst_incA p k, by simp, fun x hx y hy => ?_⟩
      obtain ⟨v, h1, _, h3⟩ := mem_lst.1 hx
      rw [List.mem_singleton.1 hy, h3];omega
    · rw [lst_no h];exact lst_incA p k
theorem isSet_lstA (p : Nat → Prop) (n : Nat) : IsSet (lst p n) n := isSet_of (lst_incA p n) fun x hx => by
  obtain ⟨v, h1, _, h3⟩ := mem_lst.1 hx
  omega
theorem filt_incA {p : Int → Prop} {xs : List Int} (hx : xs.Pairwise (· < ·)) : ∀ k, k ≤ xs.length → (filt p xs k).Pairwise (· < ·)
  | 0, _ => List.Pairwise.nil
  | k + 1, hk => by
    by_cases h : p (gi xs k)
    · rw [filt_yes h, List.pairwise_append]
      refine ⟨filt_incA hx k (by omega), by simp, fun x hx' y hy => ?_⟩
      obtain ⟨j, h1, h2, _⟩ := (mem_filtA k (by omega)).1 hx'
      rw [List.mem_singleton.1 hy, ← h2]
      have h3 := List.pairwise_iff_getElem.1 hx j k (by omega) (by omega) h1
      rwa [← gi_get (by omega : j < xs.length), ← gi_get (by omega : k < xs.length)] at h3
    · rw [filt_no h];exact filt_incA hx k (by omega)
theorem mem_filtL {p : Int → Prop} {xs : List Int} {x : Int} : x ∈ filt p xs xs.length ↔ x ∈ xs ∧ p x := by
  rw [mem_filtA _ (Nat.le_refl _)]
  constructor
  · rintro ⟨j, h1, h2, h3⟩;exact ⟨h2 ▸ gi_mem h1, h3⟩
  · rintro ⟨h1, h2⟩
    obtain ⟨j, h3, h4⟩ := mem_gi h1
    exact ⟨j, h3, h4, h2⟩
theorem isSet_filtA {p : Int → Prop} {xs : List Int} {m : Int} (h : IsSet xs m) : IsSet (filt p xs xs.length) m := isSet_of (filt_incA (set_inc h) _ (Nat.le_refl _)) fun x hx => by
  obtain ⟨j, h1, h2⟩ := mem_gi (mem_filtL.1 hx).1
  have := h j h1
  rw [← h2];exact ⟨this.1, this.2.1⟩
noncomputable def belL (s : St) (p : Int) : List Int := lst (fun v => 0 ≤ gi s.region v ∧ gi s.region v ≤ p) s.region.length
theorem mem_belL {g : Pa} {s : St} (h : StOk g s) (p : Int) (v : Nat) : (v : Int) ∈ belL s p ↔ Blw g s p v := by
  unfold belL
  rw [mem_lst, h.lr]
  exact ⟨fun ⟨u, h1, h2, h3⟩ => by
    have : u = v := by omega
    subst this;exact ⟨h1, h2⟩, fun h => ⟨v, h.1, h.2, rfl⟩⟩
theorem belowIn_f (s : St) (p : Int) (hl : s.region.length ≤ 256) : FunSpec Try.prog 93 [stA s, .c (.int .i64 p)] [.arr 2 .yes (.I (belL s p))] (fun ns => .sl (ns.getD 0 0)) := by
  (refine f_intro tiOK Try.func93 rfl rfl (by kernel_rfl) fun hp0 ν hX hN => ?_;simp only [numT, Nat.reduceAdd])
  (repeat' (first | (with_reducible first | (refine hK _ _ ?_;clear hK K)|(refine hKN _ ?_;clear hKN K)|(refine hKD _ _ _ ?_;clear hKD K)|(refine hKE _ _ ?_;clear hKE K) | refine k_seq ?_ | refine n_sq ?_ | refine a_nil ?_ | refine k_label ?_ | refine k_block ?_ | refine n_bk ?_ | refine k_exit ?_ | refine n_sqx ?_ | refine n_kx ?_ | refine n_bkx ?_ | refine n_bkn rfl ?_ | refine k_ret ?_ | refine n_sqr ?_ | refine n_kr ?_ | refine n_bkr ?_ | refine k_skip ?_ | refine n_k ?_ | refine n_end ?_ | (refine hXX ?_;clear hXX X hYY Y)|(refine hYY ?_;clear hXX X hYY Y))|(with_reducible refine k_cid ?_;first | refine k_ctl rfl ?_ | refine k_cfl rfl ?_)|(with_reducible refine a_id ?_;first | refine a_passl rfl rfl rfl rfl ?_ | refine a_runl rfl rfl rfl ?_ | refine a_pul rfl rfl rfl rfl ?_)|(with_reducible refine d_id ?_;first | refine d_passl rfl rfl rfl rfl ?_ | refine d_runl rfl rfl rfl ?_ | refine d_pul rfl rfl rfl rfl ?_ | refine d_end hN (by apply Exists.intro;apply And.intro;(repeat' (first | apply FtI.nil | apply FI.nil | apply FI.cons | apply FtI.cons));kernel_rfl) ?_)|((first | (with_reducible first | refine a_opd rfl rfl fun K hK => ?_ | refine d_opd rfl rfl fun K hKD => ?_ | refine a_opn rfl rfl fun K hKN => ?_ | refine d_opn rfl rfl fun K hKE => ?_ | refine k_cond fun X Y hXX hYY => ?_ | refine FN_new ?_)|(with_reducible refine a_id ?_;refine a_guard rfl rfl fun X Y hXX hYY => ?_)|(with_reducible refine d_id ?_;refine d_guard rfl rfl fun X Y hXX hYY => ?_));simp (disch := first | decide | omega | (simp only [List.length_cons, List.length_nil];omega)) only [go_sem, beq_self_eq_true, ↓tmL_cons, ↓hpL_get hN, hpL_set hN, reduceIte, reduceCtorEq, Nat.reduceAdd, Nat.reduceLT, Nat.reduceLeDiff, Nat.reduceEqDiff, Nat.reduceSub])|(with_reducible refine And.intro (fun h => ?_) (fun h => ?_) <;> try (exfalso;omega))|(with_reducible refine k_reg tiOK hN rfl ?_ ?_;kernel_rfl)|(with_reducible refine k_drawn tiOK hN rfl ?_ ?_ ?_ ?_;(kernel_rfl);(kernel_rfl);(kernel_rfl))|(with_reducible refine And.intro ?_ ?_)|(refine prop_id ?_;omega)|(exact nm_ne hN (by decide))))
  (refine k_loop (fun (k : Nat) => (tmL [(12, .c (.int .i64 k)), (11, .c (.int .i64 s.region.length)), (10, .c (.I s.region)), (5, .sl (ν 1)), (1, .c (.int .i64 p))], hpL hp0 ν [.dead, .arr 2 .yes (.I (lst (fun v => 0 ≤ gi s.region v ∧ gi s.region v ≤ p) k))])) (fun (k : Nat) => k ≤ s.region.length) (fun (k : Nat) => s.region.length - k) ⟨0, ?_, le_L hX hN [] ?_ ?_⟩ ?_;(repeat' (first | (with_reducible first | exact LEs.nil _ | exact LTs.nil | exact LVs.nil | refine LEs.cons ?_ ?_ | refine LVs.cons ?_ ?_ | exact lv_any _ | exact lv_c _ | exact le_dead _ | rfl | exact lv_el _ _ | refine lv_agg ?_ | exact lv_k _ | refine lv_fn ?_) | refine LTs.cons rfl ?_ ?_ | exact lv_sl hN _ rfl rfl rfl | exact lv_ad hN _ rfl rfl rfl | exact lv_fzb hN _ rfl rfl rfl (Or.inr rfl)|(refine lv_fz hN _ rfl rfl (by first | exact Or.inr rfl | exact Or.inl rfl) ?_;first | exact RdLe.refl _ | exact RdLe.unn _) | refine le_box hN rfl ?_ | refine le_arr hN rfl rfl ?_ | exact lv_nul hN _ rfl rfl | exact le_new hN rfl rfl rfl rfl | (with_reducible first | refine lv_eq ?_ | refine congrArg C.B ?_ | refine congrArg C.I ?_ | refine congrArg C.R ?_ | refine congrArg (C.int _) ?_ | refine congrArg C.bool ?_)));(try (any_goals (first | (with_reducible rfl)|(refine prop_id ?_;omega)))))
  · rfl
  intro k hk
  have hll := lst_len (fun v => 0 ≤ gi s.region v ∧ gi s.region v ≤ p) k
  (repeat' (first | (with_reducible first | (refine hK _ _ ?_;clear hK K)|(refine hKN _ ?_;clear hKN K)|(refine hKD _ _ _ ?_;clear hKD K)|(refine hKE _ _ ?_;clear hKE K) | refine k_seq ?_ | refine n_sq ?_ | refine a_nil ?_ | refine k_label ?_ | refine k_block ?_ | refine n_bk ?_ | refine k_exit ?_ | refine n_sqx ?_ | refine n_kx ?_ | refine n_bkx ?_ | refine n_bkn rfl ?_ | refine k_ret ?_ | refine n_sqr ?_ | refine n_kr ?_ | refine n_bkr ?_ | refine k_skip ?_ | refine n_k ?_ | refine n_end ?_ | (refine hXX ?_;clear hXX X hYY Y)|(refine hYY ?_;clear hXX X hYY Y))|(with_reducible refine k_cid ?_;first | refine k_ctl rfl ?_ | refine k_cfl rfl ?_)|(with_reducible refine a_id ?_;first | refine a_passl rfl rfl rfl rfl ?_ | refine a_runl rfl rfl rfl ?_ | refine a_pul rfl rfl rfl rfl ?_)|(with_reducible refine d_id ?_;first | refine d_passl rfl rfl rfl rfl ?_ | refine d_runl rfl rfl rfl ?_ | refine d_pul rfl rfl rfl rfl ?_ | refine d_end hN (by apply Exists.intro;apply And.intro;(repeat' (first | apply FtI.nil | apply FI.nil | apply FI.cons | apply FtI.cons));kernel_rfl) ?_)|((first | (with_reducible first | refine a_opd rfl rfl fun K hK => ?_ | refine d_opd rfl rfl fun K hKD => ?_ | refine a_opn rfl rfl fun K hKN => ?_ | refine d_opn rfl rfl fun K hKE => ?_ | refine k_cond fun X Y hXX hYY => ?_ | refine FN_new ?_)|(with_reducible refine a_id ?_;refine a_guard rfl rfl fun X Y hXX hYY => ?_)|(with_reducible refine d_id ?_;refine d_guard rfl rfl fun X Y hXX hYY => ?_));simp (disch := first | decide | omega | (simp only [List.length_cons, List.length_nil];omega)) only [go_sem, beq_self_eq_true, ↓tmL_cons, ↓hpL_get hN, hpL_set hN, reduceIte, reduceCtorEq, Nat.reduceAdd, Nat.reduceLT, Nat.reduceLeDiff, Nat.reduceEqDiff, Nat.reduceSub])|(with_reducible refine And.intro (fun h => ?_) (fun h => ?_) <;> try (exfalso;omega))|(with_reducible refine k_reg tiOK hN rfl ?_ ?_;kernel_rfl)|(with_reducible refine k_drawn tiOK hN rfl ?_ ?_ ?_ ?_;(kernel_rfl);(kernel_rfl);(kernel_rfl))|(with_reducible refine And.intro ?_ ?_)|(refine prop_id ?_;omega)|(exact nm_ne hN (by decide))))
  · (refine ⟨k + 1, ⟨?_, ?_⟩, le_L hX hN [(1, 3)] ?_ ?_⟩;(try any_goals dsimp only);(repeat' (first | (with_reducible first | exact LEs.nil _ | exact LTs.nil | exact LVs.nil | refine LEs.cons ?_ ?_ | refine LVs.cons ?_ ?_ | exact lv_any _ | exact lv_c _ | exact le_dead _ | rfl | exact lv_el _ _ | refine lv_agg ?_ | exact lv_k _ | refine lv_fn ?_) | refine LTs.cons rfl ?_ ?_ | exact lv_sl hN _ rfl rfl rfl | exact lv_ad hN _ rfl rfl rfl | exact lv_fzb hN _ rfl rfl rfl (Or.inr rfl)|(refine lv_fz hN _ rfl rfl (by first | exact Or.inr rfl | exact Or.inl rfl) ?_;first | exact RdLe.refl _ | exact RdLe.unn _) | refine le_box hN rfl ?_ | refine le_arr hN rfl rfl ?_ | exact lv_nul hN _ rfl rfl | exact le_new hN rfl rfl rfl rfl | (with_reducible first | refine lv_eq ?_ | refine congrArg C.B ?_ | refine congrArg C.I ?_ | refine congrArg C.R ?_ | refine congrArg (C.int _) ?_ | refine congrArg C.bool ?_)));(try (any_goals (first | (with_reducible rfl)|(refine prop_id ?_;omega)))))
    exact lst_yes ⟨by assumption, by assumption⟩
  · (refine ⟨k + 1, ⟨?_, ?_⟩, le_L hX hN [] ?_ ?_⟩;(try any_goals dsimp only);(repeat' (first | (with_reducible first | exact LEs.nil _ | exact LTs.nil | exact LVs.nil | refine LEs.cons ?_ ?_ | refine LVs.cons ?_ ?_ | exact lv_any _ | exact lv_c _ | exact le_dead _ | rfl | exact lv_el _ _ | refine lv_agg ?_ | exact lv_k _ | refine lv_fn ?_) | refine LTs.cons rfl ?_ ?_ | exact lv_sl hN _ rfl rfl rfl | exact lv_ad hN _ rfl rfl rfl | exact lv_fzb hN _ rfl rfl rfl (Or.inr rfl)|(refine lv_fz hN _ rfl rfl (by first | exact Or.inr rfl | exact Or.inl rfl) ?_;first | exact RdLe.refl _ | exact RdLe.unn _) | refine le_box hN rfl ?_ | refine le_arr hN rfl rfl ?_ | exact lv_nul hN _ rfl rfl | exact le_new hN rfl rfl rfl rfl | (with_reducible first | refine lv_eq ?_ | refine congrArg C.B ?_ | refine congrArg C.I ?_ | refine congrArg C.R ?_ | refine congrArg (C.int _) ?_ | refine congrArg C.bool ?_)));(try (any_goals (first | (with_reducible rfl)|(refine prop_id ?_;omega)))))
    exact lst_no fun h => absurd h.2 (by assumption)
  · (refine ⟨k + 1, ⟨?_, ?_⟩, le_L hX hN [] ?_ ?_⟩;(try any_goals dsimp only);(repeat' (first | (with_reducible first | exact LEs.nil _ | exact LTs.nil | exact LVs.nil | refine LEs.cons ?_ ?_ | refine LVs.cons ?_ ?_ | exact lv_any _ | exact lv_c _ | exact le_dead _ | rfl | exact lv_el _ _ | refine lv_agg ?_ | exact lv_k _ | refine lv_fn ?_) | refine LTs.cons rfl ?_ ?_ | exact lv_sl hN _ rfl rfl rfl | exact lv_ad hN _ rfl rfl rfl | exact lv_fzb hN _ rfl rfl rfl (Or.inr rfl)|(refine lv_fz hN _ rfl rfl (by first | exact Or.inr rfl | exact Or.inl rfl) ?_;first | exact RdLe.refl _ | exact RdLe.unn _) | refine le_box hN rfl ?_ | refine le_arr hN rfl rfl ?_ | exact lv_nul hN _ rfl rfl | exact le_new hN rfl rfl rfl rfl | (with_reducible first | refine lv_eq ?_ | refine congrArg C.B ?_ | refine congrArg C.I ?_ | refine congrArg C.R ?_ | refine congrArg (C.int _) ?_ | refine congrArg C.bool ?_)));(try (any_goals (first | (with_reducible rfl)|(refine prop_id ?_;omega)))))
    exact lst_no fun h => absurd h.1 (by assumption)
  · (refine ret_sl hN (i := 1) (.inr rfl) (by first | rfl | (simp (disch := first | decide | omega | (simp only [List.length_cons, List.length_nil];omega)) only [resV, resL, resA, boxA, go_sem, beq_self_eq_true, ↓tmL_cons, ↓hpL_get hN, hpL_set hN, reduceIte, reduceCtorEq, Nat.reduceAdd, Nat.reduceLT, Nat.reduceLeDiff, Nat.reduceEqDiff, Nat.reduceSub];rfl)) rfl ?_ rfl)
    rw [show k = s.region.length by omega];rfl
theorem isSet_belL {g : Pa} {s : St} (h : StOk g s) (p : Int) : IsSet (belL s p) g.prio.length := by
  have := isSet_lstA (fun v => 0 ≤ gi s.region v ∧ gi s.region v ≤ p) s.region.length
  rw [h.lr] at this
  unfold belL;rw [h.lr];exact this
noncomputable def pulL (g : Pa) (s : St) : List Int := lst (Pul g s) g.prio.length
theorem pulledIn_f (g : Pa) (hg : PaOk g) (s : St) (h : StOk g s) (h0 : 0 ≤ s.at_) : FunSpec Try.prog 70 [paA g, stA s] [.arr 2 .yes (.I (pulL g s))] (fun ns => .sl (ns.getD 0 0)) := by
  have hl := hg.len
  have hle := hg.ar.le
  have hlr := h.lr
  have ha : s.at_ ≤ 40 := by rcases h.at' with h1 | h1 <;> omega
  have hb1 := belowIn_f s s.at_ (by omega)
  have hb2 := belowIn_f s (s.at_ - 1) (by omega)
  have hs1 := isSet_belL h s.at_
  have hs2 := isSet_belL h (s.at_ - 1)
  have hl1 := isSet_len hs1 (by omega)
  have hl2 := isSet_len hs2 (by omega)
  have hle2 := lessOf_if (belL s s.at_) (belL s (s.at_ - 1)) (by omega) (set_inc hs2) (by omega)
  have hat := attract_f g hg (s.at_.tmod 2) (belL s s.at_) _ hs1 (isSet_filtA (p := fun x => ¬ x ∈ belL s (s.at_ - 1)) hs1)
  have he : attL g (s.at_.tmod 2) (belL s s.at_) (filt (fun x => ¬ x ∈ belL s (s.at_ - 1)) (belL s s.at_) (belL s s.at_).length) = pulL g s := by
    refine lst_congr fun v hv => PG.attr_congr (fun u => mem_belL h _ u) (fun u hu => ?_) v
    have hu' := (mem_belL h _ u).1 hu
    rw [mem_filtL, mem_belL h, mem_belL h]
    constructor
    · rintro ⟨h1, h2⟩
      refine ⟨h1.1, ?_⟩
      have h3 := h1.2.2
      rcases Int.lt_or_le (gi s.region u) s.at_ with h4 | h4
      · exact absurd ⟨h1.1, h1.2.1, by omega⟩ h2
      · omega
    · rintro ⟨h1, h2⟩
      exact ⟨hu', fun h3 => by have := h3.2.2;omega⟩
  rw [he] at hat
  (refine f_intro tiOK Try.func70 rfl rfl (by kernel_rfl) fun hp0 ν hX hN => ?_;simp only [numT, Nat.reduceAdd])
  (repeat' (first | (with_reducible first | (refine hK _ _ ?_;clear hK K)|(refine hKN _ ?_;clear hKN K)|(refine hKD _ _ _ ?_;clear hKD K)|(refine hKE _ _ ?_;clear hKE K) | refine k_seq ?_ | refine n_sq ?_ | refine a_nil ?_ | refine k_label ?_ | refine k_block ?_ | refine n_bk ?_ | refine k_exit ?_ | refine n_sqx ?_ | refine n_kx ?_ | refine n_bkx ?_ | refine n_bkn rfl ?_ | refine k_ret ?_ | refine n_sqr ?_ | refine n_kr ?_ | refine n_bkr ?_ | refine k_skip ?_ | refine n_k ?_ | refine n_end ?_ | (refine hXX ?_;clear hXX X hYY Y)|(refine hYY ?_;clear hXX X hYY Y))|(with_reducible refine k_cid ?_;first | refine k_ctl rfl ?_ | refine k_cfl rfl ?_)|(with_reducible refine a_id ?_;first | refine a_passl rfl rfl rfl rfl ?_ | refine a_runl rfl rfl rfl ?_ | refine a_pul rfl rfl rfl rfl ?_)|(with_reducible refine d_id ?_;first | refine d_passl rfl rfl rfl rfl ?_ | refine d_runl rfl rfl rfl ?_ | refine d_pul rfl rfl rfl rfl ?_ | refine d_end hN (by apply Exists.intro;apply And.intro;(repeat' (first | apply FtI.nil | apply FI.nil | apply FI.cons | apply FtI.cons));kernel_rfl) ?_)|((first | (with_reducible first | refine a_opd rfl rfl fun K hK => ?_ | refine d_opd rfl rfl fun K hKD => ?_ | refine a_opn rfl rfl fun K hKN => ?_ | refine d_opn rfl rfl fun K hKE => ?_ | refine k_cond fun X Y hXX hYY => ?_ | refine FN_new ?_)|(with_reducible refine a_id ?_;refine a_guard rfl rfl fun X Y hXX hYY => ?_)|(with_reducible refine d_id ?_;refine d_guard rfl rfl fun X Y hXX hYY => ?_));simp (disch := first | decide | omega | (simp only [List.length_cons, List.length_nil];omega)) only [go_sem, beq_self_eq_true, ↓tmL_cons, ↓hpL_get hN, hpL_set hN, reduceIte, reduceCtorEq, Nat.reduceAdd, Nat.reduceLT, Nat.reduceLeDiff, Nat.reduceEqDiff, Nat.reduceSub])|(with_reducible refine And.intro (fun h => ?_) (fun h => ?_) <;> try (exfalso;omega))|(with_reducible refine k_reg tiOK hN rfl ?_ ?_;kernel_rfl)|(with_reducible refine k_drawn tiOK hN rfl ?_ ?_ ?_ ?_;(kernel_rfl);(kernel_rfl);(kernel_rfl))|(refine k_call (hb1) ?_ rfl (fun _ => rfl) ?_;focus ((repeat' (first | (with_reducible first | exact Args_nil | refine Args_cons ?_ ?_ | exact ag_c _ | refine ag_agg ?_ | exact ag_elA _ | exact ag_el _ _ | refine ag_fn ?_ | exact ag_unn _) | exact ag_box hN rfl rfl | (refine ag_fz hN rfl ?_;first | exact RdLe.refl _ | exact RdLe.unn _) | exact ag_nul rfl rfl rfl));done))|(refine k_call (hb2) ?_ rfl (fun _ => rfl) ?_;focus ((repeat' (first | (with_reducible first | exact Args_nil | refine Args_cons ?_ ?_ | exact ag_c _ | refine ag_agg ?_ | exact ag_elA _ | exact ag_el _ _ | refine ag_fn ?_ | exact ag_unn _) | exact ag_box hN rfl rfl | (refine ag_fz hN rfl ?_;first | exact RdLe.refl _ | exact RdLe.unn _) | exact ag_nul rfl rfl rfl));done))|(refine k_call (hle2) ?_ rfl (fun _ => rfl) ?_;focus ((repeat' (first | (with_reducible first | exact Args_nil | refine Args_cons ?_ ?_ | exact ag_c _ | refine ag_agg ?_ | exact ag_elA _ | exact ag_el _ _ | refine ag_fn ?_ | exact ag_unn _) | exact ag_box hN rfl rfl | (refine ag_fz hN rfl ?_;first | exact RdLe.refl _ | exact RdLe.unn _) | exact ag_nul rfl rfl rfl));done))|(refine k_call (hat) ?_ rfl (fun _ => rfl) ?_;focus ((repeat' (first | (with_reducible first | exact Args_nil | refine Args_cons ?_ ?_ | exact ag_c _ | refine ag_agg ?_ | exact ag_elA _ | exact ag_el _ _ | refine ag_fn ?_ | exact ag_unn _) | exact ag_box hN rfl rfl | (refine ag_fz hN rfl ?_;first | exact RdLe.refl _ | exact RdLe.unn _) | exact ag_nul rfl rfl rfl));done))|(with_reducible first | exact Args_nil | refine Args_cons ?_ ?_ | exact ag_c _ | refine ag_agg ?_ | exact ag_elA _ | exact ag_el _ _ | refine ag_fn ?_ | exact ag_unn _) | exact ag_box hN rfl rfl | (refine ag_fz hN rfl ?_;first | exact RdLe.refl _ | exact RdLe.unn _) | exact ag_nul rfl rfl rfl | (simp only [hpUp, List.map_nil])|(with_reducible refine FN_nil ?_)|(with_reducible refine And.intro ?_ ?_)|(refine prop_id ?_;omega)|(exact nm_ne hN (by decide))))
  (refine ret_sl hN (i := 5) (.inr rfl) (by first | rfl | (simp (disch := first | decide | omega | (simp only [List.length_cons, List.length_nil];omega)) only [resV, resL, resA, boxA, go_sem, beq_self_eq_true, ↓tmL_cons, ↓hpL_get hN, hpL_set hN, reduceIte, reduceCtorEq, Nat.reduceAdd, Nat.reduceLT, Nat.reduceLeDiff, Nat.reduceEqDiff, Nat.reduceSub];rfl)) rfl ?_ rfl)
  rfl
end Go.Proofs.Ytfmnikiinfbanaa
