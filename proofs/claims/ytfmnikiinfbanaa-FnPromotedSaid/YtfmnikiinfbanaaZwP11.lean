/-
  Priority promotion, the program: the stages of a game, how many steps there are of each kind.
-/
import Derived.Test.YtfmnikiinfbanaaZwP10
namespace Go.Proofs.Ytfmnikiinfbanaa
set_option linter.unusedVariables false
set_option linter.unusedSimpArgs false
open Go.RowKit
attribute [local irreducible] FunSpec CallR Aw Le
noncomputable def itS (g : Pa) : Nat → St
  | 0 => fstG g
  | k + 1 => (stepS g (itS g k)).1
noncomputable def nS (g : Pa) : Nat:=Classical.epsilon fun n=>n < 2 ^ 30 ∧ (itS g n).at_ < 0 ∧ ∀ k,k < n → 0 ≤ (itS g k).at_
theorem it_less {g : Pa} (hs : Small g) : ∀ k,(∀ j,j < k → 0 ≤ (itS g j).at_) → StOk g (itS g k) ∧ RgD g (itS g k) ∧ msrS g (itS g k) + k ≤ msrS g (fstG g)
  | 0, _ => ⟨fst_ok hs.1, fst_D g, by rw [Nat.add_zero, itS]; exact Nat.le_refl _⟩
  | k + 1, h => by
    obtain ⟨h1,hD,h2⟩:=it_less hs k fun j hj=>h j (by omega)
    have h3:=h k (by omega)
    have h4:=step_less hs h1 h3 hD
    refine ⟨step_ok hs.1 h1 h3,step_D hs.1 h1 h3 hD,?_⟩
    show msrS g (stepS g (itS g k)).1 + (k + 1) ≤ _
    omega
theorem it_end {g : Pa} (hs : Small g) : ∃ n,n < 2 ^ 30 ∧ (itS g n).at_ < 0 ∧ ∀ k,k < n → 0 ≤ (itS g k).at_:=by
  have hm:=msr_le (s:=fstG g) hs
  have : ∀ d k,(∀ j,j < k → 0 ≤ (itS g j).at_) → msrS g (itS g k) ≤ d → ∃ n,n < 2 ^ 30 ∧ (itS g n).at_ < 0 ∧ ∀ k,k < n → 0 ≤ (itS g k).at_:=by
    intro d
    induction d with
    | zero =>
      intro k h1 h2
      obtain ⟨h3,hD,h4⟩:=it_less hs k h1
      by_cases h5 : (itS g k).at_ < 0
      · exact ⟨k,by omega,h5,h1⟩
      · have:=step_less hs h3 (by omega) hD;omega
    | succ d ih =>
      intro k h1 h2
      obtain ⟨h3,hD,h4⟩:=it_less hs k h1
      by_cases h5 : (itS g k).at_ < 0
      · exact ⟨k,by omega,h5,h1⟩
      · have h6:=step_less hs h3 (by omega) hD
        refine ih (k + 1) (fun j hj=>?_) (by show msrS g (stepS g (itS g k)).1 ≤ d;omega)
        rcases Nat.lt_or_ge j k with h7|h7
        · exact h1 j h7
        · obtain rfl : j = k:=by omega
          omega
  exact this _ 0 (fun j hj=>by omega) (Nat.le_refl _)
theorem nS_ok {g : Pa} (hs : Small g) : nS g < 2 ^ 30 ∧ (itS g (nS g)).at_ < 0 ∧ ∀ k,k < nS g → 0 ≤ (itS g k).at_:=Classical.epsilon_spec (it_end hs)
theorem itS_ok {g : Pa} (hs : Small g) {k : Nat} (hk : k ≤ nS g) : StOk g (itS g k):=(it_less hs k fun j hj=>(nS_ok hs).2.2 j (by omega)).1
theorem itS_at {g : Pa} (hs : Small g) : (itS g (nS g)).at_ = -1:=by
  have h1:=(nS_ok hs).2.1
  rcases (itS_ok hs (Nat.le_refl _)).at' with h|h <;> omega
theorem knd_of (g : Pa) (s : St) : (stepS g s).2 = 1 ∨ (stepS g s).2 = 2 ∨ (stepS g s).2 = 3:=by
  unfold stepS
  split
  · exact .inl rfl
  · split
    · exact .inr (.inl rfl)
    · exact .inr (.inr rfl)
noncomputable def stpL (g : Pa) (k : Nat) : List Int:=tab 3 fun i=>(num (fun j=>(stepS g (itS g j)).2 = i + 1) k : Int)
theorem stpL_set {g : Pa} {k : Nat} {d : Int} (h : d = (stepS g (itS g k)).2 - 1) : (stpL g k).set d.toNat (gi (stpL g k) d.toNat + 1) = stpL g (k + 1):=by
  have hd:=knd_of g (itS g k)
  unfold stpL
  rw [gi_tab _ (by omega),tab_set (by omega)]
  refine tab_congr fun i hi=>?_
  by_cases e : i = d.toNat
  · rw [if_pos e,num_yes (p:=fun j=>(stepS g (itS g j)).2 = i + 1) (by show _ = _;omega),e]
    rfl
  · rw [if_neg e,num_no (p:=fun j=>(stepS g (itS g j)).2 = i + 1) (by show ¬ _ = _;omega)]
theorem stepsIn_if (g : Pa) (hs : Small g) : FunSpec Try.prog 15 [paA g] [.arr 2 .yes (.I (stpL g (nS g)))] (fun ns=>.sl (ns.getD 0 0)):=by
  obtain ⟨hn1,hn2,hn3⟩:=nS_ok hs
  have h1:=small_if g
  rw [tf_true hs] at h1
  have h2:=firstStage_f g hs.1
  have h3:=fun k (hk : k < nS g)=>promoteStep_f g hs.1 (itS g k) (itS_ok hs (Nat.le_of_lt hk)) (hn3 k hk)
  (refine f_intro tiOK Try.func15 rfl rfl (by kernel_rfl) fun hp0 ν hX hN=>?_;simp only [numT,Nat.reduceAdd])
  (repeat' (first|(with_reducible first|(refine hK _ _ ?_;clear hK K)|(refine hKN _ ?_;clear hKN K)|(refine hKD _ _ _ ?_;clear hKD K)|(refine hKE _ _ ?_;clear hKE K)|refine k_seq ?_|refine n_sq ?_|refine a_nil ?_|refine k_label ?_|refine k_block ?_|refine n_bk ?_|refine k_exit ?_|refine n_sqx ?_|refine n_kx ?_|refine n_bkx ?_|refine n_bkn rfl ?_|refine k_ret ?_|refine n_sqr ?_|refine n_kr ?_|refine n_bkr ?_|refine k_skip ?_|refine n_k ?_|refine n_end ?_|(refine hXX ?_;clear hXX X hYY Y)|(refine hYY ?_;clear hXX X hYY Y))|(with_reducible refine k_cid ?_;first|refine k_ctl rfl ?_|refine k_cfl rfl ?_)|(with_reducible refine a_id ?_;first|refine a_passl rfl rfl rfl rfl ?_|refine a_runl rfl rfl rfl ?_|refine a_pul rfl rfl rfl rfl ?_)|(with_reducible refine d_id ?_;first|refine d_passl rfl rfl rfl rfl ?_|refine d_runl rfl rfl rfl ?_|refine d_pul rfl rfl rfl rfl ?_|refine d_end hN (by apply Exists.intro;apply And.intro;(repeat' (first|apply FtI.nil|apply FI.nil|apply FI.cons|apply FtI.cons));kernel_rfl) ?_)|((first|(with_reducible first|refine a_opd rfl rfl fun K hK=>?_|refine d_opd rfl rfl fun K hKD=>?_|refine a_opn rfl rfl fun K hKN=>?_|refine d_opn rfl rfl fun K hKE=>?_|refine k_cond fun X Y hXX hYY=>?_|refine FN_new ?_)|(with_reducible refine a_id ?_;refine a_guard rfl rfl fun X Y hXX hYY=>?_)|(with_reducible refine d_id ?_;refine d_guard rfl rfl fun X Y hXX hYY=>?_));simp (disch:=first|decide|omega|(simp only [List.length_cons,List.length_nil];omega)) only [go_sem,beq_self_eq_true,↓tmL_cons,↓hpL_get hN,hpL_set hN,reduceIte,reduceCtorEq,Nat.reduceAdd,Nat.reduceLT,Nat.reduceLeDiff,Nat.reduceEqDiff,Nat.reduceSub])|(with_reducible refine And.intro (fun h=>?_) (fun h=>?_) <;> try (exfalso;omega))|(with_reducible refine k_reg tiOK hN rfl ?_ ?_;kernel_rfl)|(with_reducible refine k_drawn tiOK hN rfl ?_ ?_ ?_ ?_;(kernel_rfl);(kernel_rfl);(kernel_rfl))|(refine k_call (h1) ?_ rfl (fun _=>rfl) ?_;focus ((repeat' (first|(with_reducible first|exact Args_nil|refine Args_cons ?_ ?_|exact ag_c _|refine ag_agg ?_|exact ag_elA _|exact ag_el _ _|refine ag_fn ?_|exact ag_unn _)|exact ag_box hN rfl rfl|(refine ag_fz hN rfl ?_;first|exact RdLe.refl _|exact RdLe.unn _)|exact ag_nul rfl rfl rfl));done))|(refine k_call (h2) ?_ rfl (fun _=>rfl) ?_;focus ((repeat' (first|(with_reducible first|exact Args_nil|refine Args_cons ?_ ?_|exact ag_c _|refine ag_agg ?_|exact ag_elA _|exact ag_el _ _|refine ag_fn ?_|exact ag_unn _)|exact ag_box hN rfl rfl|(refine ag_fz hN rfl ?_;first|exact RdLe.refl _|exact RdLe.unn _)|exact ag_nul rfl rfl rfl));done))|(with_reducible first|exact Args_nil|refine Args_cons ?_ ?_|exact ag_c _|refine ag_agg ?_|exact ag_elA _|exact ag_el _ _|refine ag_fn ?_|exact ag_unn _)|exact ag_box hN rfl rfl|(refine ag_fz hN rfl ?_;first|exact RdLe.refl _|exact RdLe.unn _)|exact ag_nul rfl rfl rfl|(simp only [hpUp,List.map_nil])|(with_reducible refine FN_nil ?_)|(with_reducible refine And.intro ?_ ?_)|(refine prop_id ?_;omega)|(exact nm_ne hN (by decide))))
  (refine k_loop (fun (k : Nat)=>(tmL [(4,.ad (ν 4) 0),(3,.sl (ν 1)),(1,.ad (ν 0) 0)],hpL hp0 ν [.box [.c (.I g.ar.own),.c (.R g.ar.nxt),.c (.I g.prio)],.arr 2 .yes (.I (stpL g k)),.arr 2 .yes (.I (itS g k).won),.arr 2 .yes (.I (itS g k).region),.box [.sl (ν 2),.sl (ν 3),.c (.int .i64 (itS g k).at_)]])) (fun (k : Nat)=>k ≤ nS g) (fun (k : Nat)=>nS g - k) ⟨0,?_,le_L hX hN [] ?_ ?_⟩ ?_;(repeat' (first|(with_reducible first|exact LEs.nil _|exact LTs.nil|exact LVs.nil|refine LEs.cons ?_ ?_|refine LVs.cons ?_ ?_|exact lv_any _|exact lv_c _|exact le_dead _|rfl|exact lv_el _ _|refine lv_agg ?_|exact lv_k _|refine lv_fn ?_)|refine LTs.cons rfl ?_ ?_|exact lv_sl hN _ rfl rfl rfl|exact lv_ad hN _ rfl rfl rfl|exact lv_fzb hN _ rfl rfl rfl (Or.inr rfl)|(refine lv_fz hN _ rfl rfl (by first|exact Or.inr rfl|exact Or.inl rfl) ?_;first|exact RdLe.refl _|exact RdLe.unn _)|refine le_box hN rfl ?_|refine le_arr hN rfl rfl ?_|exact lv_nul hN _ rfl rfl|exact le_new hN rfl rfl rfl rfl|(with_reducible first|refine lv_eq ?_|refine congrArg C.B ?_|refine congrArg C.I ?_|refine congrArg C.R ?_|refine congrArg (C.int _) ?_|refine congrArg C.bool ?_)));(try (any_goals (first|(with_reducible rfl)|(refine prop_id ?_;omega)))))
  · exact (tab_congr fun i hi=>rfl).trans (by rfl)
  · rfl
  · rfl
  · rfl
  intro k hk
  have hl3 : (stpL g k).length = 3:=tab_len _ _
  have hd:=knd_of g (itS g k)
  rcases Nat.lt_or_ge k (nS g) with hkl|hkl
  · have h4:=h3 k hkl
    have h5:=hn3 k hkl
    have h8 : 0 ≤ gi (stpL g k) ((stepS g (itS g k)).2 - 1).toNat ∧ gi (stpL g k) ((stepS g (itS g k)).2 - 1).toNat ≤ k:=by
      unfold stpL
      rw [gi_tab _ (by omega)]
      have:=num_le (p:=fun j=>(stepS g (itS g j)).2 = ((((stepS g (itS g k)).2 - 1).toNat : Nat) : Int) + 1) (k:=k)
      omega
    (repeat' (first|(with_reducible first|(refine hK _ _ ?_;clear hK K)|(refine hKN _ ?_;clear hKN K)|(refine hKD _ _ _ ?_;clear hKD K)|(refine hKE _ _ ?_;clear hKE K)|refine k_seq ?_|refine n_sq ?_|refine a_nil ?_|refine k_label ?_|refine k_block ?_|refine n_bk ?_|refine k_exit ?_|refine n_sqx ?_|refine n_kx ?_|refine n_bkx ?_|refine n_bkn rfl ?_|refine k_ret ?_|refine n_sqr ?_|refine n_kr ?_|refine n_bkr ?_|refine k_skip ?_|refine n_k ?_|refine n_end ?_|(refine hXX ?_;clear hXX X hYY Y)|(refine hYY ?_;clear hXX X hYY Y))|(with_reducible refine k_cid ?_;first|refine k_ctl rfl ?_|refine k_cfl rfl ?_)|(with_reducible refine a_id ?_;first|refine a_passl rfl rfl rfl rfl ?_|refine a_runl rfl rfl rfl ?_|refine a_pul rfl rfl rfl rfl ?_)|(with_reducible refine d_id ?_;first|refine d_passl rfl rfl rfl rfl ?_|refine d_runl rfl rfl rfl ?_|refine d_pul rfl rfl rfl rfl ?_|refine d_end hN (by apply Exists.intro;apply And.intro;(repeat' (first|apply FtI.nil|apply FI.nil|apply FI.cons|apply FtI.cons));kernel_rfl) ?_)|((first|(with_reducible first|refine a_opd rfl rfl fun K hK=>?_|refine d_opd rfl rfl fun K hKD=>?_|refine a_opn rfl rfl fun K hKN=>?_|refine d_opn rfl rfl fun K hKE=>?_|refine k_cond fun X Y hXX hYY=>?_|refine FN_new ?_)|(with_reducible refine a_id ?_;refine a_guard rfl rfl fun X Y hXX hYY=>?_)|(with_reducible refine d_id ?_;refine d_guard rfl rfl fun X Y hXX hYY=>?_));simp (disch:=first|decide|omega|(simp only [List.length_cons,List.length_nil];omega)) only [go_sem,beq_self_eq_true,↓tmL_cons,↓hpL_get hN,hpL_set hN,reduceIte,reduceCtorEq,Nat.reduceAdd,Nat.reduceLT,Nat.reduceLeDiff,Nat.reduceEqDiff,Nat.reduceSub])|(with_reducible refine And.intro (fun h=>?_) (fun h=>?_) <;> try (exfalso;omega))|(with_reducible refine k_reg tiOK hN rfl ?_ ?_;kernel_rfl)|(with_reducible refine k_drawn tiOK hN rfl ?_ ?_ ?_ ?_;(kernel_rfl);(kernel_rfl);(kernel_rfl))|(refine k_call (h4) ?_ rfl (fun _=>rfl) ?_;focus ((repeat' (first|(with_reducible first|exact Args_nil|refine Args_cons ?_ ?_|exact ag_c _|refine ag_agg ?_|exact ag_elA _|exact ag_el _ _|refine ag_fn ?_|exact ag_unn _)|exact ag_box hN rfl rfl|(refine ag_fz hN rfl ?_;first|exact RdLe.refl _|exact RdLe.unn _)|exact ag_nul rfl rfl rfl));done))|(with_reducible first|exact Args_nil|refine Args_cons ?_ ?_|exact ag_c _|refine ag_agg ?_|exact ag_elA _|exact ag_el _ _|refine ag_fn ?_|exact ag_unn _)|exact ag_box hN rfl rfl|(refine ag_fz hN rfl ?_;first|exact RdLe.refl _|exact RdLe.unn _)|exact ag_nul rfl rfl rfl|(simp only [hpUp,List.map_nil])|(with_reducible refine FN_nil ?_)|(with_reducible refine And.intro ?_ ?_)|(refine prop_id ?_;omega)|(exact nm_ne hN (by decide))))
    · (refine ⟨k + 1,⟨?_,?_⟩,le_L hX hN [(2,5),(3,6),(4,8)] ?_ ?_⟩;(try any_goals dsimp only);(repeat' (first|(with_reducible first|exact LEs.nil _|exact LTs.nil|exact LVs.nil|refine LEs.cons ?_ ?_|refine LVs.cons ?_ ?_|exact lv_any _|exact lv_c _|exact le_dead _|rfl|exact lv_el _ _|refine lv_agg ?_|exact lv_k _|refine lv_fn ?_)|refine LTs.cons rfl ?_ ?_|exact lv_sl hN _ rfl rfl rfl|exact lv_ad hN _ rfl rfl rfl|exact lv_fzb hN _ rfl rfl rfl (Or.inr rfl)|(refine lv_fz hN _ rfl rfl (by first|exact Or.inr rfl|exact Or.inl rfl) ?_;first|exact RdLe.refl _|exact RdLe.unn _)|refine le_box hN rfl ?_|refine le_arr hN rfl rfl ?_|exact lv_nul hN _ rfl rfl|exact le_new hN rfl rfl rfl rfl|(with_reducible first|refine lv_eq ?_|refine congrArg C.B ?_|refine congrArg C.I ?_|refine congrArg C.R ?_|refine congrArg (C.int _) ?_|refine congrArg C.bool ?_)));(try (any_goals (first|(with_reducible rfl)|(refine prop_id ?_;omega)))))
      · exact (stpL_set rfl).symm
      · rfl
      · rfl
      · rfl
    · have : (itS g k).at_ = -1:=by simpa using h
      omega
  obtain rfl : k = nS g:=by omega
  have h6:=itS_at hs
  (repeat' (first|(with_reducible first|(refine hK _ _ ?_;clear hK K)|(refine hKN _ ?_;clear hKN K)|(refine hKD _ _ _ ?_;clear hKD K)|(refine hKE _ _ ?_;clear hKE K)|refine k_seq ?_|refine n_sq ?_|refine a_nil ?_|refine k_label ?_|refine k_block ?_|refine n_bk ?_|refine k_exit ?_|refine n_sqx ?_|refine n_kx ?_|refine n_bkx ?_|refine n_bkn rfl ?_|refine k_ret ?_|refine n_sqr ?_|refine n_kr ?_|refine n_bkr ?_|refine k_skip ?_|refine n_k ?_|refine n_end ?_|(refine hXX ?_;clear hXX X hYY Y)|(refine hYY ?_;clear hXX X hYY Y))|(with_reducible refine k_cid ?_;first|refine k_ctl rfl ?_|refine k_cfl rfl ?_)|(with_reducible refine a_id ?_;first|refine a_passl rfl rfl rfl rfl ?_|refine a_runl rfl rfl rfl ?_|refine a_pul rfl rfl rfl rfl ?_)|(with_reducible refine d_id ?_;first|refine d_passl rfl rfl rfl rfl ?_|refine d_runl rfl rfl rfl ?_|refine d_pul rfl rfl rfl rfl ?_|refine d_end hN (by apply Exists.intro;apply And.intro;(repeat' (first|apply FtI.nil|apply FI.nil|apply FI.cons|apply FtI.cons));kernel_rfl) ?_)|((first|(with_reducible first|refine a_opd rfl rfl fun K hK=>?_|refine d_opd rfl rfl fun K hKD=>?_|refine a_opn rfl rfl fun K hKN=>?_|refine d_opn rfl rfl fun K hKE=>?_|refine k_cond fun X Y hXX hYY=>?_|refine FN_new ?_)|(with_reducible refine a_id ?_;refine a_guard rfl rfl fun X Y hXX hYY=>?_)|(with_reducible refine d_id ?_;refine d_guard rfl rfl fun X Y hXX hYY=>?_));simp (disch:=first|decide|omega|(simp only [List.length_cons,List.length_nil];omega)) only [go_sem,beq_self_eq_true,↓tmL_cons,↓hpL_get hN,hpL_set hN,reduceIte,reduceCtorEq,Nat.reduceAdd,Nat.reduceLT,Nat.reduceLeDiff,Nat.reduceEqDiff,Nat.reduceSub])|(with_reducible refine And.intro (fun h=>?_) (fun h=>?_) <;> try (exfalso;omega))|(with_reducible refine k_reg tiOK hN rfl ?_ ?_;kernel_rfl)|(with_reducible refine k_drawn tiOK hN rfl ?_ ?_ ?_ ?_;(kernel_rfl);(kernel_rfl);(kernel_rfl))|(with_reducible refine And.intro ?_ ?_)|(refine prop_id ?_;omega)|(exact nm_ne hN (by decide))))
  (refine ret_sl hN (i:=1) (.inr rfl) (by first|rfl|(simp (disch:=first|decide|omega|(simp only [List.length_cons,List.length_nil];omega)) only [resV,resL,resA,boxA,go_sem,beq_self_eq_true,↓tmL_cons,↓hpL_get hN,hpL_set hN,reduceIte,reduceCtorEq,Nat.reduceAdd,Nat.reduceLT,Nat.reduceLeDiff,Nat.reduceEqDiff,Nat.reduceSub];rfl)) rfl ?_ rfl)
  rfl
end Go.Proofs.Ytfmnikiinfbanaa
