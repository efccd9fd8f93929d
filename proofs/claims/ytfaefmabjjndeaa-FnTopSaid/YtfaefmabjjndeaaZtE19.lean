/-
  Solved and PlanFrom: the program's side.
-/
import Derived.Test.YtfaefmabjjndeaaZtE18
import Derived.Test.YtfaefmabjjndeaaZtNp
namespace Go.Proofs.Ytfaefmabjjndeaa
set_option linter.unusedVariables false
set_option linter.unusedSimpArgs false
open Go.RowKit
attribute [local irreducible] FunSpec CallR Aw Le
theorem noP_ok {g : Pa} (hg : PaOk g) : PickOk g (noP g.prio.length):=by
  refine ⟨⟨tab_len _ _,fun v hv=>.inl ?_⟩,fun v hv h=>?_⟩
  · rw [noP,tab_len] at hv;exact gi_tab _ hv
  · rw [noP,gi_tab _ hv] at h;omega
theorem solved_if (g : Pa) (hg : PaOk g) : FunSpec Try.prog 18 [paA g] [.arr 2 .yes (.I (winL g)),.arr 2 .yes (.I (planN g (winL g) (noP g.prio.length) g.prio.length))] (fun ns=>.agg [.sl (ns.getD 0 0),.sl (ns.getD 1 0)]):=by
  have hl:=hg.len
  have hle:=hg.ar.le
  have h1:=parOk_if g
  rw [tf_true hg] at h1
  have h2:=noPlan_f g.ar (by omega)
  have h3:=planFrom_f g hg _ (noP_ok hg)
  rw [← hl] at h2
  rw [show (noP g.prio.length).length = g.prio.length from tab_len _ _] at h3
  (refine f_intro tiOK Try.func18 rfl rfl (by kernel_rfl) fun hp0 ν hX hN=>?_;simp only [numT,Nat.reduceAdd])
  (repeat' (first|(with_reducible first|(refine hK _ _ ?_;clear hK K)|(refine hKN _ ?_;clear hKN K)|(refine hKD _ _ _ ?_;clear hKD K)|(refine hKE _ _ ?_;clear hKE K)|refine k_seq ?_|refine n_sq ?_|refine a_nil ?_|refine k_label ?_|refine k_block ?_|refine n_bk ?_|refine k_exit ?_|refine n_sqx ?_|refine n_kx ?_|refine n_bkx ?_|refine n_bkn rfl ?_|refine k_ret ?_|refine n_sqr ?_|refine n_kr ?_|refine n_bkr ?_|refine k_skip ?_|refine n_k ?_|refine n_end ?_|(refine hXX ?_;clear hXX X hYY Y)|(refine hYY ?_;clear hXX X hYY Y))|(with_reducible refine k_cid ?_;first|refine k_ctl rfl ?_|refine k_cfl rfl ?_)|(with_reducible refine a_id ?_;first|refine a_passl rfl rfl rfl rfl ?_|refine a_runl rfl rfl rfl ?_|refine a_pul rfl rfl rfl rfl ?_)|(with_reducible refine d_id ?_;first|refine d_passl rfl rfl rfl rfl ?_|refine d_runl rfl rfl rfl ?_|refine d_pul rfl rfl rfl rfl ?_|refine d_end hN (by apply Exists.intro;apply And.intro;(repeat' (first|apply FtI.nil|apply FI.nil|apply FI.cons|apply FtI.cons));kernel_rfl) ?_)|((first|(with_reducible first|refine a_opd rfl rfl fun K hK=>?_|refine d_opd rfl rfl fun K hKD=>?_|refine a_opn rfl rfl fun K hKN=>?_|refine d_opn rfl rfl fun K hKE=>?_|refine k_cond fun X Y hXX hYY=>?_|refine FN_new ?_)|(with_reducible refine a_id ?_;refine a_guard rfl rfl fun X Y hXX hYY=>?_)|(with_reducible refine d_id ?_;refine d_guard rfl rfl fun X Y hXX hYY=>?_));simp (disch:=first|decide|omega|(simp only [List.length_cons,List.length_nil];omega)) only [go_sem,beq_self_eq_true,↓tmL_cons,↓hpL_get hN,hpL_set hN,reduceIte,reduceCtorEq,Nat.reduceAdd,Nat.reduceLT,Nat.reduceLeDiff,Nat.reduceEqDiff,Nat.reduceSub])|(with_reducible refine And.intro (fun h=>?_) (fun h=>?_) <;> try (exfalso;omega))|(with_reducible refine k_reg tiOK hN rfl ?_ ?_;kernel_rfl)|(with_reducible refine k_drawn tiOK hN rfl ?_ ?_ ?_ ?_;(kernel_rfl);(kernel_rfl);(kernel_rfl))|(refine k_call h1 ?_ rfl (fun _=>rfl) ?_)|(refine k_call (h2) ?_ rfl (fun _=>rfl) ?_;focus ((repeat' (first|(with_reducible first|exact Args_nil|refine Args_cons ?_ ?_|exact ag_c _|refine ag_agg ?_|exact ag_elA _|exact ag_el _ _|refine ag_fn ?_|exact ag_unn _)|exact ag_box hN rfl rfl|(refine ag_fz hN rfl ?_;first|exact RdLe.refl _|exact RdLe.unn _)|exact ag_nul rfl rfl rfl));done))|(refine k_call (winners_f g hg) ?_ rfl (fun _=>rfl) ?_;focus ((repeat' (first|(with_reducible first|exact Args_nil|refine Args_cons ?_ ?_|exact ag_c _|refine ag_agg ?_|exact ag_elA _|exact ag_el _ _|refine ag_fn ?_|exact ag_unn _)|exact ag_box hN rfl rfl|(refine ag_fz hN rfl ?_;first|exact RdLe.refl _|exact RdLe.unn _)|exact ag_nul rfl rfl rfl));done))|(refine k_call h3 ?_ rfl (fun _=>rfl) ?_)|(with_reducible first|exact Args_nil|refine Args_cons ?_ ?_|exact ag_c _|refine ag_agg ?_|exact ag_elA _|exact ag_el _ _|refine ag_fn ?_|exact ag_unn _)|exact ag_box hN rfl rfl|(refine ag_fz hN rfl ?_;first|exact RdLe.refl _|exact RdLe.unn _)|exact ag_nul rfl rfl rfl|(simp only [hpUp,List.map_nil])|(with_reducible refine FN_nil ?_)|(with_reducible refine And.intro ?_ ?_)|(refine prop_id ?_;omega)|(exact nm_ne hN (by decide))))
  (refine ret_X hN [4,5] (by decide) (.inr rfl) (by first|exact resV_tmp rfl rfl|exact resV_cell hN rfl rfl rfl rfl|exact resV_cell2 hN rfl rfl rfl rfl rfl|(simp (disch:=first|decide|omega|(simp only [List.length_cons,List.length_nil];omega)) only [resV,resL,resA,boxA,go_sem,beq_self_eq_true,↓tmL_cons,↓hpL_get hN,hpL_set hN,reduceIte,reduceCtorEq,Nat.reduceAdd,Nat.reduceLT,Nat.reduceLeDiff,Nat.reduceEqDiff,Nat.reduceSub];rfl)|rfl) ?_ fun νs hνs=>?_;(repeat' (first|exact Gone.nil|(refine Gone.cons rfl rfl ?_ ?_)|(with_reducible refine sv_tup ?_)|(with_reducible refine sv_agg ?_)|(with_reducible refine SVs.cons ?_ ?_)|(with_reducible exact SVs.nil)|(simp only [List.drop,List.take])|(simp (disch:=first|decide|omega) only [↓tmL_cons,reduceIte,reduceCtorEq,Nat.reduceEqDiff])|(with_reducible exact sv_c _)|(with_reducible exact sv_unn _)|(exact sv_nul rfl rfl rfl)|(exact sv_sl 0 (by simp) rfl rfl)|(exact sv_sl 1 (by simp) rfl rfl)|(refine sv_fz hN rfl (nm_not hN (by decide)) ?_)|(with_reducible refine sv_eq ?_)|(with_reducible rfl)|(with_reducible refine congrArg C.B ?_)|(with_reducible refine congrArg C.I ?_)|(with_reducible refine congrArg C.R ?_)|(with_reducible refine congrArg (C.int _) ?_)|(with_reducible refine congrArg C.bool ?_)|(refine prop_id ?_;omega))))
def Fits (g : Pa) (ps : List Int) : Prop:=Keeps g ps ∧ ∀ v,v < ps.length → 0 ≤ gi ps v → gi g.ar.own v = gi (winL g) v
theorem fits_pick {g : Pa} {ps : List Int} (h : Fits g ps) : PickOk g ps:=by
  obtain ⟨⟨⟨hg,hp⟩,hw⟩,ho⟩:=h
  refine ⟨hp,fun v hv hp0=>⟨ho v (by have:=hp.1;omega) hp0,?_⟩⟩
  have hl:=hg.len
  have hn:=(won_next (onlyP_ok hg hp) (v:=v) hv).1
  rw [show gr (onlyP g ps).ar.nxt v = pickR g.ar.nxt ps v from gr_tabr _ (by omega),hw] at hn
  unfold pickR at hn
  rw [if_pos hp0] at hn
  obtain ⟨t,ht,e⟩:=hn
  have : t = 0:=by simpa using ht
  subst this
  exact e
end Go.Proofs.Ytfaefmabjjndeaa
