/-
  The winners of a whole game, on both sides.
-/
import Derived.Test.YtfmnikiinfbanaaZwE12
import Derived.Test.YtfmnikiinfbanaaZwG1
namespace Go.Proofs.Ytfmnikiinfbanaa
set_option linter.unusedVariables false
set_option linter.unusedSimpArgs false
open Go.RowKit
attribute [local irreducible] FunSpec CallR Aw Le
theorem l7Won_f (g : Pa) (hg : PaOk g) : FunSpec Try.prog 110 [paA g] [.arr 2 .yes (.I (winL g))] (fun ns=>.sl (ns.getD 0 0)):=by
  have hl:=hg.len
  have hle:=hg.ar.le
  have hP : (fun v=>gb (tabb g.prio.length fun _=>true) v = true) = allN g:=funext fun v=>propext (by
    rcases Nat.lt_or_ge v g.prio.length with h|h
    · rw [gb_tabb _ h];exact ⟨fun _=>h,fun _=>rfl⟩
    · refine ⟨fun h'=>?_,fun h'=>?_⟩
      · have:=gb_lt h';rw [tabb_len] at this;omega
      · have : v < g.prio.length:=h';omega)
  have hw:=l7Win_f (gmOf g) g.prio.length (gmOk_of hg) _ (tabb g.prio.length fun _=>true) (tabb_len _ _) (Nat.lt_succ_self _) (by rw [hP];exact total_all hg)
  rw [hP] at hw
  clear hP
  change FunSpec _ _ _ [.arr _ _ (.B (mks g.prio.length (PG.Won (pgP g) 0 (allN g))))] _ at hw
  have hal:=l7All_f g.prio.length (by omega)
  have hend : (tab g.prio.length fun v=>1 - (if gb (mks g.prio.length (PG.Won (pgP g) 0 (allN g))) v = true then (1 : Int) else 0)) = winL g:=by
    refine tab_congr fun v hv=>?_
    rw [gb_mks _ hv]
    split <;> rfl
  have hwl : (mks g.prio.length (PG.Won (pgP g) 0 (allN g))).length = g.prio.length:=mks_len _ _
  generalize mks g.prio.length (PG.Won (pgP g) 0 (allN g)) = win at *
  generalize (tabb g.prio.length fun _=>true) = al at *
  (refine f_intro tiOK Try.func110 rfl rfl (by kernel_rfl) fun hp0 ν hX hN=>?_;simp only [numT,Nat.reduceAdd])
  (repeat' (first|(with_reducible first|(refine hK _ _ ?_;clear hK K)|(refine hKN _ ?_;clear hKN K)|(refine hKD _ _ _ ?_;clear hKD K)|(refine hKE _ _ ?_;clear hKE K)|refine k_seq ?_|refine n_sq ?_|refine a_nil ?_|refine k_label ?_|refine k_block ?_|refine n_bk ?_|refine k_exit ?_|refine n_sqx ?_|refine n_kx ?_|refine n_bkx ?_|refine n_bkn rfl ?_|refine k_ret ?_|refine n_sqr ?_|refine n_kr ?_|refine n_bkr ?_|refine k_skip ?_|refine n_k ?_|refine n_end ?_|(refine hXX ?_;clear hXX X hYY Y)|(refine hYY ?_;clear hXX X hYY Y))|(with_reducible refine k_cid ?_;first|refine k_ctl rfl ?_|refine k_cfl rfl ?_)|(with_reducible refine a_id ?_;first|refine a_passl rfl rfl rfl rfl ?_|refine a_runl rfl rfl rfl ?_|refine a_pul rfl rfl rfl rfl ?_)|(with_reducible refine d_id ?_;first|refine d_passl rfl rfl rfl rfl ?_|refine d_runl rfl rfl rfl ?_|refine d_pul rfl rfl rfl rfl ?_|refine d_end hN (by apply Exists.intro;apply And.intro;(repeat' (first|apply FtI.nil|apply FI.nil|apply FI.cons|apply FtI.cons));kernel_rfl) ?_)|((first|(with_reducible first|refine a_opd rfl rfl fun K hK=>?_|refine d_opd rfl rfl fun K hKD=>?_|refine a_opn rfl rfl fun K hKN=>?_|refine d_opn rfl rfl fun K hKE=>?_|refine k_cond fun X Y hXX hYY=>?_|refine FN_new ?_)|(with_reducible refine a_id ?_;refine a_guard rfl rfl fun X Y hXX hYY=>?_)|(with_reducible refine d_id ?_;refine d_guard rfl rfl fun X Y hXX hYY=>?_));simp (disch:=first|decide|omega|(simp only [List.length_cons,List.length_nil];omega)) only [go_sem,beq_self_eq_true,↓tmL_cons,↓hpL_get hN,hpL_set hN,reduceIte,reduceCtorEq,Nat.reduceAdd,Nat.reduceLT,Nat.reduceLeDiff,Nat.reduceEqDiff,Nat.reduceSub])|(with_reducible refine And.intro (fun h=>?_) (fun h=>?_) <;> try (exfalso;omega))|(with_reducible refine k_reg tiOK hN rfl ?_ ?_;kernel_rfl)|(with_reducible refine k_drawn tiOK hN rfl ?_ ?_ ?_ ?_;(kernel_rfl);(kernel_rfl);(kernel_rfl))|(refine k_calld (l7Of_f g hg) ?_ rfl rfl ?_)|(refine k_call hal ?_ rfl (fun _=>rfl) ?_)|(refine k_call hw ?_ rfl (fun _=>rfl) ?_)|(with_reducible first|exact Args_nil|refine Args_cons ?_ ?_|exact ag_c _|refine ag_agg ?_|exact ag_elA _|exact ag_el _ _|refine ag_fn ?_|exact ag_unn _)|exact ag_box hN rfl rfl|(refine ag_fz hN rfl ?_;first|exact RdLe.refl _|exact RdLe.unn _)|exact ag_nul rfl rfl rfl|(simp only [hpUp,List.map_nil])|(with_reducible refine FN_nil ?_)|(with_reducible refine And.intro ?_ ?_)|(refine prop_id ?_;omega)|(exact nm_ne hN (by decide))))
  (refine k_loop (fun (k : Nat)=>(tmL [(5,.c (.int .i64 k)),(4,.sl (ν 3)),(3,.sl (ν 2))],hpL hp0 ν [.dead,.dead,.arr 4 .yes (.B win),.arr 2 .yes (.I (tab k fun v=>1 - (if gb win v = true then (1 : Int) else 0)))])) (fun (k : Nat)=>k ≤ g.prio.length) (fun (k : Nat)=>g.prio.length - k) ⟨0,?_,le_L hX hN [] ?_ ?_⟩ ?_;(repeat' (first|(with_reducible first|exact LEs.nil _|exact LTs.nil|exact LVs.nil|refine LEs.cons ?_ ?_|refine LVs.cons ?_ ?_|exact lv_any _|exact lv_c _|exact le_dead _|rfl|exact lv_el _ _|refine lv_agg ?_|exact lv_k _|refine lv_fn ?_)|refine LTs.cons rfl ?_ ?_|exact lv_sl hN _ rfl rfl rfl|exact lv_ad hN _ rfl rfl rfl|exact lv_fzb hN _ rfl rfl rfl (Or.inr rfl)|(refine lv_fz hN _ rfl rfl (by first|exact Or.inr rfl|exact Or.inl rfl) ?_;first|exact RdLe.refl _|exact RdLe.unn _)|refine le_box hN rfl ?_|refine le_arr hN rfl rfl ?_|exact lv_nul hN _ rfl rfl|exact le_new hN rfl rfl rfl rfl|(with_reducible first|refine lv_eq ?_|refine congrArg C.B ?_|refine congrArg C.I ?_|refine congrArg C.R ?_|refine congrArg (C.int _) ?_|refine congrArg C.bool ?_)));(try (any_goals (first|(with_reducible rfl)|(refine prop_id ?_;omega)))))
  · rfl
  intro k hk
  have hlen:=tab_len k fun v=>1 - (if gb win v = true then (1 : Int) else 0)
  (repeat' (first|(with_reducible first|(refine hK _ _ ?_;clear hK K)|(refine hKN _ ?_;clear hKN K)|(refine hKD _ _ _ ?_;clear hKD K)|(refine hKE _ _ ?_;clear hKE K)|refine k_seq ?_|refine n_sq ?_|refine a_nil ?_|refine k_label ?_|refine k_block ?_|refine n_bk ?_|refine k_exit ?_|refine n_sqx ?_|refine n_kx ?_|refine n_bkx ?_|refine n_bkn rfl ?_|refine k_ret ?_|refine n_sqr ?_|refine n_kr ?_|refine n_bkr ?_|refine k_skip ?_|refine n_k ?_|refine n_end ?_|(refine hXX ?_;clear hXX X hYY Y)|(refine hYY ?_;clear hXX X hYY Y))|(with_reducible refine k_cid ?_;first|refine k_ctl rfl ?_|refine k_cfl rfl ?_)|(with_reducible refine a_id ?_;first|refine a_passl rfl rfl rfl rfl ?_|refine a_runl rfl rfl rfl ?_|refine a_pul rfl rfl rfl rfl ?_)|(with_reducible refine d_id ?_;first|refine d_passl rfl rfl rfl rfl ?_|refine d_runl rfl rfl rfl ?_|refine d_pul rfl rfl rfl rfl ?_|refine d_end hN (by apply Exists.intro;apply And.intro;(repeat' (first|apply FtI.nil|apply FI.nil|apply FI.cons|apply FtI.cons));kernel_rfl) ?_)|((first|(with_reducible first|refine a_opd rfl rfl fun K hK=>?_|refine d_opd rfl rfl fun K hKD=>?_|refine a_opn rfl rfl fun K hKN=>?_|refine d_opn rfl rfl fun K hKE=>?_|refine k_cond fun X Y hXX hYY=>?_|refine FN_new ?_)|(with_reducible refine a_id ?_;refine a_guard rfl rfl fun X Y hXX hYY=>?_)|(with_reducible refine d_id ?_;refine d_guard rfl rfl fun X Y hXX hYY=>?_));simp (disch:=first|decide|omega|(simp only [List.length_cons,List.length_nil];omega)) only [go_sem,beq_self_eq_true,↓tmL_cons,↓hpL_get hN,hpL_set hN,reduceIte,reduceCtorEq,Nat.reduceAdd,Nat.reduceLT,Nat.reduceLeDiff,Nat.reduceEqDiff,Nat.reduceSub])|(with_reducible refine And.intro (fun h=>?_) (fun h=>?_) <;> try (exfalso;omega))|(with_reducible refine k_reg tiOK hN rfl ?_ ?_;kernel_rfl)|(with_reducible refine k_drawn tiOK hN rfl ?_ ?_ ?_ ?_;(kernel_rfl);(kernel_rfl);(kernel_rfl))|(refine k_call (l1Flag_f ?_) ?_ rfl (fun _=>rfl) ?_)|(with_reducible first|exact Args_nil|refine Args_cons ?_ ?_|exact ag_c _|refine ag_agg ?_|exact ag_elA _|exact ag_el _ _|refine ag_fn ?_|exact ag_unn _)|exact ag_box hN rfl rfl|(refine ag_fz hN rfl ?_;first|exact RdLe.refl _|exact RdLe.unn _)|exact ag_nul rfl rfl rfl|(simp only [hpUp,List.map_nil])|(with_reducible refine FN_nil ?_)|(with_reducible refine And.intro ?_ ?_)|(refine prop_id ?_;omega)|(exact nm_ne hN (by decide))))
  · (refine ⟨k + 1,⟨?_,?_⟩,le_L hX hN [(3,5)] ?_ ?_⟩;(try any_goals dsimp only);(repeat' (first|(with_reducible first|exact LEs.nil _|exact LTs.nil|exact LVs.nil|refine LEs.cons ?_ ?_|refine LVs.cons ?_ ?_|exact lv_any _|exact lv_c _|exact le_dead _|rfl|exact lv_el _ _|refine lv_agg ?_|exact lv_k _|refine lv_fn ?_)|refine LTs.cons rfl ?_ ?_|exact lv_sl hN _ rfl rfl rfl|exact lv_ad hN _ rfl rfl rfl|exact lv_fzb hN _ rfl rfl rfl (Or.inr rfl)|(refine lv_fz hN _ rfl rfl (by first|exact Or.inr rfl|exact Or.inl rfl) ?_;first|exact RdLe.refl _|exact RdLe.unn _)|refine le_box hN rfl ?_|refine le_arr hN rfl rfl ?_|exact lv_nul hN _ rfl rfl|exact le_new hN rfl rfl rfl rfl|(with_reducible first|refine lv_eq ?_|refine congrArg C.B ?_|refine congrArg C.I ?_|refine congrArg C.R ?_|refine congrArg (C.int _) ?_|refine congrArg C.bool ?_)));(try (any_goals (first|(with_reducible rfl)|(refine prop_id ?_;omega)))))
    exact tab_succ k fun v=>1 - (if gb win v = true then (1 : Int) else 0)
  · (refine ret_sl hN (i:=3) (.inr rfl) (by first|rfl|(simp (disch:=first|decide|omega|(simp only [List.length_cons,List.length_nil];omega)) only [resV,resL,resA,boxA,go_sem,beq_self_eq_true,↓tmL_cons,↓hpL_get hN,hpL_set hN,reduceIte,reduceCtorEq,Nat.reduceAdd,Nat.reduceLT,Nat.reduceLeDiff,Nat.reduceEqDiff,Nat.reduceSub];rfl)) rfl ?_ rfl)
    rw [show k = g.prio.length by omega,hend]
theorem winL_len (g : Pa) : (winL g).length = g.prio.length:=tab_len _ _
theorem winL_le {g : Pa} (hg : PaOk g) : (winL g).length ≤ 1048576:=by
  have h1:=hg.ar.le
  have h2:=hg.len
  rw [winL_len];omega
end Go.Proofs.Ytfmnikiinfbanaa
