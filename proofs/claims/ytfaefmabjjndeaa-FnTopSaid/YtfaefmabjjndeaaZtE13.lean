/-
  The winners of a whole game, on both sides.
-/
import Derived.Test.YtfaefmabjjndeaaZtE12
import Derived.Test.YtfaefmabjjndeaaZtG1
namespace Go.Proofs.Ytfaefmabjjndeaa
set_option linter.unusedVariables false
set_option linter.unusedSimpArgs false
open Go.RowKit
attribute [local irreducible] FunSpec CallR Aw Le
theorem gameIn_all {g : Pa} (hg : PaOk g) : GameIn g.ar (tab g.ar.own.length fun v=>v):=by
  have hm : ∀ x : Int,x ∈ (tab g.ar.own.length fun v=>(v : Int)) ↔ 0 ≤ x ∧ x < g.ar.own.length:=fun x=>by
    constructor
    · intro h
      obtain ⟨k,hk,e⟩:=mem_gi h
      rw [tab_len] at hk
      rw [gi_tab _ hk] at e
      omega
    · intro h
      have : gi (tab g.ar.own.length fun v=>(v : Int)) x.toNat = x:=by rw [gi_tab _ (by omega)];omega
      rw [← this]
      exact gi_mem (by rw [tab_len];omega)
  refine ⟨fun k hk=>?_,fun k hk=>?_⟩
  · rw [tab_len] at hk
    rw [gi_tab _ hk]
    refine ⟨by omega,by omega,fun h=>?_⟩
    rw [gi_tab _ (by omega)];omega
  · rw [tab_len] at hk
    rw [gi_tab _ hk,Int.toNat_natCast]
    obtain ⟨_,_,h1,h2,h3⟩:=hg.ar.vert k hk
    have h4:=h3 0 (by omega)
    exact ⟨0,by omega,(hm _).2 ⟨h4.1,h4.2.1⟩⟩
noncomputable def wmk (n : Nat) (xs : List Int) (k : Nat) : List Int:=tab n fun v=>if tf (∃ j,j < k ∧ gi xs j = (v : Int)) then 1 else 0
theorem wmk_len (n : Nat) (xs : List Int) (k : Nat) : (wmk n xs k).length = n:=tab_len _ _
theorem wmk_zero (n : Nat) (xs : List Int) : List.replicate n 0 = wmk n xs 0:=by
  refine eq_tab List.length_replicate fun v hv=>?_
  rw [tf_false (by rintro ⟨j,h,_⟩;omega)]
  simp [gi,List.getD_eq_getElem?_getD,List.getElem?_replicate];split <;> rfl
theorem wmk_succ {n : Nat} {xs : List Int} {k : Nat} (h0 : 0 ≤ gi xs k) (h1 : gi xs k < n) : (wmk n xs k).set (gi xs k).toNat 1 = wmk n xs (k + 1):=by
  refine eq_tab (by rw [List.length_set,wmk_len]) fun v hv=>?_
  rw [gi_set (by rw [wmk_len];omega)]
  by_cases e : v = (gi xs k).toNat
  · rw [if_pos e,tf_true ⟨k,by omega,by omega⟩];rfl
  · rw [if_neg e,wmk,gi_tab _ hv,tf_congr (q:=∃ j,j < k + 1 ∧ gi xs j = (v : Int))]
    constructor
    · rintro ⟨j,a,b⟩;exact ⟨j,by omega,b⟩
    · rintro ⟨j,a,b⟩
      rcases Nat.lt_or_ge j k with h|h
      · exact ⟨j,h,b⟩
      · have : j = k:=by omega
        subst this;omega
theorem wmk_win {g : Pa} (hg : PaOk g) : wmk g.prio.length (wonL g (tab g.ar.own.length fun v=>v) 1) (wonL g (tab g.ar.own.length fun v=>v) 1).length = winL g:=by
  have hl:=hg.len
  have hm : ∀ v : Nat,(v : Int) ∈ (tab g.ar.own.length fun v=>(v : Int)) ↔ allN g v:=fun v=>by
    constructor
    · intro h
      obtain ⟨k,hk,e⟩:=mem_gi h
      rw [tab_len] at hk
      rw [gi_tab _ hk] at e
      show _ < _
      omega
    · intro h
      have hv : v < g.ar.own.length:=by have : v < g.prio.length:=h;omega
      have : gi (tab g.ar.own.length fun v=>(v : Int)) v = (v : Int):=gi_tab _ hv
      rw [← this]
      exact gi_mem (by rw [tab_len];exact hv)
  have hw:=fun (i : Int) (v : Nat)=>won_cong (P:=pgP g) (i:=i) hm v
  have hmem : ∀ v : Nat,v < g.prio.length → ((∃ j,j < (wonL g (tab g.ar.own.length fun v=>v) 1).length ∧ gi (wonL g (tab g.ar.own.length fun v=>v) 1) j = (v : Int)) ↔ PG.Won (pgP g) 1 (allN g) v):=fun v hv=>by
    constructor
    · rintro ⟨j,a,b⟩
      obtain ⟨u,h1,h2,h3⟩:=mem_lstB.1 (gi_mem a)
      have h2' : gi (wonL g (tab g.ar.own.length fun v=>v) 1) j = (u : Int):=h2
      have : u = v:=by omega
      subst this
      rw [gb_mks _ h1,tf_eq] at h3
      exact (hw _ _).1 h3
    · intro h
      exact mem_gi (mem_lstB.2 ⟨v,hv,rfl,by rw [gb_mks _ hv,tf_eq];exact (hw _ _).2 h⟩)
  refine tab_congr fun v hv=>?_
  rw [tf_congr (hmem v hv),tf_congr (PG.won_not fin_P (fun v h=>h) (total_all hg) (S:=allN g) (v:=v) hv)]
  by_cases h : PG.Won (pgP g) 0 (allN g) v
  · rw [tf_true h,tf_false (fun h'=>h' h)];rfl
  · rw [tf_false h,tf_true h];rfl
theorem winners_f (g : Pa) (hg : PaOk g) : FunSpec Try.prog 75 [paA g] [.arr 2 .yes (.I (winL g))] (fun ns=>.sl (ns.getD 0 0)):=by
  have hl:=hg.len
  have hle:=hg.ar.le
  have hwi:=wonIn_f g hg _ (gameIn_all hg)
  have hend:=wmk_win hg
  have hbd : ∀ j,j < (wonL g (tab g.ar.own.length fun v=>v) 1).length → 0 ≤ gi (wonL g (tab g.ar.own.length fun v=>v) 1) j ∧ gi (wonL g (tab g.ar.own.length fun v=>v) 1) j < g.prio.length:=fun j hj=>by
    obtain ⟨u,h1,h2,h3⟩:=mem_lstB.1 (gi_mem hj)
    have h2' : gi (wonL g (tab g.ar.own.length fun v=>v) 1) j = (u : Int):=h2
    omega
  have hodl : (wonL g (tab g.ar.own.length fun v=>v) 1).length ≤ g.prio.length:=lstB_len _ _
  generalize wonL g (tab g.ar.own.length fun v=>v) 1 = od at *
  generalize wonL g (tab g.ar.own.length fun v=>v) 0 = ev at *
  (refine f_intro tiOK Try.func75 rfl rfl (by kernel_rfl) fun hp0 ν hX hN=>?_;simp only [numT,Nat.reduceAdd])
  (repeat' (first|(with_reducible first|(refine hK _ _ ?_;clear hK K)|(refine hKN _ ?_;clear hKN K)|(refine hKD _ _ _ ?_;clear hKD K)|(refine hKE _ _ ?_;clear hKE K)|refine k_seq ?_|refine n_sq ?_|refine a_nil ?_|refine k_label ?_|refine k_block ?_|refine n_bk ?_|refine k_exit ?_|refine n_sqx ?_|refine n_kx ?_|refine n_bkx ?_|refine n_bkn rfl ?_|refine k_ret ?_|refine n_sqr ?_|refine n_kr ?_|refine n_bkr ?_|refine k_skip ?_|refine n_k ?_|refine n_end ?_|(refine hXX ?_;clear hXX X hYY Y)|(refine hYY ?_;clear hXX X hYY Y))|(with_reducible refine k_cid ?_;first|refine k_ctl rfl ?_|refine k_cfl rfl ?_)|(with_reducible refine a_id ?_;first|refine a_passl rfl rfl rfl rfl ?_|refine a_runl rfl rfl rfl ?_|refine a_pul rfl rfl rfl rfl ?_)|(with_reducible refine d_id ?_;first|refine d_passl rfl rfl rfl rfl ?_|refine d_runl rfl rfl rfl ?_|refine d_pul rfl rfl rfl rfl ?_|refine d_end hN (by apply Exists.intro;apply And.intro;(repeat' (first|apply FtI.nil|apply FI.nil|apply FI.cons|apply FtI.cons));kernel_rfl) ?_)|((first|(with_reducible first|refine a_opd rfl rfl fun K hK=>?_|refine d_opd rfl rfl fun K hKD=>?_|refine a_opn rfl rfl fun K hKN=>?_|refine d_opn rfl rfl fun K hKE=>?_|refine k_cond fun X Y hXX hYY=>?_|refine FN_new ?_)|(with_reducible refine a_id ?_;refine a_guard rfl rfl fun X Y hXX hYY=>?_)|(with_reducible refine d_id ?_;refine d_guard rfl rfl fun X Y hXX hYY=>?_));simp (disch:=first|decide|omega|(simp only [List.length_cons,List.length_nil];omega)) only [go_sem,beq_self_eq_true,↓tmL_cons,↓hpL_get hN,hpL_set hN,reduceIte,reduceCtorEq,Nat.reduceAdd,Nat.reduceLT,Nat.reduceLeDiff,Nat.reduceEqDiff,Nat.reduceSub])|(with_reducible refine And.intro (fun h=>?_) (fun h=>?_) <;> try (exfalso;omega))|(with_reducible refine k_reg tiOK hN rfl ?_ ?_;kernel_rfl)|(with_reducible refine k_drawn tiOK hN rfl ?_ ?_ ?_ ?_;(kernel_rfl);(kernel_rfl);(kernel_rfl))|(refine k_call (allOf_if g.ar hle) ?_ rfl (fun _=>rfl) ?_)|(refine k_call (hwi) ?_ rfl (fun _=>rfl) ?_)|(with_reducible first|exact Args_nil|refine Args_cons ?_ ?_|exact ag_c _|refine ag_agg ?_|exact ag_elA _|exact ag_el _ _|refine ag_fn ?_|exact ag_unn _)|exact ag_box hN rfl rfl|(refine ag_fz hN rfl ?_;first|exact RdLe.refl _|exact RdLe.unn _)|exact ag_nul rfl rfl rfl|(simp only [hpUp,List.map_nil])|(with_reducible refine FN_nil ?_)|(with_reducible refine And.intro ?_ ?_)|(refine prop_id ?_;omega)|(exact nm_ne hN (by decide))))
  (refine k_loop (fun (k : Nat)=>(tmL [(22,.c (.int .i64 k)),(21,.c (.int .i64 od.length)),(20,.sl (ν 4)),(3,.sl (ν 1))],hpL hp0 ν [.dead,.arr 2 .yes (.I (wmk g.prio.length od k)),.dead,.dead,.arr 2 .yes (.I od)])) (fun (k : Nat)=>k ≤ od.length) (fun (k : Nat)=>od.length - k) ⟨0,?_,le_L hX hN [] ?_ ?_⟩ ?_;(repeat' (first|(with_reducible first|exact LEs.nil _|exact LTs.nil|exact LVs.nil|refine LEs.cons ?_ ?_|refine LVs.cons ?_ ?_|exact lv_any _|exact lv_c _|exact le_dead _|rfl|exact lv_el _ _|refine lv_agg ?_|exact lv_k _|refine lv_fn ?_)|refine LTs.cons rfl ?_ ?_|exact lv_sl hN _ rfl rfl rfl|exact lv_ad hN _ rfl rfl rfl|exact lv_fzb hN _ rfl rfl rfl (Or.inr rfl)|(refine lv_fz hN _ rfl rfl (by first|exact Or.inr rfl|exact Or.inl rfl) ?_;first|exact RdLe.refl _|exact RdLe.unn _)|refine le_box hN rfl ?_|refine le_arr hN rfl rfl ?_|exact lv_nul hN _ rfl rfl|exact le_new hN rfl rfl rfl rfl|(with_reducible first|refine lv_eq ?_|refine congrArg C.B ?_|refine congrArg C.I ?_|refine congrArg C.R ?_|refine congrArg (C.int _) ?_|refine congrArg C.bool ?_)));(try (any_goals (first|(with_reducible rfl)|(refine prop_id ?_;omega)))))
  · exact (wmk_zero _ _).symm
  intro k hk
  have hb:=hbd k
  have hml:=wmk_len g.prio.length od k
  (repeat' (first|(with_reducible first|(refine hK _ _ ?_;clear hK K)|(refine hKN _ ?_;clear hKN K)|(refine hKD _ _ _ ?_;clear hKD K)|(refine hKE _ _ ?_;clear hKE K)|refine k_seq ?_|refine n_sq ?_|refine a_nil ?_|refine k_label ?_|refine k_block ?_|refine n_bk ?_|refine k_exit ?_|refine n_sqx ?_|refine n_kx ?_|refine n_bkx ?_|refine n_bkn rfl ?_|refine k_ret ?_|refine n_sqr ?_|refine n_kr ?_|refine n_bkr ?_|refine k_skip ?_|refine n_k ?_|refine n_end ?_|(refine hXX ?_;clear hXX X hYY Y)|(refine hYY ?_;clear hXX X hYY Y))|(with_reducible refine k_cid ?_;first|refine k_ctl rfl ?_|refine k_cfl rfl ?_)|(with_reducible refine a_id ?_;first|refine a_passl rfl rfl rfl rfl ?_|refine a_runl rfl rfl rfl ?_|refine a_pul rfl rfl rfl rfl ?_)|(with_reducible refine d_id ?_;first|refine d_passl rfl rfl rfl rfl ?_|refine d_runl rfl rfl rfl ?_|refine d_pul rfl rfl rfl rfl ?_|refine d_end hN (by apply Exists.intro;apply And.intro;(repeat' (first|apply FtI.nil|apply FI.nil|apply FI.cons|apply FtI.cons));kernel_rfl) ?_)|((first|(with_reducible first|refine a_opd rfl rfl fun K hK=>?_|refine d_opd rfl rfl fun K hKD=>?_|refine a_opn rfl rfl fun K hKN=>?_|refine d_opn rfl rfl fun K hKE=>?_|refine k_cond fun X Y hXX hYY=>?_|refine FN_new ?_)|(with_reducible refine a_id ?_;refine a_guard rfl rfl fun X Y hXX hYY=>?_)|(with_reducible refine d_id ?_;refine d_guard rfl rfl fun X Y hXX hYY=>?_));simp (disch:=first|decide|omega|(simp only [List.length_cons,List.length_nil];omega)) only [go_sem,beq_self_eq_true,↓tmL_cons,↓hpL_get hN,hpL_set hN,reduceIte,reduceCtorEq,Nat.reduceAdd,Nat.reduceLT,Nat.reduceLeDiff,Nat.reduceEqDiff,Nat.reduceSub])|(with_reducible refine And.intro (fun h=>?_) (fun h=>?_) <;> try (exfalso;omega))|(with_reducible refine k_reg tiOK hN rfl ?_ ?_;kernel_rfl)|(with_reducible refine k_drawn tiOK hN rfl ?_ ?_ ?_ ?_;(kernel_rfl);(kernel_rfl);(kernel_rfl))|(with_reducible refine And.intro ?_ ?_)|(refine prop_id ?_;omega)|(exact nm_ne hN (by decide))))
  · (refine ⟨k + 1,⟨?_,?_⟩,le_L hX hN [] ?_ ?_⟩;(try any_goals dsimp only);(repeat' (first|(with_reducible first|exact LEs.nil _|exact LTs.nil|exact LVs.nil|refine LEs.cons ?_ ?_|refine LVs.cons ?_ ?_|exact lv_any _|exact lv_c _|exact le_dead _|rfl|exact lv_el _ _|refine lv_agg ?_|exact lv_k _|refine lv_fn ?_)|refine LTs.cons rfl ?_ ?_|exact lv_sl hN _ rfl rfl rfl|exact lv_ad hN _ rfl rfl rfl|exact lv_fzb hN _ rfl rfl rfl (Or.inr rfl)|(refine lv_fz hN _ rfl rfl (by first|exact Or.inr rfl|exact Or.inl rfl) ?_;first|exact RdLe.refl _|exact RdLe.unn _)|refine le_box hN rfl ?_|refine le_arr hN rfl rfl ?_|exact lv_nul hN _ rfl rfl|exact le_new hN rfl rfl rfl rfl|(with_reducible first|refine lv_eq ?_|refine congrArg C.B ?_|refine congrArg C.I ?_|refine congrArg C.R ?_|refine congrArg (C.int _) ?_|refine congrArg C.bool ?_)));(try (any_goals (first|(with_reducible rfl)|(refine prop_id ?_;omega)))))
    exact (wmk_succ (hbd k (by omega)).1 (hbd k (by omega)).2).symm
  · (refine ret_sl hN (i:=1) (.inr rfl) (by first|rfl|(simp (disch:=first|decide|omega|(simp only [List.length_cons,List.length_nil];omega)) only [resV,resL,resA,boxA,go_sem,beq_self_eq_true,↓tmL_cons,↓hpL_get hN,hpL_set hN,reduceIte,reduceCtorEq,Nat.reduceAdd,Nat.reduceLT,Nat.reduceLeDiff,Nat.reduceEqDiff,Nat.reduceSub];rfl)) rfl ?_ rfl)
    rw [show k = od.length by omega,hend]
theorem winL_len (g : Pa) : (winL g).length = g.prio.length:=tab_len _ _
end Go.Proofs.Ytfaefmabjjndeaa
