/-
  Who wins which vertex: the program's and the reference's.
-/
import Derived.Test.YtfaefmabjjndeaaZtE11
import Derived.Test.YtfaefmabjjndeaaZtCe
import Derived.Test.YtfaefmabjjndeaaZtCq
namespace Go.Proofs.Ytfaefmabjjndeaa
set_option linter.unusedVariables false
set_option linter.unusedSimpArgs false
open Go.RowKit
attribute [local irreducible] FunSpec CallR Aw Le
def pgP (g : Pa) : PG.Gm:=pgOf (gmOf g) g.prio.length
theorem prev_of {g : Pa} (hg : PaOk g) : prevs g.ar = (gmOf g).prev:=by
  show tabr _ (fun u=>prevTo g.ar.nxt u _) = tabr _ (fun u=>prevTo g.ar.nxt u _)
  rw [hg.len]
theorem gmOf_pick {g : Pa} {v : Nat} (hv : v < g.prio.length) : gi (gmOf g).pick v < 0:=by
  rw [show gi (gmOf g).pick v = -1 from gi_tab _ hv];omega
theorem pgP_E {g : Pa} (v u : Nat) : (pgP g).E v u ↔ v < g.prio.length ∧ u < g.prio.length ∧ ∃ t,t < (gr g.ar.nxt v).length ∧ gi (gr g.ar.nxt v) t = (u : Int):=by
  show v < _ ∧ u < _ ∧ edg (gmOf g) v u = true ∧ _ ↔ _
  constructor
  · rintro ⟨a,b,_,c⟩;exact ⟨a,b,c⟩
  · rintro ⟨a,b,c⟩;exact ⟨a,b,edg_of v u (by omega) (by omega),c⟩
theorem total_in {g : Pa} (hg : PaOk g) {xs : List Int} (h : GameIn g.ar xs) : PG.Total (pgP g) fun v=>(v : Int) ∈ xs:=by
  intro v hv
  obtain ⟨k,hk,e⟩:=mem_gi hv
  obtain ⟨i,h1,h2⟩:=h.2 k hk
  have h3:=h.1 k hk
  have hl:=hg.len
  rw [e,Int.toNat_natCast] at h1 h2
  obtain ⟨j,hj,e'⟩:=mem_gi h2
  have h4:=h.1 j hj
  rw [e'] at h4
  have e5 : (((gi (gr g.ar.nxt v) i).toNat : Nat) : Int) = gi (gr g.ar.nxt v) i:=Int.toNat_of_nonneg h4.1
  exact ⟨(gi (gr g.ar.nxt v) i).toNat,(pgP_E _ _).2 ⟨by omega,by omega,i,h1,e5.symm⟩,by show _ ∈ xs;rw [e5];exact h2⟩
def allN (g : Pa) (v : Nat) : Prop:=v < g.prio.length
theorem total_all {g : Pa} (hg : PaOk g) : PG.Total (pgP g) (allN g):=by
  intro v hv
  have hl:=hg.len
  have hv' : v < g.prio.length:=hv
  obtain ⟨_,_,h1,h2,h3⟩:=hg.ar.vert v (by omega)
  have h4:=h3 0 (by omega)
  exact ⟨(gi (gr g.ar.nxt v) 0).toNat,(pgP_E _ _).2 ⟨hv',by omega,0,by omega,by omega⟩,show _ < _ by omega⟩
theorem won_cong {P : PG.Gm} {i : Int} {S S' : Nat → Prop} (h : ∀ v,S v ↔ S' v) (v : Nat) : PG.Won P i S v ↔ PG.Won P i S' v:=by
  have : S = S':=funext fun v=>propext (h v)
  rw [this]
theorem gb_mks' {n v : Nat} {p : Nat → Prop} (hp : ∀ v,p v → v < n) : gb (mks n p) v = true ↔ p v:=by
  rcases Nat.lt_or_ge v n with h|h
  · rw [gb_mks _ h];exact tf_eq
  · refine ⟨fun h'=>?_,fun h'=>?_⟩
    · have:=gb_lt h';rw [mks_len] at this;omega
    · have:=hp v h';omega
theorem wins_less {P : PG.Gm} {n : Nat} (hf : PG.Fin P n) {S : Nat → Prop} (hS : ∀ v,S v → v < n) (ht : PG.Total P S) {i : Int} (hi : i = 0 ∨ i = 1) :
    (tabb (mks n S).length fun v=>gb (mks n S) v && !gb (mks n (PG.Won P i S)) v) = mks n (PG.Won P (1 - i) S):=by
  rw [mks_len]
  refine tabb_congr fun v hv=>bool_tf ?_
  rw [gb_mks _ hv,gb_mks _ hv,won_not' hf hS ht hi,Bool.and_eq_true,Bool.not_eq_true',tf_eq,tf_ne]
  exact Iff.rfl
noncomputable def wonL (g : Pa) (xs : List Int) (i : Int) : List Int:=lstB (mks g.prio.length (PG.Won (pgP g) i fun v=>(v : Int) ∈ xs)) g.prio.length
noncomputable def winL (g : Pa) : List Int:=tab g.prio.length fun v=>if tf (PG.Won (pgP g) 0 (allN g) v) then 0 else 1
theorem fin_P {g : Pa} : PG.Fin (pgP g) g.prio.length:=fun v u h=>h.2.1
set_option maxHeartbeats 4000000 in
theorem wonIn_f (g : Pa) (hg : PaOk g) (xs : List Int) (hx : GameIn g.ar xs) : FunSpec Try.prog 151 [paA g,.c (.I xs)] [.arr 2 .yes (.I (wonL g xs 0)),.arr 2 .yes (.I (wonL g xs 1))] (fun ns=>.tup [.sl (ns.getD 0 0),.sl (ns.getD 1 0)]):=by
  have hl:=hg.len
  have hle:=hg.ar.le
  have hB : Bnd xs g.ar.own.length:=fun k hk=>by have:=hx.1 k hk;omega
  have hxl:=isSet_len hx.1 (by omega)
  have hS : ∀ v : Nat,(v : Int) ∈ xs → v < g.prio.length:=fun v hv=>by
    obtain ⟨k,hk,e⟩:=mem_gi hv
    have:=hB k hk;omega
  have ht:=total_in hg hx
  have hpr:=predsOf_f g.ar hg.ar
  rw [prev_of hg] at hpr
  have hmk:=markOf_f g.ar xs hB hle (by omega)
  rw [← hl] at hmk
  have hP : (fun v=>gb (mks g.prio.length fun v : Nat=>(v : Int) ∈ xs) v = true) = fun v : Nat=>(v : Int) ∈ xs:=funext fun v=>propext (gb_mks' hS)
  have hw:=won_f (gmOf g) g.prio.length (gmOk_of hg) (fun v hv=>gmOf_pick hv) _ (mks g.prio.length fun v : Nat=>(v : Int) ∈ xs) (mks_len _ _) (Nat.lt_succ_self _) (by rw [hP];exact ht)
  have h01:=whoM_01 (gmOf g).prio (mks g.prio.length fun v : Nat=>(v : Int) ∈ xs) g.prio.length
  rw [hP] at hw
  generalize whoM (gmOf g).prio (mks g.prio.length fun v : Nat=>(v : Int) ∈ xs) g.prio.length = who at hw h01
  have hwo:=without_f (mks g.prio.length fun v : Nat=>(v : Int) ∈ xs) (mks g.prio.length (PG.Won (pgP g) who fun v=>(v : Int) ∈ xs)) (by rw [mks_len,mks_len]) (by rw [mks_len];omega)
  rw [wins_less fin_P hS ht h01] at hwo
  change FunSpec _ _ _ _ (fun _=>.tup [.c (.B (mks g.prio.length (PG.Won (pgP g) who fun v=>(v : Int) ∈ xs))),_]) at hw
  clear hP
  generalize hmm : mks g.prio.length (fun v : Nat=>(v : Int) ∈ xs) = mm at *
  have hw0 : wonL g xs 0 = lstB (mks g.prio.length (PG.Won (pgP g) 0 fun v=>(v : Int) ∈ xs)) (mks g.prio.length (PG.Won (pgP g) 0 fun v=>(v : Int) ∈ xs)).length:=by rw [mks_len];rfl
  have hw1 : wonL g xs 1 = lstB (mks g.prio.length (PG.Won (pgP g) 1 fun v=>(v : Int) ∈ xs)) (mks g.prio.length (PG.Won (pgP g) 1 fun v=>(v : Int) ∈ xs)).length:=by rw [mks_len];rfl
  have l0 : (mks g.prio.length (PG.Won (pgP g) 0 fun v=>(v : Int) ∈ xs)).length = g.prio.length:=mks_len _ _
  have l1 : (mks g.prio.length (PG.Won (pgP g) 1 fun v=>(v : Int) ∈ xs)).length = g.prio.length:=mks_len _ _
  rcases h01 with rfl|rfl
  · rw [show (1 : Int) - 0 = 1 from rfl] at hwo
    generalize mks g.prio.length (PG.Won (pgP g) 0 fun v=>(v : Int) ∈ xs) = m0 at *
    generalize mks g.prio.length (PG.Won (pgP g) 1 fun v=>(v : Int) ∈ xs) = m1 at *
    (refine f_intro tiOK Try.func151 rfl rfl (by kernel_rfl) fun hp0 ν hX hN=>?_;simp only [numT,Nat.reduceAdd])
    (repeat' (first|(with_reducible refine k_stop 3 ?_)|(with_reducible first|(refine hK _ _ ?_;clear hK K)|(refine hKN _ ?_;clear hKN K)|(refine hKD _ _ _ ?_;clear hKD K)|(refine hKE _ _ ?_;clear hKE K)|refine k_seq ?_|refine n_sq ?_|refine a_nil ?_|refine k_label ?_|refine k_block ?_|refine n_bk ?_|refine k_exit ?_|refine n_sqx ?_|refine n_kx ?_|refine n_bkx ?_|refine n_bkn rfl ?_|refine k_ret ?_|refine n_sqr ?_|refine n_kr ?_|refine n_bkr ?_|refine k_skip ?_|refine n_k ?_|refine n_end ?_|(refine hXX ?_;clear hXX X hYY Y)|(refine hYY ?_;clear hXX X hYY Y))|(with_reducible refine k_cid ?_;first|refine k_ctl rfl ?_|refine k_cfl rfl ?_)|(with_reducible refine a_id ?_;first|refine a_passl rfl rfl rfl rfl ?_|refine a_runl rfl rfl rfl ?_|refine a_pul rfl rfl rfl rfl ?_)|(with_reducible refine d_id ?_;first|refine d_passl rfl rfl rfl rfl ?_|refine d_runl rfl rfl rfl ?_|refine d_pul rfl rfl rfl rfl ?_|refine d_end hN (by apply Exists.intro;apply And.intro;(repeat' (first|apply FtI.nil|apply FI.nil|apply FI.cons|apply FtI.cons));kernel_rfl) ?_)|((first|(with_reducible first|refine a_opd rfl rfl fun K hK=>?_|refine d_opd rfl rfl fun K hKD=>?_|refine a_opn rfl rfl fun K hKN=>?_|refine d_opn rfl rfl fun K hKE=>?_|refine k_cond fun X Y hXX hYY=>?_|refine FN_new ?_)|(with_reducible refine a_id ?_;refine a_guard rfl rfl fun X Y hXX hYY=>?_)|(with_reducible refine d_id ?_;refine d_guard rfl rfl fun X Y hXX hYY=>?_));simp (disch:=first|decide|omega|(simp only [List.length_cons,List.length_nil];omega)) only [go_sem,beq_self_eq_true,↓tmL_cons,↓hpL_get hN,hpL_set hN,reduceIte,reduceCtorEq,Nat.reduceAdd,Nat.reduceLT,Nat.reduceLeDiff,Nat.reduceEqDiff,Nat.reduceSub])|(with_reducible refine And.intro (fun h=>?_) (fun h=>?_) <;> try (exfalso;omega))|(with_reducible refine k_reg tiOK hN rfl ?_ ?_;kernel_rfl)|(with_reducible refine k_drawn tiOK hN rfl ?_ ?_ ?_ ?_;(kernel_rfl);(kernel_rfl);(kernel_rfl))|(refine k_calld (hpr) ?_ rfl rfl ?_)|(refine k_call hmk ?_ rfl (fun _=>rfl) ?_)|(with_reducible first|exact Args_nil|refine Args_cons ?_ ?_|exact ag_c _|refine ag_agg ?_|exact ag_elA _|exact ag_el _ _|refine ag_fn ?_|exact ag_unn _)|exact ag_box hN rfl rfl|(refine ag_fz hN rfl ?_;first|exact RdLe.refl _|exact RdLe.unn _)|exact ag_nul rfl rfl rfl|(simp only [hpUp,List.map_nil])|(with_reducible refine FN_nil ?_)|(with_reducible refine And.intro ?_ ?_)|(refine prop_id ?_;omega)|(exact nm_ne hN (by decide))))
    (refine k_le (le_L (L':=[.dead,.dead,.dead]) (l:=[(6,soA (gmOf g)),(7,.c (.B mm))]) hX hN [] ?_ ?_) ?_;(repeat' (first|(with_reducible first|exact LEs.nil _|exact LTs.nil|exact LVs.nil|refine LEs.cons ?_ ?_|refine LVs.cons ?_ ?_|exact lv_any _|exact lv_c _|exact le_dead _|rfl|exact lv_el _ _|refine lv_agg ?_|exact lv_k _|refine lv_fn ?_)|refine LTs.cons rfl ?_ ?_|exact lv_sl hN _ rfl rfl rfl|exact lv_ad hN _ rfl rfl rfl|exact lv_fzb hN _ rfl rfl rfl (Or.inr rfl)|(refine lv_fz hN _ rfl rfl (by first|exact Or.inr rfl|exact Or.inl rfl) ?_;first|exact RdLe.refl _|exact RdLe.unn _)|refine le_box hN rfl ?_|refine le_arr hN rfl rfl ?_|exact lv_nul hN _ rfl rfl|exact le_new hN rfl rfl rfl rfl|(with_reducible first|refine lv_eq ?_|refine congrArg C.B ?_|refine congrArg C.I ?_|refine congrArg C.R ?_|refine congrArg (C.int _) ?_|refine congrArg C.bool ?_)));(try (any_goals (first|(with_reducible rfl)|(refine prop_id ?_;omega)))))
    (repeat' (first|(with_reducible first|(refine hK _ _ ?_;clear hK K)|(refine hKN _ ?_;clear hKN K)|(refine hKD _ _ _ ?_;clear hKD K)|(refine hKE _ _ ?_;clear hKE K)|refine k_seq ?_|refine n_sq ?_|refine a_nil ?_|refine k_label ?_|refine k_block ?_|refine n_bk ?_|refine k_exit ?_|refine n_sqx ?_|refine n_kx ?_|refine n_bkx ?_|refine n_bkn rfl ?_|refine k_ret ?_|refine n_sqr ?_|refine n_kr ?_|refine n_bkr ?_|refine k_skip ?_|refine n_k ?_|refine n_end ?_|(refine hXX ?_;clear hXX X hYY Y)|(refine hYY ?_;clear hXX X hYY Y))|(with_reducible refine k_cid ?_;first|refine k_ctl rfl ?_|refine k_cfl rfl ?_)|(with_reducible refine a_id ?_;first|refine a_passl rfl rfl rfl rfl ?_|refine a_runl rfl rfl rfl ?_|refine a_pul rfl rfl rfl rfl ?_)|(with_reducible refine d_id ?_;first|refine d_passl rfl rfl rfl rfl ?_|refine d_runl rfl rfl rfl ?_|refine d_pul rfl rfl rfl rfl ?_|refine d_end hN (by apply Exists.intro;apply And.intro;(repeat' (first|apply FtI.nil|apply FI.nil|apply FI.cons|apply FtI.cons));kernel_rfl) ?_)|((first|(with_reducible first|refine a_opd rfl rfl fun K hK=>?_|refine d_opd rfl rfl fun K hKD=>?_|refine a_opn rfl rfl fun K hKN=>?_|refine d_opn rfl rfl fun K hKE=>?_|refine k_cond fun X Y hXX hYY=>?_|refine FN_new ?_)|(with_reducible refine a_id ?_;refine a_guard rfl rfl fun X Y hXX hYY=>?_)|(with_reducible refine d_id ?_;refine d_guard rfl rfl fun X Y hXX hYY=>?_));simp (disch:=first|decide|omega|(simp only [List.length_cons,List.length_nil];omega)) only [go_sem,beq_self_eq_true,↓tmL_cons,↓hpL_get hN,hpL_set hN,reduceIte,reduceCtorEq,Nat.reduceAdd,Nat.reduceLT,Nat.reduceLeDiff,Nat.reduceEqDiff,Nat.reduceSub])|(with_reducible refine And.intro (fun h=>?_) (fun h=>?_) <;> try (exfalso;omega))|(with_reducible refine k_reg tiOK hN rfl ?_ ?_;kernel_rfl)|(with_reducible refine k_drawn tiOK hN rfl ?_ ?_ ?_ ?_;(kernel_rfl);(kernel_rfl);(kernel_rfl))|(refine k_calld (hw) ?_ rfl rfl ?_)|(refine k_call hwo ?_ rfl (fun _=>rfl) ?_)|(refine k_call (listOf_f ?_ ?_) ?_ rfl (fun _=>rfl) ?_)|(with_reducible first|exact Args_nil|refine Args_cons ?_ ?_|exact ag_c _|refine ag_agg ?_|exact ag_elA _|exact ag_el _ _|refine ag_fn ?_|exact ag_unn _)|exact ag_box hN rfl rfl|(refine ag_fz hN rfl ?_;first|exact RdLe.refl _|exact RdLe.unn _)|exact ag_nul rfl rfl rfl|(simp only [hpUp,List.map_nil])|(with_reducible refine FN_nil ?_)|(with_reducible refine And.intro ?_ ?_)|(refine prop_id ?_;omega)|(exact nm_ne hN (by decide))))
    all_goals (try (refine prop_id ?_;omega))
    (refine ret_X hN [3,5] (by decide) (.inr rfl) (by first|exact resV_tmp rfl rfl|exact resV_cell hN rfl rfl rfl rfl|exact resV_cell2 hN rfl rfl rfl rfl rfl|(simp (disch:=first|decide|omega|(simp only [List.length_cons,List.length_nil];omega)) only [resV,resL,resA,boxA,go_sem,beq_self_eq_true,↓tmL_cons,↓hpL_get hN,hpL_set hN,reduceIte,reduceCtorEq,Nat.reduceAdd,Nat.reduceLT,Nat.reduceLeDiff,Nat.reduceEqDiff,Nat.reduceSub];rfl)|rfl) ?_ fun νs hνs=>?_;(repeat' (first|exact Gone.nil|(refine Gone.cons rfl rfl ?_ ?_)|(with_reducible refine sv_tup ?_)|(with_reducible refine sv_agg ?_)|(with_reducible refine SVs.cons ?_ ?_)|(with_reducible exact SVs.nil)|(simp only [List.drop,List.take])|(simp (disch:=first|decide|omega) only [↓tmL_cons,reduceIte,reduceCtorEq,Nat.reduceEqDiff])|(with_reducible exact sv_c _)|(with_reducible exact sv_unn _)|(exact sv_nul rfl rfl rfl)|(exact sv_sl 0 (by simp) rfl rfl)|(exact sv_sl 1 (by simp) rfl rfl)|(refine sv_fz hN rfl (nm_not hN (by decide)) ?_)|(with_reducible refine sv_eq ?_)|(with_reducible rfl)|(with_reducible refine congrArg C.B ?_)|(with_reducible refine congrArg C.I ?_)|(with_reducible refine congrArg C.R ?_)|(with_reducible refine congrArg (C.int _) ?_)|(with_reducible refine congrArg C.bool ?_)|(refine prop_id ?_;omega))))
    · exact hw0.symm
    · exact hw1.symm
  · rw [show (1 : Int) - 1 = 0 from rfl] at hwo
    generalize mks g.prio.length (PG.Won (pgP g) 0 fun v=>(v : Int) ∈ xs) = m0 at *
    generalize mks g.prio.length (PG.Won (pgP g) 1 fun v=>(v : Int) ∈ xs) = m1 at *
    (refine f_intro tiOK Try.func151 rfl rfl (by kernel_rfl) fun hp0 ν hX hN=>?_;simp only [numT,Nat.reduceAdd])
    (repeat' (first|(with_reducible refine k_stop 3 ?_)|(with_reducible first|(refine hK _ _ ?_;clear hK K)|(refine hKN _ ?_;clear hKN K)|(refine hKD _ _ _ ?_;clear hKD K)|(refine hKE _ _ ?_;clear hKE K)|refine k_seq ?_|refine n_sq ?_|refine a_nil ?_|refine k_label ?_|refine k_block ?_|refine n_bk ?_|refine k_exit ?_|refine n_sqx ?_|refine n_kx ?_|refine n_bkx ?_|refine n_bkn rfl ?_|refine k_ret ?_|refine n_sqr ?_|refine n_kr ?_|refine n_bkr ?_|refine k_skip ?_|refine n_k ?_|refine n_end ?_|(refine hXX ?_;clear hXX X hYY Y)|(refine hYY ?_;clear hXX X hYY Y))|(with_reducible refine k_cid ?_;first|refine k_ctl rfl ?_|refine k_cfl rfl ?_)|(with_reducible refine a_id ?_;first|refine a_passl rfl rfl rfl rfl ?_|refine a_runl rfl rfl rfl ?_|refine a_pul rfl rfl rfl rfl ?_)|(with_reducible refine d_id ?_;first|refine d_passl rfl rfl rfl rfl ?_|refine d_runl rfl rfl rfl ?_|refine d_pul rfl rfl rfl rfl ?_|refine d_end hN (by apply Exists.intro;apply And.intro;(repeat' (first|apply FtI.nil|apply FI.nil|apply FI.cons|apply FtI.cons));kernel_rfl) ?_)|((first|(with_reducible first|refine a_opd rfl rfl fun K hK=>?_|refine d_opd rfl rfl fun K hKD=>?_|refine a_opn rfl rfl fun K hKN=>?_|refine d_opn rfl rfl fun K hKE=>?_|refine k_cond fun X Y hXX hYY=>?_|refine FN_new ?_)|(with_reducible refine a_id ?_;refine a_guard rfl rfl fun X Y hXX hYY=>?_)|(with_reducible refine d_id ?_;refine d_guard rfl rfl fun X Y hXX hYY=>?_));simp (disch:=first|decide|omega|(simp only [List.length_cons,List.length_nil];omega)) only [go_sem,beq_self_eq_true,↓tmL_cons,↓hpL_get hN,hpL_set hN,reduceIte,reduceCtorEq,Nat.reduceAdd,Nat.reduceLT,Nat.reduceLeDiff,Nat.reduceEqDiff,Nat.reduceSub])|(with_reducible refine And.intro (fun h=>?_) (fun h=>?_) <;> try (exfalso;omega))|(with_reducible refine k_reg tiOK hN rfl ?_ ?_;kernel_rfl)|(with_reducible refine k_drawn tiOK hN rfl ?_ ?_ ?_ ?_;(kernel_rfl);(kernel_rfl);(kernel_rfl))|(refine k_calld (hpr) ?_ rfl rfl ?_)|(refine k_call hmk ?_ rfl (fun _=>rfl) ?_)|(with_reducible first|exact Args_nil|refine Args_cons ?_ ?_|exact ag_c _|refine ag_agg ?_|exact ag_elA _|exact ag_el _ _|refine ag_fn ?_|exact ag_unn _)|exact ag_box hN rfl rfl|(refine ag_fz hN rfl ?_;first|exact RdLe.refl _|exact RdLe.unn _)|exact ag_nul rfl rfl rfl|(simp only [hpUp,List.map_nil])|(with_reducible refine FN_nil ?_)|(with_reducible refine And.intro ?_ ?_)|(refine prop_id ?_;omega)|(exact nm_ne hN (by decide))))
    (refine k_le (le_L (L':=[.dead,.dead,.dead]) (l:=[(6,soA (gmOf g)),(7,.c (.B mm))]) hX hN [] ?_ ?_) ?_;(repeat' (first|(with_reducible first|exact LEs.nil _|exact LTs.nil|exact LVs.nil|refine LEs.cons ?_ ?_|refine LVs.cons ?_ ?_|exact lv_any _|exact lv_c _|exact le_dead _|rfl|exact lv_el _ _|refine lv_agg ?_|exact lv_k _|refine lv_fn ?_)|refine LTs.cons rfl ?_ ?_|exact lv_sl hN _ rfl rfl rfl|exact lv_ad hN _ rfl rfl rfl|exact lv_fzb hN _ rfl rfl rfl (Or.inr rfl)|(refine lv_fz hN _ rfl rfl (by first|exact Or.inr rfl|exact Or.inl rfl) ?_;first|exact RdLe.refl _|exact RdLe.unn _)|refine le_box hN rfl ?_|refine le_arr hN rfl rfl ?_|exact lv_nul hN _ rfl rfl|exact le_new hN rfl rfl rfl rfl|(with_reducible first|refine lv_eq ?_|refine congrArg C.B ?_|refine congrArg C.I ?_|refine congrArg C.R ?_|refine congrArg (C.int _) ?_|refine congrArg C.bool ?_)));(try (any_goals (first|(with_reducible rfl)|(refine prop_id ?_;omega)))))
    (repeat' (first|(with_reducible first|(refine hK _ _ ?_;clear hK K)|(refine hKN _ ?_;clear hKN K)|(refine hKD _ _ _ ?_;clear hKD K)|(refine hKE _ _ ?_;clear hKE K)|refine k_seq ?_|refine n_sq ?_|refine a_nil ?_|refine k_label ?_|refine k_block ?_|refine n_bk ?_|refine k_exit ?_|refine n_sqx ?_|refine n_kx ?_|refine n_bkx ?_|refine n_bkn rfl ?_|refine k_ret ?_|refine n_sqr ?_|refine n_kr ?_|refine n_bkr ?_|refine k_skip ?_|refine n_k ?_|refine n_end ?_|(refine hXX ?_;clear hXX X hYY Y)|(refine hYY ?_;clear hXX X hYY Y))|(with_reducible refine k_cid ?_;first|refine k_ctl rfl ?_|refine k_cfl rfl ?_)|(with_reducible refine a_id ?_;first|refine a_passl rfl rfl rfl rfl ?_|refine a_runl rfl rfl rfl ?_|refine a_pul rfl rfl rfl rfl ?_)|(with_reducible refine d_id ?_;first|refine d_passl rfl rfl rfl rfl ?_|refine d_runl rfl rfl rfl ?_|refine d_pul rfl rfl rfl rfl ?_|refine d_end hN (by apply Exists.intro;apply And.intro;(repeat' (first|apply FtI.nil|apply FI.nil|apply FI.cons|apply FtI.cons));kernel_rfl) ?_)|((first|(with_reducible first|refine a_opd rfl rfl fun K hK=>?_|refine d_opd rfl rfl fun K hKD=>?_|refine a_opn rfl rfl fun K hKN=>?_|refine d_opn rfl rfl fun K hKE=>?_|refine k_cond fun X Y hXX hYY=>?_|refine FN_new ?_)|(with_reducible refine a_id ?_;refine a_guard rfl rfl fun X Y hXX hYY=>?_)|(with_reducible refine d_id ?_;refine d_guard rfl rfl fun X Y hXX hYY=>?_));simp (disch:=first|decide|omega|(simp only [List.length_cons,List.length_nil];omega)) only [go_sem,beq_self_eq_true,↓tmL_cons,↓hpL_get hN,hpL_set hN,reduceIte,reduceCtorEq,Nat.reduceAdd,Nat.reduceLT,Nat.reduceLeDiff,Nat.reduceEqDiff,Nat.reduceSub])|(with_reducible refine And.intro (fun h=>?_) (fun h=>?_) <;> try (exfalso;omega))|(with_reducible refine k_reg tiOK hN rfl ?_ ?_;kernel_rfl)|(with_reducible refine k_drawn tiOK hN rfl ?_ ?_ ?_ ?_;(kernel_rfl);(kernel_rfl);(kernel_rfl))|(refine k_calld (hw) ?_ rfl rfl ?_)|(refine k_call hwo ?_ rfl (fun _=>rfl) ?_)|(refine k_call (listOf_f ?_ ?_) ?_ rfl (fun _=>rfl) ?_)|(with_reducible first|exact Args_nil|refine Args_cons ?_ ?_|exact ag_c _|refine ag_agg ?_|exact ag_elA _|exact ag_el _ _|refine ag_fn ?_|exact ag_unn _)|exact ag_box hN rfl rfl|(refine ag_fz hN rfl ?_;first|exact RdLe.refl _|exact RdLe.unn _)|exact ag_nul rfl rfl rfl|(simp only [hpUp,List.map_nil])|(with_reducible refine FN_nil ?_)|(with_reducible refine And.intro ?_ ?_)|(refine prop_id ?_;omega)|(exact nm_ne hN (by decide))))
    all_goals (try (refine prop_id ?_;omega))
    (refine ret_X hN [4,5] (by decide) (.inr rfl) (by first|exact resV_tmp rfl rfl|exact resV_cell hN rfl rfl rfl rfl|exact resV_cell2 hN rfl rfl rfl rfl rfl|(simp (disch:=first|decide|omega|(simp only [List.length_cons,List.length_nil];omega)) only [resV,resL,resA,boxA,go_sem,beq_self_eq_true,↓tmL_cons,↓hpL_get hN,hpL_set hN,reduceIte,reduceCtorEq,Nat.reduceAdd,Nat.reduceLT,Nat.reduceLeDiff,Nat.reduceEqDiff,Nat.reduceSub];rfl)|rfl) ?_ fun νs hνs=>?_;(repeat' (first|exact Gone.nil|(refine Gone.cons rfl rfl ?_ ?_)|(with_reducible refine sv_tup ?_)|(with_reducible refine sv_agg ?_)|(with_reducible refine SVs.cons ?_ ?_)|(with_reducible exact SVs.nil)|(simp only [List.drop,List.take])|(simp (disch:=first|decide|omega) only [↓tmL_cons,reduceIte,reduceCtorEq,Nat.reduceEqDiff])|(with_reducible exact sv_c _)|(with_reducible exact sv_unn _)|(exact sv_nul rfl rfl rfl)|(exact sv_sl 0 (by simp) rfl rfl)|(exact sv_sl 1 (by simp) rfl rfl)|(refine sv_fz hN rfl (nm_not hN (by decide)) ?_)|(with_reducible refine sv_eq ?_)|(with_reducible rfl)|(with_reducible refine congrArg C.B ?_)|(with_reducible refine congrArg C.I ?_)|(with_reducible refine congrArg C.R ?_)|(with_reducible refine congrArg (C.int _) ?_)|(with_reducible refine congrArg C.bool ?_)|(refine prop_id ?_;omega))))
    · exact hw0.symm
    · exact hw1.symm
end Go.Proofs.Ytfaefmabjjndeaa
