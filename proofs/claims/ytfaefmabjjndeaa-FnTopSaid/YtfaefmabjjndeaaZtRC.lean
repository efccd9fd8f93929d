/-
  Full plans that the dice draw.
-/
import Derived.Test.YtfaefmabjjndeaaZtR7
import Derived.Test.YtfaefmabjjndeaaZtR5
import Derived.Test.YtfaefmabjjndeaaZtD8
namespace Go.Proofs.Ytfaefmabjjndeaa
set_option linter.unusedVariables false
set_option linter.unusedSimpArgs false
open Go.RowKit
attribute [local irreducible] FunSpec CallR Aw Le
def planGo (a : Ar) (who : Int) : Nat → Nat → Dc → List Int → List Int × Dc
  | 0, _, d, o => (o, d)
  | k + 1, v, d, o => if gi a.own v = who then planGo a who k (v + 1) d.nxt (o ++ [gi (gr a.nxt v) (d.val (gr a.nxt v).length).toNat]) else planGo a who k (v + 1) d (o ++ [-1])
def planD (d : Dc) (a : Ar) (who : Int) : List Int × Dc:=planGo a who a.own.length 0 d []
def PFull (a : Ar) (who : Int) (o : List Int) (v : Nat) : Prop:=(gi a.own v = who → gi o v ∈ gr a.nxt v) ∧ (gi a.own v ≠ who → gi o v = -1)
theorem planGo_full {a : Ar} (ha : ArOk a) {who : Int} : ∀ (k v : Nat) (d : Dc) (o : List Int),k + v = a.own.length → o.length = v → (∀ j,j < v → PFull a who o j) → (planGo a who k v d o).1.length = a.own.length ∧ ∀ j,j < a.own.length → PFull a who (planGo a who k v d o).1 j:=by
  intro k
  induction k with
  | zero => intro v d o h1 h2 h3; exact ⟨by show o.length = _; omega, fun j hj => h3 j (by omega)⟩
  | succ k ih =>
    intro v d o h1 h2 h3
    have hcv:=ha.vert v (by omega)
    have hb:=d.bnd (n:=(gr a.nxt v).length) (by omega)
    have key : ∀ x : Int,((gi a.own v = who → x ∈ gr a.nxt v) ∧ (gi a.own v ≠ who → x = -1)) → ∀ j,j < v + 1 → PFull a who (o ++ [x]) j:=fun x hx j hj=>by
      unfold PFull
      by_cases e : j < o.length
      · rw [gi_snoc_lt e];exact h3 j (by omega)
      · have : j = o.length:=by omega
        subst this
        rw [gi_snoc_eq,h2]
        exact hx
    unfold planGo
    split
    · rename_i e
      exact ih (v + 1) _ _ (by omega) (by simp [h2]) (key _ ⟨fun _=>gi_mem (by omega),fun h=>absurd e h⟩)
    · rename_i e
      exact ih (v + 1) _ _ (by omega) (by simp [h2]) (key _ ⟨fun h=>absurd h e,fun _=>rfl⟩)
theorem planD_full {g : Pa} (hg : PaOk g) {who : Int} (d : Dc) : FullP g.ar who (planD d g.ar who).1:=by
  obtain ⟨h1,h2⟩:=planGo_full hg.ar (who:=who) g.ar.own.length 0 d [] rfl rfl fun j hj=>absurd hj (Nat.not_lt_zero _)
  have hl:=hg.len
  refine ⟨⟨h1,fun v hv=>?_⟩,fun v hv ho=>?_⟩
  · have h3:=h2 v (by unfold planD at hv;omega)
    by_cases e : gi g.ar.own v = who
    · exact .inr ⟨e,h3.1 e⟩
    · exact .inl (h3.2 e)
  · have h3:=h2 v (by unfold planD at hv;omega)
    exact (nxt_nn' hg (by unfold planD at hv;omega) (h3.1 ho)).1
def overL (n : Nat) (ps qs : List Int) (k : Nat) : List Int:=tab n fun u=>if u < k then (if 0 ≤ gi ps u then gi ps u else gi qs u) else gi qs u
def PlanP' (g : Pa) (who : Int) (ps : List Int) : Prop:=∀ v,v < g.prio.length → gi ps v = -1 ∨ gi g.ar.own v = who ∧ gi ps v ∈ gr g.ar.nxt v
theorem over_full {g : Pa} (hg : PaOk g) {who : Int} {ps qs : List Int} (hp : PlanP' g who ps) (hq : FullP g.ar who qs) : FullP g.ar who (overL g.prio.length ps qs g.prio.length):=by
  have hl:=hg.len
  have hql:=hq.1.1
  have e1 : (overL g.prio.length ps qs g.prio.length).length = g.prio.length:=tab_len _ _
  have e2 : ∀ v,v < g.prio.length → gi (overL g.prio.length ps qs g.prio.length) v = if 0 ≤ gi ps v then gi ps v else gi qs v:=fun v hv=>by rw [overL,gi_tab _ hv,if_pos hv]
  refine ⟨⟨by omega,fun v hv=>?_⟩,fun v hv ho=>?_⟩
  · rw [e2 v (by omega)]
    split
    · rename_i h0
      rcases hp v (by omega) with e|e
      · omega
      · exact .inr e
    · exact hq.1.2 v (by omega)
  · rw [e2 v (by omega)]
    split
    · assumption
    · exact hq.2 v (by omega) ho
set_option maxHeartbeats 1000000 in
theorem w5Plan_f (d : Dc) (a : Ar) (ha : ArOk a) (who : Int) : FunSpecM Try.prog 22 (fun ν=>[.ad (ν 0) 0,arA a,.c (.int .i64 who)]) [diE d] [diE (planD d a who).2] [.arr 2 .yes (.I (planD d a who).1)] (fun ns=>.sl (ns.getD 0 0)):=by
  have hle:=ha.le
  have hln:=ha.len
  have hG : planD d a who = planGo a who a.own.length 0 d []:=rfl
  generalize planD d a who = G at *
  (refine fun_introM tiOK Try.func22 rfl rfl (fun _=>by kernel_rfl) rfl rfl rfl rfl (by first|exact valOk_c _|exact valOk_sl (j:=0) (by simp) (by simp [Ent.kind])|exact valOk_ad (j:=0) (by simp) (by simp [Ent.kind])|exact valOk_flat rfl|exact valOk_any|exact valOk_k _) fun hp0 ν hX hN=>?_;simp only [numT,Nat.reduceAdd])
  (repeat' (first|(with_reducible first|(refine hK _ _ ?_;clear hK K)|(refine hKN _ ?_;clear hKN K)|(refine hKD _ _ _ ?_;clear hKD K)|(refine hKE _ _ ?_;clear hKE K)|refine k_seq ?_|refine n_sq ?_|refine a_nil ?_|refine k_label ?_|refine k_block ?_|refine n_bk ?_|refine k_exit ?_|refine n_sqx ?_|refine n_kx ?_|refine n_bkx ?_|refine n_bkn rfl ?_|refine k_ret ?_|refine n_sqr ?_|refine n_kr ?_|refine n_bkr ?_|refine k_skip ?_|refine n_k ?_|refine n_end ?_|(refine hXX ?_;clear hXX X hYY Y)|(refine hYY ?_;clear hXX X hYY Y))|(with_reducible refine k_cid ?_;first|refine k_ctl rfl ?_|refine k_cfl rfl ?_)|(with_reducible refine a_id ?_;first|refine a_passl rfl rfl rfl rfl ?_|refine a_runl rfl rfl rfl ?_|refine a_pul rfl rfl rfl rfl ?_)|(with_reducible refine d_id ?_;first|refine d_passl rfl rfl rfl rfl ?_|refine d_runl rfl rfl rfl ?_|refine d_pul rfl rfl rfl rfl ?_|refine d_end hN (by apply Exists.intro;apply And.intro;(repeat' (first|apply FtI.nil|apply FI.nil|apply FI.cons|apply FtI.cons));kernel_rfl) ?_)|((first|(with_reducible first|refine a_opd rfl rfl fun K hK=>?_|refine d_opd rfl rfl fun K hKD=>?_|refine a_opn rfl rfl fun K hKN=>?_|refine d_opn rfl rfl fun K hKE=>?_|refine k_cond fun X Y hXX hYY=>?_|refine FN_new ?_)|(with_reducible refine a_id ?_;refine a_guard rfl rfl fun X Y hXX hYY=>?_)|(with_reducible refine d_id ?_;refine d_guard rfl rfl fun X Y hXX hYY=>?_));simp (disch:=first|decide|omega|(simp only [List.length_cons,List.length_nil];omega)) only [go_sem,beq_self_eq_true,↓tmL_cons,↓hpL_get hN,hpL_set hN,reduceIte,reduceCtorEq,Nat.reduceAdd,Nat.reduceLT,Nat.reduceLeDiff,Nat.reduceEqDiff,Nat.reduceSub])|(with_reducible refine And.intro (fun h=>?_) (fun h=>?_) <;> try (exfalso;omega))|(with_reducible refine k_reg tiOK hN rfl ?_ ?_;kernel_rfl)|(with_reducible refine k_drawn tiOK hN rfl ?_ ?_ ?_ ?_;(kernel_rfl);(kernel_rfl);(kernel_rfl))|(with_reducible refine And.intro ?_ ?_)|(refine prop_id ?_;omega)|(exact nm_ne hN (by decide))))
  (refine k_loop (fun (x : Nat × Dc × List Int)=>(tmL [(8,.c (.int .i64 x.1)),(7,.sl (ν 2)),(4,.ad (ν 1) 0),(0,.ad (ν 0) 0),(2,.c (.int .i64 who))],hpL hp0 ν [diE x.2.1,.box [.c (.I a.own),.c (.R a.nxt)],.arr 2 .yes (.I x.2.2)])) (fun (x : Nat × Dc × List Int)=>(x.1 ≤ a.own.length ∧ x.2.2.length = x.1) ∧ planGo a who (a.own.length - x.1) x.1 x.2.1 x.2.2 = G) (fun (x : Nat × Dc × List Int)=>a.own.length - x.1) ⟨(0,d,[]),?_,le_L hX hN [] ?_ ?_⟩ ?_;(repeat' (first|(with_reducible first|exact LEs.nil _|exact LTs.nil|exact LVs.nil|refine LEs.cons ?_ ?_|refine LVs.cons ?_ ?_|exact lv_any _|exact lv_c _|exact le_dead _|rfl|exact lv_el _ _|refine lv_agg ?_|exact lv_k _|refine lv_fn ?_)|refine LTs.cons rfl ?_ ?_|exact lv_sl hN _ rfl rfl rfl|exact lv_ad hN _ rfl rfl rfl|exact lv_fzb hN _ rfl rfl rfl (Or.inr rfl)|(refine lv_fz hN _ rfl rfl (by first|exact Or.inr rfl|exact Or.inl rfl) ?_;first|exact RdLe.refl _|exact RdLe.unn _)|refine le_box hN rfl ?_|refine le_arr hN rfl rfl ?_|exact lv_nul hN _ rfl rfl|exact le_new hN rfl rfl rfl rfl|(with_reducible first|refine lv_eq ?_|refine congrArg C.B ?_|refine congrArg C.I ?_|refine congrArg C.R ?_|refine congrArg (C.int _) ?_|refine congrArg C.bool ?_)));(try (any_goals (first|(with_reducible rfl)|(refine prop_id ?_;omega)))))
  · exact ⟨⟨Nat.zero_le _,rfl⟩,hG.symm⟩
  rintro ⟨v,dd,o⟩ ⟨⟨hv,ho⟩,hGo⟩
  simp only at hv ho hGo
  dsimp only
  by_cases hvl : v < a.own.length
  · have hcv:=ha.vert v hvl
    have hb:=dd.bnd (n:=(gr a.nxt v).length) (by omega)
    rw [show a.own.length - v = (a.own.length - (v + 1)) + 1 by omega,planGo] at hGo
    by_cases e : gi a.own v = who
    · rw [if_pos e] at hGo
      (repeat' (first|(with_reducible first|(refine hK _ _ ?_;clear hK K)|(refine hKN _ ?_;clear hKN K)|(refine hKD _ _ _ ?_;clear hKD K)|(refine hKE _ _ ?_;clear hKE K)|refine k_seq ?_|refine n_sq ?_|refine a_nil ?_|refine k_label ?_|refine k_block ?_|refine n_bk ?_|refine k_exit ?_|refine n_sqx ?_|refine n_kx ?_|refine n_bkx ?_|refine n_bkn rfl ?_|refine k_ret ?_|refine n_sqr ?_|refine n_kr ?_|refine n_bkr ?_|refine k_skip ?_|refine n_k ?_|refine n_end ?_|(refine hXX ?_;clear hXX X hYY Y)|(refine hYY ?_;clear hXX X hYY Y))|(with_reducible refine k_cid ?_;first|refine k_ctl rfl ?_|refine k_cfl rfl ?_)|(with_reducible refine a_id ?_;first|refine a_passl rfl rfl rfl rfl ?_|refine a_runl rfl rfl rfl ?_|refine a_pul rfl rfl rfl rfl ?_)|(with_reducible refine d_id ?_;first|refine d_passl rfl rfl rfl rfl ?_|refine d_runl rfl rfl rfl ?_|refine d_pul rfl rfl rfl rfl ?_|refine d_end hN (by apply Exists.intro;apply And.intro;(repeat' (first|apply FtI.nil|apply FI.nil|apply FI.cons|apply FtI.cons));kernel_rfl) ?_)|((first|(with_reducible first|refine a_opd rfl rfl fun K hK=>?_|refine d_opd rfl rfl fun K hKD=>?_|refine a_opn rfl rfl fun K hKN=>?_|refine d_opn rfl rfl fun K hKE=>?_|refine k_cond fun X Y hXX hYY=>?_|refine FN_new ?_)|(with_reducible refine a_id ?_;refine a_guard rfl rfl fun X Y hXX hYY=>?_)|(with_reducible refine d_id ?_;refine d_guard rfl rfl fun X Y hXX hYY=>?_));simp (disch:=first|decide|omega|(simp only [List.length_cons,List.length_nil];omega)) only [go_sem,beq_self_eq_true,↓tmL_cons,↓hpL_get hN,hpL_set hN,reduceIte,reduceCtorEq,Nat.reduceAdd,Nat.reduceLT,Nat.reduceLeDiff,Nat.reduceEqDiff,Nat.reduceSub])|(with_reducible refine And.intro (fun h=>?_) (fun h=>?_) <;> try (exfalso;omega))|(with_reducible refine k_reg tiOK hN rfl ?_ ?_;kernel_rfl)|(with_reducible refine k_drawn tiOK hN rfl ?_ ?_ ?_ ?_;(kernel_rfl);(kernel_rfl);(kernel_rfl))|(refine k_callM1 (below_f dd (gr a.nxt v).length (by omega)) hN 0 rfl rfl rfl rfl rfl ?_ ?_ ?_ ?_;(focus (simp [namesL,AV.names];done));(focus (intro ν' hν;(repeat' (first|exact ArgMs.nil|refine ArgMs.cons ?_ ?_|exact am_ad hν|exact am_sl hν|exact am_c _|exact am_v (by first|exact ag_elA _|exact ag_unn _|exact ag_nul rfl rfl rfl) rfl|(refine am_fz hN rfl ?_ (by decide);first|exact RdLe.refl _|exact RdLe.unn _)|refine am_agg ?_));done));(focus (first|exact Or.inr ⟨rfl,rfl,fun _=>rfl⟩|exact Or.inl (by simp [namesL,AV.names]))))|(with_reducible first|exact Args_nil|refine Args_cons ?_ ?_|exact ag_c _|refine ag_agg ?_|exact ag_elA _|exact ag_el _ _|refine ag_fn ?_|exact ag_unn _)|exact ag_box hN rfl rfl|(refine ag_fz hN rfl ?_;first|exact RdLe.refl _|exact RdLe.unn _)|exact ag_nul rfl rfl rfl|(simp only [hpUp,List.map_nil])|(with_reducible refine FN_nil ?_)|(simp (disch:=first|decide|omega|(simp only [List.length_cons,List.length_nil];omega)) only [hpUp,List.map_cons,List.map_nil,hpL_set hN,List.set_cons_zero,List.set_cons_succ])|(with_reducible refine And.intro ?_ ?_)|(refine prop_id ?_;omega)|(exact nm_ne hN (by decide))))
      all_goals first|(exact absurd e (int_ne' (by assumption)))|skip
      (refine ⟨(v + 1,dd.nxt,o ++ [gi (gr a.nxt v) (dd.val (gr a.nxt v).length).toNat]),⟨?_,?_⟩,le_L hX hN [(2,4)] ?_ ?_⟩;(try any_goals dsimp only);(repeat' (first|(with_reducible first|exact LEs.nil _|exact LTs.nil|exact LVs.nil|refine LEs.cons ?_ ?_|refine LVs.cons ?_ ?_|exact lv_any _|exact lv_c _|exact le_dead _|rfl|exact lv_el _ _|refine lv_agg ?_|exact lv_k _|refine lv_fn ?_)|refine LTs.cons rfl ?_ ?_|exact lv_sl hN _ rfl rfl rfl|exact lv_ad hN _ rfl rfl rfl|exact lv_fzb hN _ rfl rfl rfl (Or.inr rfl)|(refine lv_fz hN _ rfl rfl (by first|exact Or.inr rfl|exact Or.inl rfl) ?_;first|exact RdLe.refl _|exact RdLe.unn _)|refine le_box hN rfl ?_|refine le_arr hN rfl rfl ?_|exact lv_nul hN _ rfl rfl|exact le_new hN rfl rfl rfl rfl|(with_reducible first|refine lv_eq ?_|refine congrArg C.B ?_|refine congrArg C.I ?_|refine congrArg C.R ?_|refine congrArg (C.int _) ?_|refine congrArg C.bool ?_)));(try (any_goals (first|(with_reducible rfl)|(refine prop_id ?_;omega)))))
      exact ⟨⟨by omega,by simp [ho]⟩,hGo⟩
    · rw [if_neg e] at hGo
      (repeat' (first|(with_reducible first|(refine hK _ _ ?_;clear hK K)|(refine hKN _ ?_;clear hKN K)|(refine hKD _ _ _ ?_;clear hKD K)|(refine hKE _ _ ?_;clear hKE K)|refine k_seq ?_|refine n_sq ?_|refine a_nil ?_|refine k_label ?_|refine k_block ?_|refine n_bk ?_|refine k_exit ?_|refine n_sqx ?_|refine n_kx ?_|refine n_bkx ?_|refine n_bkn rfl ?_|refine k_ret ?_|refine n_sqr ?_|refine n_kr ?_|refine n_bkr ?_|refine k_skip ?_|refine n_k ?_|refine n_end ?_|(refine hXX ?_;clear hXX X hYY Y)|(refine hYY ?_;clear hXX X hYY Y))|(with_reducible refine k_cid ?_;first|refine k_ctl rfl ?_|refine k_cfl rfl ?_)|(with_reducible refine a_id ?_;first|refine a_passl rfl rfl rfl rfl ?_|refine a_runl rfl rfl rfl ?_|refine a_pul rfl rfl rfl rfl ?_)|(with_reducible refine d_id ?_;first|refine d_passl rfl rfl rfl rfl ?_|refine d_runl rfl rfl rfl ?_|refine d_pul rfl rfl rfl rfl ?_|refine d_end hN (by apply Exists.intro;apply And.intro;(repeat' (first|apply FtI.nil|apply FI.nil|apply FI.cons|apply FtI.cons));kernel_rfl) ?_)|((first|(with_reducible first|refine a_opd rfl rfl fun K hK=>?_|refine d_opd rfl rfl fun K hKD=>?_|refine a_opn rfl rfl fun K hKN=>?_|refine d_opn rfl rfl fun K hKE=>?_|refine k_cond fun X Y hXX hYY=>?_|refine FN_new ?_)|(with_reducible refine a_id ?_;refine a_guard rfl rfl fun X Y hXX hYY=>?_)|(with_reducible refine d_id ?_;refine d_guard rfl rfl fun X Y hXX hYY=>?_));simp (disch:=first|decide|omega|(simp only [List.length_cons,List.length_nil];omega)) only [go_sem,beq_self_eq_true,↓tmL_cons,↓hpL_get hN,hpL_set hN,reduceIte,reduceCtorEq,Nat.reduceAdd,Nat.reduceLT,Nat.reduceLeDiff,Nat.reduceEqDiff,Nat.reduceSub])|(with_reducible refine And.intro (fun h=>?_) (fun h=>?_) <;> try (exfalso;omega))|(with_reducible refine k_reg tiOK hN rfl ?_ ?_;kernel_rfl)|(with_reducible refine k_drawn tiOK hN rfl ?_ ?_ ?_ ?_;(kernel_rfl);(kernel_rfl);(kernel_rfl))|(with_reducible refine And.intro ?_ ?_)|(refine prop_id ?_;omega)|(exact nm_ne hN (by decide))))
      all_goals first|(exact absurd (by assumption) e)|skip
      (refine ⟨(v + 1,dd,o ++ [-1]),⟨?_,?_⟩,le_L hX hN [(2,4)] ?_ ?_⟩;(try any_goals dsimp only);(repeat' (first|(with_reducible first|exact LEs.nil _|exact LTs.nil|exact LVs.nil|refine LEs.cons ?_ ?_|refine LVs.cons ?_ ?_|exact lv_any _|exact lv_c _|exact le_dead _|rfl|exact lv_el _ _|refine lv_agg ?_|exact lv_k _|refine lv_fn ?_)|refine LTs.cons rfl ?_ ?_|exact lv_sl hN _ rfl rfl rfl|exact lv_ad hN _ rfl rfl rfl|exact lv_fzb hN _ rfl rfl rfl (Or.inr rfl)|(refine lv_fz hN _ rfl rfl (by first|exact Or.inr rfl|exact Or.inl rfl) ?_;first|exact RdLe.refl _|exact RdLe.unn _)|refine le_box hN rfl ?_|refine le_arr hN rfl rfl ?_|exact lv_nul hN _ rfl rfl|exact le_new hN rfl rfl rfl rfl|(with_reducible first|refine lv_eq ?_|refine congrArg C.B ?_|refine congrArg C.I ?_|refine congrArg C.R ?_|refine congrArg (C.int _) ?_|refine congrArg C.bool ?_)));(try (any_goals (first|(with_reducible rfl)|(refine prop_id ?_;omega)))))
      exact ⟨⟨by omega,by simp [ho]⟩,hGo⟩
  · rw [show a.own.length - v = 0 by omega,planGo] at hGo
    subst hGo
    (repeat' (first|(with_reducible first|(refine hK _ _ ?_;clear hK K)|(refine hKN _ ?_;clear hKN K)|(refine hKD _ _ _ ?_;clear hKD K)|(refine hKE _ _ ?_;clear hKE K)|refine k_seq ?_|refine n_sq ?_|refine a_nil ?_|refine k_label ?_|refine k_block ?_|refine n_bk ?_|refine k_exit ?_|refine n_sqx ?_|refine n_kx ?_|refine n_bkx ?_|refine n_bkn rfl ?_|refine k_ret ?_|refine n_sqr ?_|refine n_kr ?_|refine n_bkr ?_|refine k_skip ?_|refine n_k ?_|refine n_end ?_|(refine hXX ?_;clear hXX X hYY Y)|(refine hYY ?_;clear hXX X hYY Y))|(with_reducible refine k_cid ?_;first|refine k_ctl rfl ?_|refine k_cfl rfl ?_)|(with_reducible refine a_id ?_;first|refine a_passl rfl rfl rfl rfl ?_|refine a_runl rfl rfl rfl ?_|refine a_pul rfl rfl rfl rfl ?_)|(with_reducible refine d_id ?_;first|refine d_passl rfl rfl rfl rfl ?_|refine d_runl rfl rfl rfl ?_|refine d_pul rfl rfl rfl rfl ?_|refine d_end hN (by apply Exists.intro;apply And.intro;(repeat' (first|apply FtI.nil|apply FI.nil|apply FI.cons|apply FtI.cons));kernel_rfl) ?_)|((first|(with_reducible first|refine a_opd rfl rfl fun K hK=>?_|refine d_opd rfl rfl fun K hKD=>?_|refine a_opn rfl rfl fun K hKN=>?_|refine d_opn rfl rfl fun K hKE=>?_|refine k_cond fun X Y hXX hYY=>?_|refine FN_new ?_)|(with_reducible refine a_id ?_;refine a_guard rfl rfl fun X Y hXX hYY=>?_)|(with_reducible refine d_id ?_;refine d_guard rfl rfl fun X Y hXX hYY=>?_));simp (disch:=first|decide|omega|(simp only [List.length_cons,List.length_nil];omega)) only [go_sem,beq_self_eq_true,↓tmL_cons,↓hpL_get hN,hpL_set hN,reduceIte,reduceCtorEq,Nat.reduceAdd,Nat.reduceLT,Nat.reduceLeDiff,Nat.reduceEqDiff,Nat.reduceSub])|(with_reducible refine And.intro (fun h=>?_) (fun h=>?_) <;> try (exfalso;omega))|(with_reducible refine k_reg tiOK hN rfl ?_ ?_;kernel_rfl)|(with_reducible refine k_drawn tiOK hN rfl ?_ ?_ ?_ ?_;(kernel_rfl);(kernel_rfl);(kernel_rfl))|(with_reducible refine And.intro ?_ ?_)|(refine prop_id ?_;omega)|(exact nm_ne hN (by decide))))
    (refine ⟨.inr rfl,_,(by first|exact resV_tmp rfl rfl|exact resV_cell hN rfl rfl rfl rfl|exact resV_cell2 hN rfl rfl rfl rfl rfl|(simp (disch:=first|decide|omega|(simp only [List.length_cons,List.length_nil];omega)) only [resV,resL,resA,boxA,go_sem,beq_self_eq_true,↓tmL_cons,↓hpL_get hN,hpL_set hN,reduceIte,reduceCtorEq,Nat.reduceAdd,Nat.reduceLT,Nat.reduceLeDiff,Nat.reduceEqDiff,Nat.reduceSub];rfl)|rfl),[(1,2)],_,rfl,?_,rfl,?_⟩;(all_goals try simp only [List.drop,List.take,List.cons_append,List.nil_append,nmL,List.length_cons,List.length_nil,Nat.reduceAdd,List.getD_cons_zero]);(repeat' (first|(with_reducible first|exact LEs.nil _|exact LTs.nil|exact LVs.nil|refine LEs.cons ?_ ?_|refine LVs.cons ?_ ?_|exact lv_any _|exact lv_c _|exact le_dead _|rfl|exact lv_el _ _|refine lv_agg ?_|exact lv_k _|refine lv_fn ?_)|refine LTs.cons rfl ?_ ?_|exact lv_sl hN _ rfl rfl rfl|exact lv_ad hN _ rfl rfl rfl|exact lv_fzb hN _ rfl rfl rfl (Or.inr rfl)|(refine lv_fz hN _ rfl rfl (by first|exact Or.inr rfl|exact Or.inl rfl) ?_;first|exact RdLe.refl _|exact RdLe.unn _)|refine le_box hN rfl ?_|refine le_arr hN rfl rfl ?_|exact lv_nul hN _ rfl rfl|exact le_new hN rfl rfl rfl rfl|(with_reducible first|refine lv_eq ?_|refine congrArg C.B ?_|refine congrArg C.I ?_|refine congrArg C.R ?_|refine congrArg (C.int _) ?_|refine congrArg C.bool ?_))))
end Go.Proofs.Ytfaefmabjjndeaa
