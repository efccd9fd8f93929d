/-
  The program's recursive solver.
-/
import Derived.Test.YtfaefmabjjndeaaZtE10
import Derived.Test.YtfaefmabjjndeaaZtE9
import Derived.Test.YtfaefmabjjndeaaZtCe
import Derived.Test.YtfaefmabjjndeaaZtFc
namespace Go.Proofs.Ytfaefmabjjndeaa
set_option linter.unusedVariables false
set_option linter.unusedSimpArgs false
open Go.RowKit
attribute [local irreducible] FunSpec CallR Aw Le
theorem topTo_app {pr xs ys : List Int} : ∀ {k : Nat},k ≤ xs.length → topTo pr (xs ++ ys) k = topTo pr xs k:=by
  intro k
  induction k with
  | zero => intro _; rfl
  | succ k ih =>
    intro h
    show max (topTo pr (xs ++ ys) k) _ = max (topTo pr xs k) _
    rw [ih (by omega)]
    have : gi (xs ++ ys) k = gi xs k:=by simp [gi,List.getD_eq_getElem?_getD,List.getElem?_append_left (show k < xs.length by omega)]
    rw [this]
theorem topTo_lst {pr : List Int} {bs : List Bool} : ∀ {k : Nat},topTo pr (lstB bs k) (lstB bs k).length = topM pr bs k:=by
  intro k
  induction k with
  | zero => rfl
  | succ k ih =>
    rw [lstB,topM]
    split
    · rw [List.length_append]
      show max (topTo pr (lstB bs k ++ [(k : Int)]) (lstB bs k).length) (gi pr (gi (lstB bs k ++ [(k : Int)]) (lstB bs k).length).toNat) = _
      rw [topTo_app (Nat.le_refl _),ih,gi_app_last]
      rfl
    · rw [List.append_nil];exact ih
def whoM (pr : List Int) (bs : List Bool) (n : Nat) : Int:=if topM pr bs n < 0 then 0 else (topM pr bs n).tmod 2
def ixB (p : Bool) : List Bool → Nat → Int
  | [], _ => -1
  | x :: xs, k => if x = p then k else ixB p xs (k + 1)
theorem ixB_iff (p : Bool) (xs : List Bool) (k : Nat) : 0 ≤ ixB p xs k ↔ p ∈ xs:=by
  induction xs generalizing k with
  | nil => simp [ixB]
  | cons x xs ih =>
    simp only [ixB]
    split
    · rename_i h;simp [h]
    · rename_i h
      rw [ih,List.mem_cons]
      exact ⟨.inr,fun h'=>h'.resolve_left fun e=>h e.symm⟩
theorem drop_gb {xs : List Bool} {k : Nat} (h : k < xs.length) : xs.drop k = gb xs k :: xs.drop (k + 1):=by
  rw [List.drop_eq_getElem_cons h]
  refine congrArg (· :: _) ?_
  rw [gb,List.getD_eq_getElem?_getD,List.getElem?_eq_getElem h];rfl
theorem indexB_x (xs : List Bool) (hl : xs.length ≤ 1048576) (p : Bool) :
    FunSpec Try.prog 233 [.c (.B xs),.c (.bool p)] [] (fun _=>.c (.int .i64 (ixB p xs 0))):=by
  (refine f_intro tiOK Try.func233 rfl rfl (by kernel_rfl) fun hp0 ν hX hN=>?_;simp only [numT,Nat.reduceAdd])
  (repeat' (first|(with_reducible first|(refine hK _ _ ?_;clear hK K)|(refine hKN _ ?_;clear hKN K)|(refine hKD _ _ _ ?_;clear hKD K)|(refine hKE _ _ ?_;clear hKE K)|refine k_seq ?_|refine n_sq ?_|refine a_nil ?_|refine k_label ?_|refine k_block ?_|refine n_bk ?_|refine k_exit ?_|refine n_sqx ?_|refine n_kx ?_|refine n_bkx ?_|refine n_bkn rfl ?_|refine k_ret ?_|refine n_sqr ?_|refine n_kr ?_|refine n_bkr ?_|refine k_skip ?_|refine n_k ?_|refine n_end ?_|(refine hXX ?_;clear hXX X hYY Y)|(refine hYY ?_;clear hXX X hYY Y))|(with_reducible refine k_cid ?_;first|refine k_ctl rfl ?_|refine k_cfl rfl ?_)|(with_reducible refine a_id ?_;first|refine a_passl rfl rfl rfl rfl ?_|refine a_runl rfl rfl rfl ?_|refine a_pul rfl rfl rfl rfl ?_)|(with_reducible refine d_id ?_;first|refine d_passl rfl rfl rfl rfl ?_|refine d_runl rfl rfl rfl ?_|refine d_pul rfl rfl rfl rfl ?_|refine d_end hN (by apply Exists.intro;apply And.intro;(repeat' (first|apply FtI.nil|apply FI.nil|apply FI.cons|apply FtI.cons));kernel_rfl) ?_)|((first|(with_reducible first|refine a_opd rfl rfl fun K hK=>?_|refine d_opd rfl rfl fun K hKD=>?_|refine a_opn rfl rfl fun K hKN=>?_|refine d_opn rfl rfl fun K hKE=>?_|refine k_cond fun X Y hXX hYY=>?_|refine FN_new ?_)|(with_reducible refine a_id ?_;refine a_guard rfl rfl fun X Y hXX hYY=>?_)|(with_reducible refine d_id ?_;refine d_guard rfl rfl fun X Y hXX hYY=>?_));simp (disch:=first|decide|omega|(simp only [List.length_cons,List.length_nil];omega)) only [go_sem,beq_self_eq_true,↓tmL_cons,↓hpL_get hN,hpL_set hN,reduceIte,reduceCtorEq,Nat.reduceAdd,Nat.reduceLT,Nat.reduceLeDiff,Nat.reduceEqDiff,Nat.reduceSub])|(with_reducible refine And.intro (fun h=>?_) (fun h=>?_) <;> try (exfalso;omega))|(with_reducible refine k_reg tiOK hN rfl ?_ ?_;kernel_rfl)|(with_reducible refine k_drawn tiOK hN rfl ?_ ?_ ?_ ?_;(kernel_rfl);(kernel_rfl);(kernel_rfl))|(with_reducible refine And.intro ?_ ?_)|(refine prop_id ?_;omega)|(exact nm_ne hN (by decide))))
  (refine k_loop (fun (k : Nat)=>(tmL [(8,.c (.int .i64 k)),(7,.c (.int .i64 xs.length)),(0,.c (.B xs)),(1,.c (.bool p))],hpL hp0 ν [])) (fun (k : Nat)=>k ≤ xs.length ∧ ixB p xs 0 = ixB p (xs.drop k) k) (fun (k : Nat)=>xs.length - k) ⟨0,?_,le_L hX hN [] ?_ ?_⟩ ?_;(repeat' (first|(with_reducible first|exact LEs.nil _|exact LTs.nil|exact LVs.nil|refine LEs.cons ?_ ?_|refine LVs.cons ?_ ?_|exact lv_any _|exact lv_c _|exact le_dead _|rfl|exact lv_el _ _|refine lv_agg ?_|exact lv_k _|refine lv_fn ?_)|refine LTs.cons rfl ?_ ?_|exact lv_sl hN _ rfl rfl rfl|exact lv_ad hN _ rfl rfl rfl|exact lv_fzb hN _ rfl rfl rfl (Or.inr rfl)|(refine lv_fz hN _ rfl rfl (by first|exact Or.inr rfl|exact Or.inl rfl) ?_;first|exact RdLe.refl _|exact RdLe.unn _)|refine le_box hN rfl ?_|refine le_arr hN rfl rfl ?_|exact lv_nul hN _ rfl rfl|exact le_new hN rfl rfl rfl rfl|(with_reducible first|refine lv_eq ?_|refine congrArg C.B ?_|refine congrArg C.I ?_|refine congrArg C.R ?_|refine congrArg (C.int _) ?_|refine congrArg C.bool ?_)));(try (any_goals (first|(with_reducible rfl)|(refine prop_id ?_;omega)))))
  · exact ⟨Nat.zero_le _,rfl⟩
  intro k hk
  obtain ⟨hk,he⟩:=hk
  (repeat' (first|(with_reducible first|(refine hK _ _ ?_;clear hK K)|(refine hKN _ ?_;clear hKN K)|(refine hKD _ _ _ ?_;clear hKD K)|(refine hKE _ _ ?_;clear hKE K)|refine k_seq ?_|refine n_sq ?_|refine a_nil ?_|refine k_label ?_|refine k_block ?_|refine n_bk ?_|refine k_exit ?_|refine n_sqx ?_|refine n_kx ?_|refine n_bkx ?_|refine n_bkn rfl ?_|refine k_ret ?_|refine n_sqr ?_|refine n_kr ?_|refine n_bkr ?_|refine k_skip ?_|refine n_k ?_|refine n_end ?_|(refine hXX ?_;clear hXX X hYY Y)|(refine hYY ?_;clear hXX X hYY Y))|(with_reducible refine k_cid ?_;first|refine k_ctl rfl ?_|refine k_cfl rfl ?_)|(with_reducible refine a_id ?_;first|refine a_passl rfl rfl rfl rfl ?_|refine a_runl rfl rfl rfl ?_|refine a_pul rfl rfl rfl rfl ?_)|(with_reducible refine d_id ?_;first|refine d_passl rfl rfl rfl rfl ?_|refine d_runl rfl rfl rfl ?_|refine d_pul rfl rfl rfl rfl ?_|refine d_end hN (by apply Exists.intro;apply And.intro;(repeat' (first|apply FtI.nil|apply FI.nil|apply FI.cons|apply FtI.cons));kernel_rfl) ?_)|((first|(with_reducible first|refine a_opd rfl rfl fun K hK=>?_|refine d_opd rfl rfl fun K hKD=>?_|refine a_opn rfl rfl fun K hKN=>?_|refine d_opn rfl rfl fun K hKE=>?_|refine k_cond fun X Y hXX hYY=>?_|refine FN_new ?_)|(with_reducible refine a_id ?_;refine a_guard rfl rfl fun X Y hXX hYY=>?_)|(with_reducible refine d_id ?_;refine d_guard rfl rfl fun X Y hXX hYY=>?_));simp (disch:=first|decide|omega|(simp only [List.length_cons,List.length_nil];omega)) only [go_sem,beq_self_eq_true,↓tmL_cons,↓hpL_get hN,hpL_set hN,reduceIte,reduceCtorEq,Nat.reduceAdd,Nat.reduceLT,Nat.reduceLeDiff,Nat.reduceEqDiff,Nat.reduceSub])|(with_reducible refine And.intro (fun h=>?_) (fun h=>?_) <;> try (exfalso;omega))|(with_reducible refine k_reg tiOK hN rfl ?_ ?_;kernel_rfl)|(with_reducible refine k_drawn tiOK hN rfl ?_ ?_ ?_ ?_;(kernel_rfl);(kernel_rfl);(kernel_rfl))|(with_reducible refine And.intro ?_ ?_)|(refine prop_id ?_;omega)|(exact nm_ne hN (by decide))))
  · (refine ret_c (.inr rfl) (by first|rfl|(simp (disch:=first|decide|omega|(simp only [List.length_cons,List.length_nil];omega)) only [resV,resL,resA,boxA,go_sem,beq_self_eq_true,↓tmL_cons,↓hpL_get hN,hpL_set hN,reduceIte,reduceCtorEq,Nat.reduceAdd,Nat.reduceLT,Nat.reduceLeDiff,Nat.reduceEqDiff,Nat.reduceSub];rfl)) ?_)
    rw [he,drop_gb (by omega),ixB,if_pos (Eq.symm (by assumption))]
  · (refine ⟨k + 1,⟨?_,?_⟩,le_L hX hN [] ?_ ?_⟩;(try any_goals dsimp only);(repeat' (first|(with_reducible first|exact LEs.nil _|exact LTs.nil|exact LVs.nil|refine LEs.cons ?_ ?_|refine LVs.cons ?_ ?_|exact lv_any _|exact lv_c _|exact le_dead _|rfl|exact lv_el _ _|refine lv_agg ?_|exact lv_k _|refine lv_fn ?_)|refine LTs.cons rfl ?_ ?_|exact lv_sl hN _ rfl rfl rfl|exact lv_ad hN _ rfl rfl rfl|exact lv_fzb hN _ rfl rfl rfl (Or.inr rfl)|(refine lv_fz hN _ rfl rfl (by first|exact Or.inr rfl|exact Or.inl rfl) ?_;first|exact RdLe.refl _|exact RdLe.unn _)|refine le_box hN rfl ?_|refine le_arr hN rfl rfl ?_|exact lv_nul hN _ rfl rfl|exact le_new hN rfl rfl rfl rfl|(with_reducible first|refine lv_eq ?_|refine congrArg C.B ?_|refine congrArg C.I ?_|refine congrArg C.R ?_|refine congrArg (C.int _) ?_|refine congrArg C.bool ?_)));(try (any_goals (first|(with_reducible rfl)|(refine prop_id ?_;omega)))))
    exact ⟨by omega,by rw [he,drop_gb (by omega),ixB,if_neg fun e=>beq_eq_false_iff_ne.1 (show (p == gb xs k) = false by assumption) e.symm]⟩
  · (refine ret_c (.inr rfl) (by first|rfl|(simp (disch:=first|decide|omega|(simp only [List.length_cons,List.length_nil];omega)) only [resV,resL,resA,boxA,go_sem,beq_self_eq_true,↓tmL_cons,↓hpL_get hN,hpL_set hN,reduceIte,reduceCtorEq,Nat.reduceAdd,Nat.reduceLT,Nat.reduceLeDiff,Nat.reduceEqDiff,Nat.reduceSub];rfl)) ?_)
    rw [he,List.drop_eq_nil_of_le (by omega)];rfl
theorem containsB_x (xs : List Bool) (hl : xs.length ≤ 1048576) (p : Bool) :
    FunSpec Try.prog 219 [.c (.B xs),.c (.bool p)] [] (fun _=>.c (.bool (tf (p ∈ xs)))):=by
  (refine f_intro tiOK Try.func219 rfl rfl (by kernel_rfl) fun hp0 ν hX hN=>?_;simp only [numT,Nat.reduceAdd])
  (repeat' (first|(with_reducible first|(refine hK _ _ ?_;clear hK K)|(refine hKN _ ?_;clear hKN K)|(refine hKD _ _ _ ?_;clear hKD K)|(refine hKE _ _ ?_;clear hKE K)|refine k_seq ?_|refine n_sq ?_|refine a_nil ?_|refine k_label ?_|refine k_block ?_|refine n_bk ?_|refine k_exit ?_|refine n_sqx ?_|refine n_kx ?_|refine n_bkx ?_|refine n_bkn rfl ?_|refine k_ret ?_|refine n_sqr ?_|refine n_kr ?_|refine n_bkr ?_|refine k_skip ?_|refine n_k ?_|refine n_end ?_|(refine hXX ?_;clear hXX X hYY Y)|(refine hYY ?_;clear hXX X hYY Y))|(with_reducible refine k_cid ?_;first|refine k_ctl rfl ?_|refine k_cfl rfl ?_)|(with_reducible refine a_id ?_;first|refine a_passl rfl rfl rfl rfl ?_|refine a_runl rfl rfl rfl ?_|refine a_pul rfl rfl rfl rfl ?_)|(with_reducible refine d_id ?_;first|refine d_passl rfl rfl rfl rfl ?_|refine d_runl rfl rfl rfl ?_|refine d_pul rfl rfl rfl rfl ?_|refine d_end hN (by apply Exists.intro;apply And.intro;(repeat' (first|apply FtI.nil|apply FI.nil|apply FI.cons|apply FtI.cons));kernel_rfl) ?_)|((first|(with_reducible first|refine a_opd rfl rfl fun K hK=>?_|refine d_opd rfl rfl fun K hKD=>?_|refine a_opn rfl rfl fun K hKN=>?_|refine d_opn rfl rfl fun K hKE=>?_|refine k_cond fun X Y hXX hYY=>?_|refine FN_new ?_)|(with_reducible refine a_id ?_;refine a_guard rfl rfl fun X Y hXX hYY=>?_)|(with_reducible refine d_id ?_;refine d_guard rfl rfl fun X Y hXX hYY=>?_));simp (disch:=first|decide|omega|(simp only [List.length_cons,List.length_nil];omega)) only [go_sem,beq_self_eq_true,↓tmL_cons,↓hpL_get hN,hpL_set hN,reduceIte,reduceCtorEq,Nat.reduceAdd,Nat.reduceLT,Nat.reduceLeDiff,Nat.reduceEqDiff,Nat.reduceSub])|(with_reducible refine And.intro (fun h=>?_) (fun h=>?_) <;> try (exfalso;omega))|(with_reducible refine k_reg tiOK hN rfl ?_ ?_;kernel_rfl)|(with_reducible refine k_drawn tiOK hN rfl ?_ ?_ ?_ ?_;(kernel_rfl);(kernel_rfl);(kernel_rfl))|(refine k_call (indexB_x xs hl p) ?_ rfl (fun _=>rfl) ?_)|(with_reducible first|exact Args_nil|refine Args_cons ?_ ?_|exact ag_c _|refine ag_agg ?_|exact ag_elA _|exact ag_el _ _|refine ag_fn ?_|exact ag_unn _)|exact ag_box hN rfl rfl|(refine ag_fz hN rfl ?_;first|exact RdLe.refl _|exact RdLe.unn _)|exact ag_nul rfl rfl rfl|(simp only [hpUp,List.map_nil])|(with_reducible refine FN_nil ?_)|(with_reducible refine And.intro ?_ ?_)|(refine prop_id ?_;omega)|(exact nm_ne hN (by decide))))
  (refine ret_c (.inr rfl) (by first|rfl|(simp (disch:=first|decide|omega|(simp only [List.length_cons,List.length_nil];omega)) only [resV,resL,resA,boxA,go_sem,beq_self_eq_true,↓tmL_cons,↓hpL_get hN,hpL_set hN,reduceIte,reduceCtorEq,Nat.reduceAdd,Nat.reduceLT,Nat.reduceLeDiff,Nat.reduceEqDiff,Nat.reduceSub];rfl)) ?_)
  have:=ixB_iff p xs 0
  rw [← this]
  by_cases h : 0 ≤ ixB p xs 0
  · rw [tf_true h];simp [h]
  · rw [tf_false h];simp [h]
theorem gb_mem_iff {xs : List Bool} : true ∈ xs ↔ ∃ v,gb xs v = true:=by
  constructor
  · intro h
    obtain ⟨i,hi,e⟩:=List.mem_iff_getElem.1 h
    exact ⟨i,by rw [gb,List.getD_eq_getElem?_getD,List.getElem?_eq_getElem hi,← e];rfl⟩
  · rintro ⟨v,h⟩
    have hv:=gb_lt h
    rw [gb,List.getD_eq_getElem?_getD,List.getElem?_eq_getElem hv] at h
    exact List.mem_iff_getElem.2 ⟨v,hv,h⟩
theorem num_mono {p q : Nat → Prop} : ∀ {k : Nat},(∀ t,t < k → q t → p t) → num q k ≤ num p k:=by
  intro k
  induction k with
  | zero => intro _; exact Nat.le_refl _
  | succ k ih =>
    intro h
    have:=ih fun t ht=>h t (by omega)
    by_cases hq : q k
    · rw [num_yes hq,num_yes (h k (by omega) hq)];omega
    · rw [num_no hq]
      by_cases hp : p k
      · rw [num_yes hp];omega
      · rw [num_no hp];exact this
theorem whoM_01 (pr : List Int) (bs : List Bool) (n : Nat) : whoM pr bs n = 0 ∨ whoM pr bs n = 1:=by
  rw [whoM]
  split
  · exact .inl rfl
  · rename_i h
    have : (topM pr bs n).tmod 2 = topM pr bs n % 2:=Int.tmod_eq_emod_of_nonneg (by omega)
    omega
theorem mem_no {xs : List Bool} (h : ¬ true ∈ xs) (v : Nat) : gb xs v = false:=by
  cases e : gb xs v
  · rfl
  · exact absurd (gb_mem_iff.2 ⟨v,e⟩) h
theorem won_not' {P : PG.Gm} {n : Nat} (hf : PG.Fin P n) {S : Nat → Prop} (hS : ∀ v,S v → v < n) (ht : PG.Total P S) {i : Int} (hi : i = 0 ∨ i = 1) (v : Nat) : PG.Won P (1 - i) S v ↔ PG.Diff S (PG.Won P i S) v:=by
  refine ⟨fun h=>?_,fun ⟨h,h'⟩=>?_⟩
  · have hv:=PG.won_in h
    refine ⟨hv,?_⟩
    rcases hi with rfl|rfl
    · exact (PG.won_not hf hS ht hv).1 h
    · exact fun h1=>(PG.won_not hf hS ht hv).1 h1 h
  · rcases hi with rfl|rfl
    · exact (PG.won_not hf hS ht h).2 h'
    · exact Classical.byContradiction fun h0=>h' ((PG.won_not hf hS ht h).2 h0)
section
variable {P : PG.Gm} {n : Nat} {now : List Bool} {top who : Int} {T R : Nat → Prop} {L aw now2 : List Bool}
theorem won_fin1 (hf : PG.Fin P n) (hnl : now.length = n) (hS : ∀ v,gb now v = true → v < n) (ht : PG.Total P fun v=>gb now v = true) (hd : top % 2 = who)
    (hT : ∀ v,gb now v = true → T v → P.prio v = top) (hm : ∀ v,gb now v = true → P.prio v ≤ top)
    (hL : ∀ v,gb L v = true ↔ PG.Won P (1 - who) (PG.Diff (fun v=>gb now v = true) (PG.Attr P who (fun v=>gb now v = true) T)) v)
    (hR : ∀ v,R v ↔ PG.Won P who (fun v=>gb now v = true) v) (hno : ¬ true ∈ L) : now = mks n R:=by
  have hall:=PG.win_all hf hS ht hd hT hm fun v h=>hno (gb_mem_iff.2 ⟨v,(hL v).2 h⟩)
  refine eq_tabb hnl fun v hv=>bool_tf ?_
  rw [hR v,hall v]
theorem won_fin2 (hf : PG.Fin P n) (hnl : now.length = n) (hS : ∀ v,gb now v = true → v < n) (ht : PG.Total P fun v=>gb now v = true) (hi : who = 0 ∨ who = 1)
    (hL : ∀ v,gb L v = true ↔ PG.Won P (1 - who) (PG.Diff (fun v=>gb now v = true) (PG.Attr P who (fun v=>gb now v = true) T)) v)
    (haw : aw = mks n (PG.Attr P (1 - who) (fun v=>gb now v = true) (fun v=>gb L v = true))) (h2 : now2 = tabb now.length fun i=>gb now i && !gb aw i)
    (hR : ∀ v,R v ↔ PG.Won P who (fun v=>gb now v = true) v) : (∀ v,R v ↔ PG.Won P who (fun v=>gb now2 v = true) v):=by
  intro v
  rw [hR v,(PG.win_some hf hS ht hi hL v).1,less_eq hnl haw h2]
theorem won_fin3 (hl : now2.length = n) (hR : ∀ v,R v ↔ PG.Won P who (fun v=>gb now2 v = true) v) (hno : ¬ true ∈ now2) : now2 = mks n R:=by
  refine eq_tabb hl fun v hv=>bool_tf ⟨fun h=>?_,fun h=>?_⟩
  · rw [mem_no hno] at h;cases h
  · exact PG.won_in ((hR v).1 h)
theorem won_less (hnl : now.length = n) (hf : PG.Fin P n) (ht : PG.Total P fun v=>gb now v = true) (hS : ∀ v,gb now v = true → v < n)
    (haw : aw = mks n (PG.Attr P (1 - who) (fun v=>gb now v = true) (fun v=>gb L v = true))) (h2 : now2 = tabb now.length fun i=>gb now i && !gb aw i)
    (hL : ∀ v,gb L v = true → gb now v = true) (hmem : true ∈ L) :
    now2.length = n ∧ (∀ v,gb now2 v = true → gb now v = true) ∧ PG.Total P (fun v=>gb now2 v = true) ∧ num (fun v=>gb now2 v = true) n < num (fun v=>gb now v = true) n:=by
  have e:=less_eq hnl haw h2
  refine ⟨by rw [h2,tabb_len,hnl],fun v h=>((less_iff hnl haw h2 v).1 h).1,by rw [e];exact PG.total_diff hf ht,?_⟩
  rw [e]
  obtain ⟨v,hv⟩:=gb_mem_iff.1 hmem
  exact num_lt (fun t _ h=>h.1) ⟨v,hS v (hL v hv),hL v hv,fun h=>h.2 (PG.attr_goal (hL v hv) hv)⟩
end
set_option maxHeartbeats 8000000 in
theorem won_f (g : Gm) (n : Nat) (hg : GmOk g n) (hpk : ∀ v,v < n → gi g.pick v < 0) : ∀ (N : Nat) (inn : List Bool),inn.length = n → num (fun v=>gb inn v = true) n < N → PG.Total (pgOf g n) (fun v=>gb inn v = true) →
    FunSpec Try.prog 195 [soA g,.c (.B inn)] [] (fun _=>.tup [.c (.B (mks n (PG.Won (pgOf g n) (whoM g.prio inn n) (fun v=>gb inn v = true)))),.c (.int .i64 (whoM g.prio inn n))]):=by
  intro N
  induction N with
  | zero => intro inn _ h; omega
  | succ N ih =>
    intro inn hi hNN ht
    have hle:=hg.le
    have hgp:=hg.prio
    have hS : ∀ v,gb inn v = true → v < n:=fun v h=>by have:=gb_lt h;omega
    have hf : PG.Fin (pgOf g n) n:=fun v u h=>h.2.1
    have hlb:=lstB_len inn n
    have hBnd : Bnd (lstB inn n) (Pa.mk ⟨g.own,g.nxt⟩ g.prio).prio.length:=fun k hk=>by
      obtain ⟨v,h1,h2,h3⟩:=mem_lstB.1 (gi_mem hk)
      show 0 ≤ gi (lstB inn n) k ∧ gi (lstB inn n) k < (g.prio.length : Int)
      rw [h2];omega
    have hlst:=listOf_f inn (by omega)
    rw [hi] at hlst
    have htop:=topIn_f ⟨⟨g.own,g.nxt⟩,g.prio⟩ (lstB inn n) hBnd
    rw [topTo_lst] at htop
    have hpr0 : ∀ v,gb inn v = true → 0 ≤ gi g.prio v:=fun v h=>(hg.p1 v (hS v h)).1
    (refine f_intro tiOK Try.func195 rfl rfl (by kernel_rfl) fun hp0 ν hX hN=>?_;simp only [numT,Nat.reduceAdd])
    (repeat' (first|(with_reducible first|(refine hK _ _ ?_;clear hK K)|(refine hKN _ ?_;clear hKN K)|(refine hKD _ _ _ ?_;clear hKD K)|(refine hKE _ _ ?_;clear hKE K)|refine k_seq ?_|refine n_sq ?_|refine a_nil ?_|refine k_label ?_|refine k_block ?_|refine n_bk ?_|refine k_exit ?_|refine n_sqx ?_|refine n_kx ?_|refine n_bkx ?_|refine n_bkn rfl ?_|refine k_ret ?_|refine n_sqr ?_|refine n_kr ?_|refine n_bkr ?_|refine k_skip ?_|refine n_k ?_|refine n_end ?_|(refine hXX ?_;clear hXX X hYY Y)|(refine hYY ?_;clear hXX X hYY Y))|(with_reducible refine k_cid ?_;first|refine k_ctl rfl ?_|refine k_cfl rfl ?_)|(with_reducible refine a_id ?_;first|refine a_passl rfl rfl rfl rfl ?_|refine a_runl rfl rfl rfl ?_|refine a_pul rfl rfl rfl rfl ?_)|(with_reducible refine d_id ?_;first|refine d_passl rfl rfl rfl rfl ?_|refine d_runl rfl rfl rfl ?_|refine d_pul rfl rfl rfl rfl ?_|refine d_end hN (by apply Exists.intro;apply And.intro;(repeat' (first|apply FtI.nil|apply FI.nil|apply FI.cons|apply FtI.cons));kernel_rfl) ?_)|((first|(with_reducible first|refine a_opd rfl rfl fun K hK=>?_|refine d_opd rfl rfl fun K hKD=>?_|refine a_opn rfl rfl fun K hKN=>?_|refine d_opn rfl rfl fun K hKE=>?_|refine k_cond fun X Y hXX hYY=>?_|refine FN_new ?_)|(with_reducible refine a_id ?_;refine a_guard rfl rfl fun X Y hXX hYY=>?_)|(with_reducible refine d_id ?_;refine d_guard rfl rfl fun X Y hXX hYY=>?_));simp (disch:=first|decide|omega|(simp only [List.length_cons,List.length_nil];omega)) only [go_sem,beq_self_eq_true,↓tmL_cons,↓hpL_get hN,hpL_set hN,reduceIte,reduceCtorEq,Nat.reduceAdd,Nat.reduceLT,Nat.reduceLeDiff,Nat.reduceEqDiff,Nat.reduceSub])|(with_reducible refine And.intro (fun h=>?_) (fun h=>?_) <;> try (exfalso;omega))|(with_reducible refine k_reg tiOK hN rfl ?_ ?_;kernel_rfl)|(with_reducible refine k_drawn tiOK hN rfl ?_ ?_ ?_ ?_;(kernel_rfl);(kernel_rfl);(kernel_rfl))|(refine k_call (hlst) ?_ rfl (fun _=>rfl) ?_)|(refine k_call (htop) ?_ rfl (fun _=>rfl) ?_)|(with_reducible first|exact Args_nil|refine Args_cons ?_ ?_|exact ag_c _|refine ag_agg ?_|exact ag_elA _|exact ag_el _ _|refine ag_fn ?_|exact ag_unn _)|exact ag_box hN rfl rfl|(refine ag_fz hN rfl ?_;first|exact RdLe.refl _|exact RdLe.unn _)|exact ag_nul rfl rfl rfl|(simp only [hpUp,List.map_nil])|(with_reducible refine FN_nil ?_)|(with_reducible refine And.intro ?_ ?_)|(refine prop_id ?_;omega)|(exact nm_ne hN (by decide))))
    · have h0 : (lstB inn n).length = 0:=by omega
      rw [lstB_num,num_zero] at h0
      have htn : topM g.prio inn n < 0:=(topM_neg hpr0).2 fun v hv=>by simpa using h0 v hv
      (refine ret_X hN [] (by decide) (.inr rfl) (by first|exact resV_tmp rfl rfl|exact resV_cell hN rfl rfl rfl rfl|exact resV_cell2 hN rfl rfl rfl rfl rfl|(simp (disch:=first|decide|omega|(simp only [List.length_cons,List.length_nil];omega)) only [resV,resL,resA,boxA,go_sem,beq_self_eq_true,↓tmL_cons,↓hpL_get hN,hpL_set hN,reduceIte,reduceCtorEq,Nat.reduceAdd,Nat.reduceLT,Nat.reduceLeDiff,Nat.reduceEqDiff,Nat.reduceSub];rfl)|rfl) ?_ fun νs hνs=>?_;(repeat' (first|exact Gone.nil|(refine Gone.cons rfl rfl ?_ ?_)|(with_reducible refine sv_tup ?_)|(with_reducible refine sv_agg ?_)|(with_reducible refine SVs.cons ?_ ?_)|(with_reducible exact SVs.nil)|(simp only [List.drop,List.take])|(simp (disch:=first|decide|omega) only [↓tmL_cons,reduceIte,reduceCtorEq,Nat.reduceEqDiff])|(with_reducible exact sv_c _)|(with_reducible exact sv_unn _)|(exact sv_nul rfl rfl rfl)|(exact sv_sl 0 (by simp) rfl rfl)|(refine sv_fz hN rfl (nm_not hN (by decide)) ?_)|(with_reducible refine sv_eq ?_)|(with_reducible rfl)|(with_reducible refine congrArg C.B ?_)|(with_reducible refine congrArg C.I ?_)|(with_reducible refine congrArg C.R ?_)|(with_reducible refine congrArg (C.int _) ?_)|(with_reducible refine congrArg C.bool ?_)|(refine prop_id ?_;omega))))
      · refine eq_tabb hi fun v hv=>?_
        rw [tf_false fun h=>h0 v hv (PG.won_in h)]
        simpa using h0 v hv
      · rw [whoM,if_pos htn]
    have hne : ∃ v,v < n ∧ gb inn v = true:=by
      refine Classical.byContradiction fun h=>?_
      have : num (fun v=>gb inn v = true) n = 0:=num_zero.2 fun v hv h'=>h ⟨v,hv,h'⟩
      rw [← lstB_num] at this
      have hx:=beq_eq_false_iff_ne.1 (show ((↑(lstB inn n).length : Int) == 0) = false by assumption)
      omega
    have htop0 : 0 ≤ topM g.prio inn n:=by
      rcases Int.lt_or_le (topM g.prio inn n) 0 with h|h
      · obtain ⟨v,hv,h'⟩:=hne
        rw [(topM_neg hpr0).1 h v hv] at h';cases h'
      · exact h
    have hwm : whoM g.prio inn n = (topM g.prio inn n).tmod 2:=by rw [whoM,if_neg (by omega)]
    have hvtop : ∃ v,v < n ∧ gb inn v = true ∧ gi g.prio v = topM g.prio inn n:=by
      rcases (topM_le (pr:=g.prio) (bs:=inn) (k:=n)).2 with h|h
      · omega
      · exact h
    have hletop : ∀ v,gb inn v = true → gi g.prio v ≤ topM g.prio inn n:=fun v h=>(topM_le (pr:=g.prio) (bs:=inn) (k:=n)).1 v (hS v h) h
    rw [hwm]
    clear hlst htop hBnd hlb
    generalize htop : topM g.prio inn n = top at *
    have htm : top.tmod 2 = top % 2:=Int.tmod_eq_emod_of_nonneg htop0
    have hi01 : top.tmod 2 = 0 ∨ top.tmod 2 = 1:=by omega
    generalize hwho : top.tmod 2 = who at *
    (refine k_loop (fun (now : List Bool)=>(tmL [(9,.c (.B now)),(8,.c (.int .i64 who)),(7,.c (.int .i64 top)),(0,soA g),(1,.c (.B inn))],hpL hp0 ν [.dead,.dead,.dead])) (fun (now : List Bool)=>now.length = n ∧ (∀ v,gb now v = true → gb inn v = true) ∧ PG.Total (pgOf g n) (fun v=>gb now v = true) ∧ (∀ v,PG.Won (pgOf g n) who (fun v=>gb inn v = true) v ↔ PG.Won (pgOf g n) who (fun v=>gb now v = true) v) ∧ (now = inn ∨ num (fun v=>gb now v = true) n < num (fun v=>gb inn v = true) n)) (fun (now : List Bool)=>num (fun v=>gb now v = true) n) ⟨inn,?_,le_L hX hN [] ?_ ?_⟩ ?_;(repeat' (first|(with_reducible first|exact LEs.nil _|exact LTs.nil|exact LVs.nil|refine LEs.cons ?_ ?_|refine LVs.cons ?_ ?_|exact lv_any _|exact lv_c _|exact le_dead _|rfl|exact lv_el _ _|refine lv_agg ?_|exact lv_k _|refine lv_fn ?_)|refine LTs.cons rfl ?_ ?_|exact lv_sl hN _ rfl rfl rfl|exact lv_ad hN _ rfl rfl rfl|exact lv_fzb hN _ rfl rfl rfl (Or.inr rfl)|(refine lv_fz hN _ rfl rfl (by first|exact Or.inr rfl|exact Or.inl rfl) ?_;first|exact RdLe.refl _|exact RdLe.unn _)|refine le_box hN rfl ?_|refine le_arr hN rfl rfl ?_|exact lv_nul hN _ rfl rfl|exact le_new hN rfl rfl rfl rfl|(with_reducible first|refine lv_eq ?_|refine congrArg C.B ?_|refine congrArg C.I ?_|refine congrArg C.R ?_|refine congrArg (C.int _) ?_|refine congrArg C.bool ?_)));(try (any_goals (first|(with_reducible rfl)|(refine prop_id ?_;omega)))))
    · exact ⟨hi,fun v h=>h,ht,fun v=>Iff.rfl,.inl rfl⟩
    intro now hnow
    obtain ⟨hnl,hsub,htn,hwon,hsm⟩:=hnow
    (repeat' (first|(with_reducible first|(refine hK _ _ ?_;clear hK K)|(refine hKN _ ?_;clear hKN K)|(refine hKD _ _ _ ?_;clear hKD K)|(refine hKE _ _ ?_;clear hKE K)|refine k_seq ?_|refine n_sq ?_|refine a_nil ?_|refine k_label ?_|refine k_block ?_|refine n_bk ?_|refine k_exit ?_|refine n_sqx ?_|refine n_kx ?_|refine n_bkx ?_|refine n_bkn rfl ?_|refine k_ret ?_|refine n_sqr ?_|refine n_kr ?_|refine n_bkr ?_|refine k_skip ?_|refine n_k ?_|refine n_end ?_|(refine hXX ?_;clear hXX X hYY Y)|(refine hYY ?_;clear hXX X hYY Y))|(with_reducible refine k_cid ?_;first|refine k_ctl rfl ?_|refine k_cfl rfl ?_)|(with_reducible refine a_id ?_;first|refine a_passl rfl rfl rfl rfl ?_|refine a_runl rfl rfl rfl ?_|refine a_pul rfl rfl rfl rfl ?_)|(with_reducible refine d_id ?_;first|refine d_passl rfl rfl rfl rfl ?_|refine d_runl rfl rfl rfl ?_|refine d_pul rfl rfl rfl rfl ?_|refine d_end hN (by apply Exists.intro;apply And.intro;(repeat' (first|apply FtI.nil|apply FI.nil|apply FI.cons|apply FtI.cons));kernel_rfl) ?_)|((first|(with_reducible first|refine a_opd rfl rfl fun K hK=>?_|refine d_opd rfl rfl fun K hKD=>?_|refine a_opn rfl rfl fun K hKN=>?_|refine d_opn rfl rfl fun K hKE=>?_|refine k_cond fun X Y hXX hYY=>?_|refine FN_new ?_)|(with_reducible refine a_id ?_;refine a_guard rfl rfl fun X Y hXX hYY=>?_)|(with_reducible refine d_id ?_;refine d_guard rfl rfl fun X Y hXX hYY=>?_));simp (disch:=first|decide|omega|(simp only [List.length_cons,List.length_nil];omega)) only [go_sem,beq_self_eq_true,↓tmL_cons,↓hpL_get hN,hpL_set hN,reduceIte,reduceCtorEq,Nat.reduceAdd,Nat.reduceLT,Nat.reduceLeDiff,Nat.reduceEqDiff,Nat.reduceSub])|(with_reducible refine And.intro (fun h=>?_) (fun h=>?_) <;> try (exfalso;omega))|(with_reducible refine k_reg tiOK hN rfl ?_ ?_;kernel_rfl)|(with_reducible refine k_drawn tiOK hN rfl ?_ ?_ ?_ ?_;(kernel_rfl);(kernel_rfl);(kernel_rfl))|(with_reducible refine And.intro ?_ ?_)|(refine prop_id ?_;omega)|(exact nm_ne hN (by decide))))
    (refine k_loop (fun (k : Nat)=>(tmL [(38,.c (.int .i64 k)),(37,.c (.int .i64 n)),(10,.sl (ν 3)),(9,.c (.B now)),(8,.c (.int .i64 who)),(7,.c (.int .i64 top)),(0,soA g),(1,.c (.B inn))],hpL hp0 ν [.dead,.dead,.dead,.arr 4 .yes (.B (tabb n fun v=>if v < k then gb now v && gi g.prio v == top else false))])) (fun (k : Nat)=>k ≤ n) (fun (k : Nat)=>n - k) ⟨0,?_,le_L hX hN [] ?_ ?_⟩ ?_;(repeat' (first|(with_reducible first|exact LEs.nil _|exact LTs.nil|exact LVs.nil|refine LEs.cons ?_ ?_|refine LVs.cons ?_ ?_|exact lv_any _|exact lv_c _|exact le_dead _|rfl|exact lv_el _ _|refine lv_agg ?_|exact lv_k _|refine lv_fn ?_)|refine LTs.cons rfl ?_ ?_|exact lv_sl hN _ rfl rfl rfl|exact lv_ad hN _ rfl rfl rfl|exact lv_fzb hN _ rfl rfl rfl (Or.inr rfl)|(refine lv_fz hN _ rfl rfl (by first|exact Or.inr rfl|exact Or.inl rfl) ?_;first|exact RdLe.refl _|exact RdLe.unn _)|refine le_box hN rfl ?_|refine le_arr hN rfl rfl ?_|exact lv_nul hN _ rfl rfl|exact le_new hN rfl rfl rfl rfl|(with_reducible first|refine lv_eq ?_|refine congrArg C.B ?_|refine congrArg C.I ?_|refine congrArg C.R ?_|refine congrArg (C.int _) ?_|refine congrArg C.bool ?_)));(try (any_goals (first|(with_reducible rfl)|(refine prop_id ?_;omega)))))
    · rw [hi];exact tabb_zero n fun v=>gb now v && gi g.prio v == top
    intro k hk
    (repeat' (first|(with_reducible first|(refine hK _ _ ?_;clear hK K)|(refine hKN _ ?_;clear hKN K)|(refine hKD _ _ _ ?_;clear hKD K)|(refine hKE _ _ ?_;clear hKE K)|refine k_seq ?_|refine n_sq ?_|refine a_nil ?_|refine k_label ?_|refine k_block ?_|refine n_bk ?_|refine k_exit ?_|refine n_sqx ?_|refine n_kx ?_|refine n_bkx ?_|refine n_bkn rfl ?_|refine k_ret ?_|refine n_sqr ?_|refine n_kr ?_|refine n_bkr ?_|refine k_skip ?_|refine n_k ?_|refine n_end ?_|(refine hXX ?_;clear hXX X hYY Y)|(refine hYY ?_;clear hXX X hYY Y))|(with_reducible refine k_cid ?_;first|refine k_ctl rfl ?_|refine k_cfl rfl ?_)|(with_reducible refine a_id ?_;first|refine a_passl rfl rfl rfl rfl ?_|refine a_runl rfl rfl rfl ?_|refine a_pul rfl rfl rfl rfl ?_)|(with_reducible refine d_id ?_;first|refine d_passl rfl rfl rfl rfl ?_|refine d_runl rfl rfl rfl ?_|refine d_pul rfl rfl rfl rfl ?_|refine d_end hN (by apply Exists.intro;apply And.intro;(repeat' (first|apply FtI.nil|apply FI.nil|apply FI.cons|apply FtI.cons));kernel_rfl) ?_)|((first|(with_reducible first|refine a_opd rfl rfl fun K hK=>?_|refine d_opd rfl rfl fun K hKD=>?_|refine a_opn rfl rfl fun K hKN=>?_|refine d_opn rfl rfl fun K hKE=>?_|refine k_cond fun X Y hXX hYY=>?_|refine FN_new ?_)|(with_reducible refine a_id ?_;refine a_guard rfl rfl fun X Y hXX hYY=>?_)|(with_reducible refine d_id ?_;refine d_guard rfl rfl fun X Y hXX hYY=>?_));simp (disch:=first|decide|omega|(simp only [List.length_cons,List.length_nil];omega)) only [go_sem,beq_self_eq_true,↓tmL_cons,↓hpL_get hN,hpL_set hN,reduceIte,reduceCtorEq,Nat.reduceAdd,Nat.reduceLT,Nat.reduceLeDiff,Nat.reduceEqDiff,Nat.reduceSub])|(with_reducible refine And.intro (fun h=>?_) (fun h=>?_) <;> try (exfalso;omega))|(with_reducible refine k_reg tiOK hN rfl ?_ ?_;kernel_rfl)|(with_reducible refine k_drawn tiOK hN rfl ?_ ?_ ?_ ?_;(kernel_rfl);(kernel_rfl);(kernel_rfl))|(with_reducible refine And.intro ?_ ?_)|(refine prop_id ?_;omega)|(exact nm_ne hN (by decide))))
    · (refine ⟨k + 1,⟨?_,?_⟩,le_L hX hN [] ?_ ?_⟩;(try any_goals dsimp only);(repeat' (first|(with_reducible first|exact LEs.nil _|exact LTs.nil|exact LVs.nil|refine LEs.cons ?_ ?_|refine LVs.cons ?_ ?_|exact lv_any _|exact lv_c _|exact le_dead _|rfl|exact lv_el _ _|refine lv_agg ?_|exact lv_k _|refine lv_fn ?_)|refine LTs.cons rfl ?_ ?_|exact lv_sl hN _ rfl rfl rfl|exact lv_ad hN _ rfl rfl rfl|exact lv_fzb hN _ rfl rfl rfl (Or.inr rfl)|(refine lv_fz hN _ rfl rfl (by first|exact Or.inr rfl|exact Or.inl rfl) ?_;first|exact RdLe.refl _|exact RdLe.unn _)|refine le_box hN rfl ?_|refine le_arr hN rfl rfl ?_|exact lv_nul hN _ rfl rfl|exact le_new hN rfl rfl rfl rfl|(with_reducible first|refine lv_eq ?_|refine congrArg C.B ?_|refine congrArg C.I ?_|refine congrArg C.R ?_|refine congrArg (C.int _) ?_|refine congrArg C.bool ?_)));(try (any_goals (first|(with_reducible rfl)|(refine prop_id ?_;omega)))))
      exact fillb (f:=fun v=>gb now v && gi g.prio v == top) (d:=fun _=>false) (by omega) (by simp [*])
    · (refine ⟨k + 1,⟨?_,?_⟩,le_L hX hN [] ?_ ?_⟩;(try any_goals dsimp only);(repeat' (first|(with_reducible first|exact LEs.nil _|exact LTs.nil|exact LVs.nil|refine LEs.cons ?_ ?_|refine LVs.cons ?_ ?_|exact lv_any _|exact lv_c _|exact le_dead _|rfl|exact lv_el _ _|refine lv_agg ?_|exact lv_k _|refine lv_fn ?_)|refine LTs.cons rfl ?_ ?_|exact lv_sl hN _ rfl rfl rfl|exact lv_ad hN _ rfl rfl rfl|exact lv_fzb hN _ rfl rfl rfl (Or.inr rfl)|(refine lv_fz hN _ rfl rfl (by first|exact Or.inr rfl|exact Or.inl rfl) ?_;first|exact RdLe.refl _|exact RdLe.unn _)|refine le_box hN rfl ?_|refine le_arr hN rfl rfl ?_|exact lv_nul hN _ rfl rfl|exact le_new hN rfl rfl rfl rfl|(with_reducible first|refine lv_eq ?_|refine congrArg C.B ?_|refine congrArg C.I ?_|refine congrArg C.R ?_|refine congrArg (C.int _) ?_|refine congrArg C.bool ?_)));(try (any_goals (first|(with_reducible rfl)|(refine prop_id ?_;omega)))))
      exact fillb (f:=fun v=>gb now v && gi g.prio v == top) (d:=fun _=>false) (by omega) (by simp [*])
    have hgoal : (tabb n fun v=>if v < k then gb now v && gi g.prio v == top else false) = tabb n fun v=>gb now v && gi g.prio v == top:=tabb_done (by omega)
    rw [hgoal]
    clear hgoal
    obtain ⟨goal,hgo⟩ : ∃ goal,goal = tabb n fun v=>gb now v && gi g.prio v == top:=⟨_,rfl⟩
    rw [← hgo]
    have hglen : goal.length = n:=by rw [hgo,tabb_len]
    have hgoalv : ∀ v,gb goal v = true ↔ gb now v = true ∧ gi g.prio v = top:=fun v=>by
      rcases Nat.lt_or_ge v n with h|h
      · rw [hgo,gb_tabb _ h];simp
      · refine ⟨fun h'=>?_,fun h'=>?_⟩
        · have:=gb_lt h';omega
        · have:=gb_lt h'.1;omega
    have hSn : ∀ v,gb now v = true → v < n:=fun v h=>hS v (hsub v h)
    obtain ⟨At,hAt⟩ : ∃ At,At = mks n (PG.Attr (pgOf g n) who (fun v=>gb now v = true) (fun v=>gb goal v = true)):=⟨_,rfl⟩
    have hAl : At.length = n:=by rw [hAt,mks_len]
    obtain ⟨rest,hrest⟩ : ∃ rest,rest = tabb now.length fun i=>gb now i && !gb At i:=⟨_,rfl⟩
    have hrl : rest.length = n:=by rw [hrest,tabb_len,hnl]
    have hatt:=pull_f g n hg hpk now goal hnl hglen (fun v h=>((hgoalv v).1 h).1) who htn
    rw [← hAt] at hatt
    have hless:=without_f now At (by omega) (by omega)
    rw [← hrest] at hless
    (repeat' (first|(with_reducible refine k_stop 14 ?_)|(with_reducible first|(refine hK _ _ ?_;clear hK K)|(refine hKN _ ?_;clear hKN K)|(refine hKD _ _ _ ?_;clear hKD K)|(refine hKE _ _ ?_;clear hKE K)|refine k_seq ?_|refine n_sq ?_|refine a_nil ?_|refine k_label ?_|refine k_block ?_|refine n_bk ?_|refine k_exit ?_|refine n_sqx ?_|refine n_kx ?_|refine n_bkx ?_|refine n_bkn rfl ?_|refine k_ret ?_|refine n_sqr ?_|refine n_kr ?_|refine n_bkr ?_|refine k_skip ?_|refine n_k ?_|refine n_end ?_|(refine hXX ?_;clear hXX X hYY Y)|(refine hYY ?_;clear hXX X hYY Y))|(with_reducible refine k_cid ?_;first|refine k_ctl rfl ?_|refine k_cfl rfl ?_)|(with_reducible refine a_id ?_;first|refine a_passl rfl rfl rfl rfl ?_|refine a_runl rfl rfl rfl ?_|refine a_pul rfl rfl rfl rfl ?_)|(with_reducible refine d_id ?_;first|refine d_passl rfl rfl rfl rfl ?_|refine d_runl rfl rfl rfl ?_|refine d_pul rfl rfl rfl rfl ?_|refine d_end hN (by apply Exists.intro;apply And.intro;(repeat' (first|apply FtI.nil|apply FI.nil|apply FI.cons|apply FtI.cons));kernel_rfl) ?_)|((first|(with_reducible first|refine a_opd rfl rfl fun K hK=>?_|refine d_opd rfl rfl fun K hKD=>?_|refine a_opn rfl rfl fun K hKN=>?_|refine d_opn rfl rfl fun K hKE=>?_|refine k_cond fun X Y hXX hYY=>?_|refine FN_new ?_)|(with_reducible refine a_id ?_;refine a_guard rfl rfl fun X Y hXX hYY=>?_)|(with_reducible refine d_id ?_;refine d_guard rfl rfl fun X Y hXX hYY=>?_));simp (disch:=first|decide|omega|(simp only [List.length_cons,List.length_nil];omega)) only [go_sem,beq_self_eq_true,↓tmL_cons,↓hpL_get hN,hpL_set hN,reduceIte,reduceCtorEq,Nat.reduceAdd,Nat.reduceLT,Nat.reduceLeDiff,Nat.reduceEqDiff,Nat.reduceSub])|(with_reducible refine And.intro (fun h=>?_) (fun h=>?_) <;> try (exfalso;omega))|(with_reducible refine k_reg tiOK hN rfl ?_ ?_;kernel_rfl)|(with_reducible refine k_drawn tiOK hN rfl ?_ ?_ ?_ ?_;(kernel_rfl);(kernel_rfl);(kernel_rfl))|(refine k_call hatt ?_ rfl (fun _=>rfl) ?_)|(refine k_call hless ?_ rfl (fun _=>rfl) ?_)|(with_reducible first|exact Args_nil|refine Args_cons ?_ ?_|exact ag_c _|refine ag_agg ?_|exact ag_elA _|exact ag_el _ _|refine ag_fn ?_|exact ag_unn _)|exact ag_box hN rfl rfl|(refine ag_fz hN rfl ?_;first|exact RdLe.refl _|exact RdLe.unn _)|exact ag_nul rfl rfl rfl|(simp only [hpUp,List.map_nil])|(with_reducible refine FN_nil ?_)|(with_reducible refine And.intro ?_ ?_)|(refine prop_id ?_;omega)|(exact nm_ne hN (by decide))))
    (refine k_le (le_L (L':=[.dead,.dead,.dead,.dead,.dead,.dead]) (l:=[(12,.c (.B rest)),(9,.c (.B now)),(8,.c (.int .i64 who)),(7,.c (.int .i64 top)),(0,soA g),(1,.c (.B inn))]) hX hN [] ?_ ?_) ?_;(repeat' (first|(with_reducible first|exact LEs.nil _|exact LTs.nil|exact LVs.nil|refine LEs.cons ?_ ?_|refine LVs.cons ?_ ?_|exact lv_any _|exact lv_c _|exact le_dead _|rfl|exact lv_el _ _|refine lv_agg ?_|exact lv_k _|refine lv_fn ?_)|refine LTs.cons rfl ?_ ?_|exact lv_sl hN _ rfl rfl rfl|exact lv_ad hN _ rfl rfl rfl|exact lv_fzb hN _ rfl rfl rfl (Or.inr rfl)|(refine lv_fz hN _ rfl rfl (by first|exact Or.inr rfl|exact Or.inl rfl) ?_;first|exact RdLe.refl _|exact RdLe.unn _)|refine le_box hN rfl ?_|refine le_arr hN rfl rfl ?_|exact lv_nul hN _ rfl rfl|exact le_new hN rfl rfl rfl rfl|(with_reducible first|refine lv_eq ?_|refine congrArg C.B ?_|refine congrArg C.I ?_|refine congrArg C.R ?_|refine congrArg (C.int _) ?_|refine congrArg C.bool ?_)));(try (any_goals (first|(with_reducible rfl)|(refine prop_id ?_;omega)))))
    have hrestP:=less_eq hnl hAt hrest
    have hihr : num (fun v=>gb rest v = true) n < N ∧ PG.Total (pgOf g n) (fun v=>gb rest v = true):=by
      rw [hrestP]
      refine ⟨?_,PG.total_diff hf htn⟩
      rcases hsm with rfl|hsm
      · obtain ⟨v,a,b,c⟩:=hvtop
        have:=num_lt (p:=fun v=>gb now v = true) (q:=PG.Diff (fun v=>gb now v = true) (PG.Attr (pgOf g n) who (fun v=>gb now v = true) (fun v=>gb goal v = true))) (k:=n) (fun t _ h=>h.1) ⟨v,a,b,fun h=>h.2 (PG.attr_goal b ((hgoalv v).2 ⟨b,c⟩))⟩
        omega
      · have:=num_mono (p:=fun v=>gb now v = true) (q:=PG.Diff (fun v=>gb now v = true) (PG.Attr (pgOf g n) who (fun v=>gb now v = true) (fun v=>gb goal v = true))) (k:=n) (fun t _ h=>h.1)
        omega
    have hrn : ∀ v,gb rest v = true → v < n:=fun v h=>by have:=gb_lt h;omega
    have hlow:=ih rest hrl hihr.1 hihr.2
    have hwr:=whoM_01 g.prio rest n
    generalize whoM g.prio rest n = wr at hlow hwr
    obtain ⟨wins,hwi⟩ : ∃ wins,wins = mks n (PG.Won (pgOf g n) wr (fun v=>gb rest v = true)):=⟨_,rfl⟩
    have hwl : wins.length = n:=by rw [hwi,mks_len]
    have hwv : ∀ v,gb wins v = true ↔ PG.Won (pgOf g n) wr (fun v=>gb rest v = true) v:=fun v=>by
      rcases Nat.lt_or_ge v n with h|h
      · rw [hwi,gb_mks _ h];exact tf_eq
      · refine ⟨fun h'=>?_,fun h'=>?_⟩
        · have:=gb_lt h';omega
        · have:=hrn v (PG.won_in h');omega
    rw [← hwi] at hlow
    obtain ⟨lost1,hl1⟩ : ∃ lost1,lost1 = tabb rest.length fun i=>gb rest i && !gb wins i:=⟨_,rfl⟩
    have hl1l : lost1.length = n:=by rw [hl1,tabb_len,hrl]
    have hless1:=without_f rest wins (by omega) (by omega)
    rw [← hl1] at hless1
    have hTp : ∀ v,gb now v = true → gb goal v = true → (pgOf g n).prio v = top:=fun v a b=>by rw [prio_of hg (hSn v a)];exact ((hgoalv v).1 b).2
    have hm : ∀ v,gb now v = true → (pgOf g n).prio v ≤ top:=fun v a=>by rw [prio_of hg (hSn v a)];exact hletop v (hsub v a)
    have hd : top % 2 = who:=by omega
    have hLin : ∀ L : List Bool,(∀ v,gb L v = true ↔ PG.Won (pgOf g n) (1 - who) (PG.Diff (fun v=>gb now v = true) (PG.Attr (pgOf g n) who (fun v=>gb now v = true) (fun v=>gb goal v = true))) v) → ∀ v,gb L v = true → gb now v = true:=fun L hL v h=>(PG.won_in ((hL v).1 h)).1
    have hLy : wr = who → ∀ v,gb lost1 v = true ↔ PG.Won (pgOf g n) (1 - who) (PG.Diff (fun v=>gb now v = true) (PG.Attr (pgOf g n) who (fun v=>gb now v = true) (fun v=>gb goal v = true))) v:=fun e v=>by
      rw [← hrestP,won_not' hf hrn hihr.2 hi01,less_iff hrl (X:=PG.Won (pgOf g n) wr (fun v=>gb rest v = true)) hwi hl1,e]
    have hLn : ¬ wr = who → ∀ v,gb wins v = true ↔ PG.Won (pgOf g n) (1 - who) (PG.Diff (fun v=>gb now v = true) (PG.Attr (pgOf g n) who (fun v=>gb now v = true) (fun v=>gb goal v = true))) v:=fun e v=>by
      rw [← hrestP,hwv,show wr = 1 - who by omega]
    clear hgoalv hAt hAl hrest hwi hwv
    have key : ∀ L : List Bool,L.length = n → (∀ v,gb L v = true ↔ PG.Won (pgOf g n) (1 - who) (PG.Diff (fun v=>gb now v = true) (PG.Attr (pgOf g n) who (fun v=>gb now v = true) (fun v=>gb goal v = true))) v) → ∃ aw now2 : List Bool,
        aw.length = n ∧ now2.length = n ∧
        FunSpec Try.prog 218 [soA g,.c (.int .i64 (1 - who)),.c (.B now),.c (.B L)] [.arr 4 .yes (.B aw)] (fun ns=>.sl (ns.getD 0 0)) ∧
        FunSpec Try.prog 197 [.c (.B now),.c (.B aw)] [.arr 4 .yes (.B now2)] (fun ns=>.sl (ns.getD 0 0)) ∧
        (¬ true ∈ L → now = mks n (PG.Won (pgOf g n) who (fun v=>gb inn v = true))) ∧
        (¬ true ∈ now2 → now2 = mks n (PG.Won (pgOf g n) who (fun v=>gb inn v = true))) ∧
        (true ∈ L → (now2.length = n ∧ (∀ v,gb now2 v = true → gb inn v = true) ∧ PG.Total (pgOf g n) (fun v=>gb now2 v = true) ∧ (∀ v,PG.Won (pgOf g n) who (fun v=>gb inn v = true) v ↔ PG.Won (pgOf g n) who (fun v=>gb now2 v = true) v) ∧ (now2 = inn ∨ num (fun v=>gb now2 v = true) n < num (fun v=>gb inn v = true) n)) ∧ num (fun v=>gb now2 v = true) n < num (fun v=>gb now v = true) n):=fun L hLl hL=>by
      obtain ⟨aw,haw⟩ : ∃ aw,aw = mks n (PG.Attr (pgOf g n) (1 - who) (fun v=>gb now v = true) (fun v=>gb L v = true)):=⟨_,rfl⟩
      obtain ⟨now2,hn2⟩ : ∃ now2,now2 = tabb now.length fun i=>gb now i && !gb aw i:=⟨_,rfl⟩
      have hal : aw.length = n:=by rw [haw,mks_len]
      have hnl2 : now2.length = n:=by rw [hn2,tabb_len,hnl]
      have h2:=won_fin2 hf hnl hSn htn hi01 hL haw hn2 hwon
      have hLi:=hLin L hL
      refine ⟨aw,now2,hal,hnl2,?_,?_,won_fin1 hf hnl hSn htn hd hTp hm hL hwon,won_fin3 hnl2 h2,fun hmem=>?_⟩
      · rw [haw];exact pull_f g n hg hpk now L hnl hLl hLi (1 - who) htn
      · rw [hn2];exact without_f now aw (by omega) (by omega)
      · obtain ⟨a,b,c,d⟩:=won_less hnl hf htn hSn haw hn2 hLi hmem
        refine ⟨⟨a,fun v h=>hsub v (b v h),c,h2,.inr ?_⟩,d⟩
        rcases hsm with rfl|hsm
        · exact d
        · omega
    by_cases hww : wr = who
    · obtain ⟨aw,now2,hal,hnl2,c1,c2,f1,f2,f3⟩:=key lost1 hl1l (hLy hww)
      subst hww
      (repeat' (first|(with_reducible refine k_stop 20 ?_)|(with_reducible first|(refine hK _ _ ?_;clear hK K)|(refine hKN _ ?_;clear hKN K)|(refine hKD _ _ _ ?_;clear hKD K)|(refine hKE _ _ ?_;clear hKE K)|refine k_seq ?_|refine n_sq ?_|refine a_nil ?_|refine k_label ?_|refine k_block ?_|refine n_bk ?_|refine k_exit ?_|refine n_sqx ?_|refine n_kx ?_|refine n_bkx ?_|refine n_bkn rfl ?_|refine k_ret ?_|refine n_sqr ?_|refine n_kr ?_|refine n_bkr ?_|refine k_skip ?_|refine n_k ?_|refine n_end ?_|(refine hXX ?_;clear hXX X hYY Y)|(refine hYY ?_;clear hXX X hYY Y))|(with_reducible refine k_cid ?_;first|refine k_ctl rfl ?_|refine k_cfl rfl ?_)|(with_reducible refine a_id ?_;first|refine a_passl rfl rfl rfl rfl ?_|refine a_runl rfl rfl rfl ?_|refine a_pul rfl rfl rfl rfl ?_)|(with_reducible refine d_id ?_;first|refine d_passl rfl rfl rfl rfl ?_|refine d_runl rfl rfl rfl ?_|refine d_pul rfl rfl rfl rfl ?_|refine d_end hN (by apply Exists.intro;apply And.intro;(repeat' (first|apply FtI.nil|apply FI.nil|apply FI.cons|apply FtI.cons));kernel_rfl) ?_)|((first|(with_reducible first|refine a_opd rfl rfl fun K hK=>?_|refine d_opd rfl rfl fun K hKD=>?_|refine a_opn rfl rfl fun K hKN=>?_|refine d_opn rfl rfl fun K hKE=>?_|refine k_cond fun X Y hXX hYY=>?_|refine FN_new ?_)|(with_reducible refine a_id ?_;refine a_guard rfl rfl fun X Y hXX hYY=>?_)|(with_reducible refine d_id ?_;refine d_guard rfl rfl fun X Y hXX hYY=>?_));simp (disch:=first|decide|omega|(simp only [List.length_cons,List.length_nil];omega)) only [go_sem,beq_self_eq_true,↓tmL_cons,↓hpL_get hN,hpL_set hN,reduceIte,reduceCtorEq,Nat.reduceAdd,Nat.reduceLT,Nat.reduceLeDiff,Nat.reduceEqDiff,Nat.reduceSub])|(with_reducible refine And.intro (fun h=>?_) (fun h=>?_) <;> try (exfalso;omega))|(with_reducible refine k_reg tiOK hN rfl ?_ ?_;kernel_rfl)|(with_reducible refine k_drawn tiOK hN rfl ?_ ?_ ?_ ?_;(kernel_rfl);(kernel_rfl);(kernel_rfl))|(refine k_calld (hlow) ?_ rfl rfl ?_)|(refine k_call hless1 ?_ rfl (fun _=>rfl) ?_)|(refine k_call (containsB_x lost1 (by omega) true) ?_ rfl (fun _=>rfl) ?_)|(with_reducible first|exact Args_nil|refine Args_cons ?_ ?_|exact ag_c _|refine ag_agg ?_|exact ag_elA _|exact ag_el _ _|refine ag_fn ?_|exact ag_unn _)|exact ag_box hN rfl rfl|(refine ag_fz hN rfl ?_;first|exact RdLe.refl _|exact RdLe.unn _)|exact ag_nul rfl rfl rfl|(simp only [hpUp,List.map_nil])|(with_reducible refine FN_nil ?_)|(with_reducible refine And.intro ?_ ?_)|(refine prop_id ?_;omega)|(exact nm_ne hN (by decide))))
      · have e1:=f1 (by assumption)
        (refine ret_X hN [] (by decide) (.inr rfl) (by first|exact resV_tmp rfl rfl|exact resV_cell hN rfl rfl rfl rfl|exact resV_cell2 hN rfl rfl rfl rfl rfl|(simp (disch:=first|decide|omega|(simp only [List.length_cons,List.length_nil];omega)) only [resV,resL,resA,boxA,go_sem,beq_self_eq_true,↓tmL_cons,↓hpL_get hN,hpL_set hN,reduceIte,reduceCtorEq,Nat.reduceAdd,Nat.reduceLT,Nat.reduceLeDiff,Nat.reduceEqDiff,Nat.reduceSub];rfl)|rfl) ?_ fun νs hνs=>?_;(repeat' (first|exact Gone.nil|(refine Gone.cons rfl rfl ?_ ?_)|(with_reducible refine sv_tup ?_)|(with_reducible refine sv_agg ?_)|(with_reducible refine SVs.cons ?_ ?_)|(with_reducible exact SVs.nil)|(simp only [List.drop,List.take])|(simp (disch:=first|decide|omega) only [↓tmL_cons,reduceIte,reduceCtorEq,Nat.reduceEqDiff])|(with_reducible exact sv_c _)|(with_reducible exact sv_unn _)|(exact sv_nul rfl rfl rfl)|(exact sv_sl 0 (by simp) rfl rfl)|(refine sv_fz hN rfl (nm_not hN (by decide)) ?_)|(with_reducible refine sv_eq ?_)|(with_reducible rfl)|(with_reducible refine congrArg C.B ?_)|(with_reducible refine congrArg C.I ?_)|(with_reducible refine congrArg C.R ?_)|(with_reducible refine congrArg (C.int _) ?_)|(with_reducible refine congrArg C.bool ?_)|(refine prop_id ?_;omega))))
      unfold Stop
      (repeat' (first|(with_reducible first|(refine hK _ _ ?_;clear hK K)|(refine hKN _ ?_;clear hKN K)|(refine hKD _ _ _ ?_;clear hKD K)|(refine hKE _ _ ?_;clear hKE K)|refine k_seq ?_|refine n_sq ?_|refine a_nil ?_|refine k_label ?_|refine k_block ?_|refine n_bk ?_|refine k_exit ?_|refine n_sqx ?_|refine n_kx ?_|refine n_bkx ?_|refine n_bkn rfl ?_|refine k_ret ?_|refine n_sqr ?_|refine n_kr ?_|refine n_bkr ?_|refine k_skip ?_|refine n_k ?_|refine n_end ?_|(refine hXX ?_;clear hXX X hYY Y)|(refine hYY ?_;clear hXX X hYY Y))|(with_reducible refine k_cid ?_;first|refine k_ctl rfl ?_|refine k_cfl rfl ?_)|(with_reducible refine a_id ?_;first|refine a_passl rfl rfl rfl rfl ?_|refine a_runl rfl rfl rfl ?_|refine a_pul rfl rfl rfl rfl ?_)|(with_reducible refine d_id ?_;first|refine d_passl rfl rfl rfl rfl ?_|refine d_runl rfl rfl rfl ?_|refine d_pul rfl rfl rfl rfl ?_|refine d_end hN (by apply Exists.intro;apply And.intro;(repeat' (first|apply FtI.nil|apply FI.nil|apply FI.cons|apply FtI.cons));kernel_rfl) ?_)|((first|(with_reducible first|refine a_opd rfl rfl fun K hK=>?_|refine d_opd rfl rfl fun K hKD=>?_|refine a_opn rfl rfl fun K hKN=>?_|refine d_opn rfl rfl fun K hKE=>?_|refine k_cond fun X Y hXX hYY=>?_|refine FN_new ?_)|(with_reducible refine a_id ?_;refine a_guard rfl rfl fun X Y hXX hYY=>?_)|(with_reducible refine d_id ?_;refine d_guard rfl rfl fun X Y hXX hYY=>?_));simp (disch:=first|decide|omega|(simp only [List.length_cons,List.length_nil];omega)) only [go_sem,beq_self_eq_true,↓tmL_cons,↓hpL_get hN,hpL_set hN,reduceIte,reduceCtorEq,Nat.reduceAdd,Nat.reduceLT,Nat.reduceLeDiff,Nat.reduceEqDiff,Nat.reduceSub])|(with_reducible refine And.intro (fun h=>?_) (fun h=>?_) <;> try (exfalso;omega))|(with_reducible refine k_reg tiOK hN rfl ?_ ?_;kernel_rfl)|(with_reducible refine k_drawn tiOK hN rfl ?_ ?_ ?_ ?_;(kernel_rfl);(kernel_rfl);(kernel_rfl))|(refine k_call c1 ?_ rfl (fun _=>rfl) ?_)|(refine k_call c2 ?_ rfl (fun _=>rfl) ?_)|(refine k_call (containsB_x now2 (by omega) true) ?_ rfl (fun _=>rfl) ?_)|(with_reducible first|exact Args_nil|refine Args_cons ?_ ?_|exact ag_c _|refine ag_agg ?_|exact ag_elA _|exact ag_el _ _|refine ag_fn ?_|exact ag_unn _)|exact ag_box hN rfl rfl|(refine ag_fz hN rfl ?_;first|exact RdLe.refl _|exact RdLe.unn _)|exact ag_nul rfl rfl rfl|(simp only [hpUp,List.map_nil])|(with_reducible refine FN_nil ?_)|(with_reducible refine And.intro ?_ ?_)|(refine prop_id ?_;omega)|(exact nm_ne hN (by decide))))
      · have e2:=f2 (by assumption)
        (refine ret_X hN [] (by decide) (.inr rfl) (by first|exact resV_tmp rfl rfl|exact resV_cell hN rfl rfl rfl rfl|exact resV_cell2 hN rfl rfl rfl rfl rfl|(simp (disch:=first|decide|omega|(simp only [List.length_cons,List.length_nil];omega)) only [resV,resL,resA,boxA,go_sem,beq_self_eq_true,↓tmL_cons,↓hpL_get hN,hpL_set hN,reduceIte,reduceCtorEq,Nat.reduceAdd,Nat.reduceLT,Nat.reduceLeDiff,Nat.reduceEqDiff,Nat.reduceSub];rfl)|rfl) ?_ fun νs hνs=>?_;(repeat' (first|exact Gone.nil|(refine Gone.cons rfl rfl ?_ ?_)|(with_reducible refine sv_tup ?_)|(with_reducible refine sv_agg ?_)|(with_reducible refine SVs.cons ?_ ?_)|(with_reducible exact SVs.nil)|(simp only [List.drop,List.take])|(simp (disch:=first|decide|omega) only [↓tmL_cons,reduceIte,reduceCtorEq,Nat.reduceEqDiff])|(with_reducible exact sv_c _)|(with_reducible exact sv_unn _)|(exact sv_nul rfl rfl rfl)|(exact sv_sl 0 (by simp) rfl rfl)|(refine sv_fz hN rfl (nm_not hN (by decide)) ?_)|(with_reducible refine sv_eq ?_)|(with_reducible rfl)|(with_reducible refine congrArg C.B ?_)|(with_reducible refine congrArg C.I ?_)|(with_reducible refine congrArg C.R ?_)|(with_reducible refine congrArg (C.int _) ?_)|(with_reducible refine congrArg C.bool ?_)|(refine prop_id ?_;omega))))
      · have e3:=f3 (by assumption)
        (refine ⟨now2,⟨?_,?_⟩,le_L hX hN [(0,8)] ?_ ?_⟩;(try any_goals dsimp only);(repeat' (first|(with_reducible first|exact LEs.nil _|exact LTs.nil|exact LVs.nil|refine LEs.cons ?_ ?_|refine LVs.cons ?_ ?_|exact lv_any _|exact lv_c _|exact le_dead _|rfl|exact lv_el _ _|refine lv_agg ?_|exact lv_k _|refine lv_fn ?_)|refine LTs.cons rfl ?_ ?_|exact lv_sl hN _ rfl rfl rfl|exact lv_ad hN _ rfl rfl rfl|exact lv_fzb hN _ rfl rfl rfl (Or.inr rfl)|(refine lv_fz hN _ rfl rfl (by first|exact Or.inr rfl|exact Or.inl rfl) ?_;first|exact RdLe.refl _|exact RdLe.unn _)|refine le_box hN rfl ?_|refine le_arr hN rfl rfl ?_|exact lv_nul hN _ rfl rfl|exact le_new hN rfl rfl rfl rfl|(with_reducible first|refine lv_eq ?_|refine congrArg C.B ?_|refine congrArg C.I ?_|refine congrArg C.R ?_|refine congrArg (C.int _) ?_|refine congrArg C.bool ?_)));(try (any_goals (first|(with_reducible rfl)|(refine prop_id ?_;omega)))))
        · exact e3.1
        · exact lv_fz hN 0 rfl rfl (Or.inr rfl) (RdLe.unn _)
    · obtain ⟨aw,now2,hal,hnl2,c1,c2,f1,f2,f3⟩:=key wins hwl (hLn hww)
      (repeat' (first|(with_reducible refine k_stop 20 ?_)|(with_reducible first|(refine hK _ _ ?_;clear hK K)|(refine hKN _ ?_;clear hKN K)|(refine hKD _ _ _ ?_;clear hKD K)|(refine hKE _ _ ?_;clear hKE K)|refine k_seq ?_|refine n_sq ?_|refine a_nil ?_|refine k_label ?_|refine k_block ?_|refine n_bk ?_|refine k_exit ?_|refine n_sqx ?_|refine n_kx ?_|refine n_bkx ?_|refine n_bkn rfl ?_|refine k_ret ?_|refine n_sqr ?_|refine n_kr ?_|refine n_bkr ?_|refine k_skip ?_|refine n_k ?_|refine n_end ?_|(refine hXX ?_;clear hXX X hYY Y)|(refine hYY ?_;clear hXX X hYY Y))|(with_reducible refine k_cid ?_;first|refine k_ctl rfl ?_|refine k_cfl rfl ?_)|(with_reducible refine a_id ?_;first|refine a_passl rfl rfl rfl rfl ?_|refine a_runl rfl rfl rfl ?_|refine a_pul rfl rfl rfl rfl ?_)|(with_reducible refine d_id ?_;first|refine d_passl rfl rfl rfl rfl ?_|refine d_runl rfl rfl rfl ?_|refine d_pul rfl rfl rfl rfl ?_|refine d_end hN (by apply Exists.intro;apply And.intro;(repeat' (first|apply FtI.nil|apply FI.nil|apply FI.cons|apply FtI.cons));kernel_rfl) ?_)|((first|(with_reducible first|refine a_opd rfl rfl fun K hK=>?_|refine d_opd rfl rfl fun K hKD=>?_|refine a_opn rfl rfl fun K hKN=>?_|refine d_opn rfl rfl fun K hKE=>?_|refine k_cond fun X Y hXX hYY=>?_|refine FN_new ?_)|(with_reducible refine a_id ?_;refine a_guard rfl rfl fun X Y hXX hYY=>?_)|(with_reducible refine d_id ?_;refine d_guard rfl rfl fun X Y hXX hYY=>?_));simp (disch:=first|decide|omega|(simp only [List.length_cons,List.length_nil];omega)) only [go_sem,beq_self_eq_true,↓tmL_cons,↓hpL_get hN,hpL_set hN,reduceIte,reduceCtorEq,Nat.reduceAdd,Nat.reduceLT,Nat.reduceLeDiff,Nat.reduceEqDiff,Nat.reduceSub])|(with_reducible refine And.intro (fun h=>?_) (fun h=>?_) <;> try (exfalso;omega))|(with_reducible refine k_reg tiOK hN rfl ?_ ?_;kernel_rfl)|(with_reducible refine k_drawn tiOK hN rfl ?_ ?_ ?_ ?_;(kernel_rfl);(kernel_rfl);(kernel_rfl))|(refine k_calld (hlow) ?_ rfl rfl ?_)|(refine k_call (containsB_x wins (by omega) true) ?_ rfl (fun _=>rfl) ?_)|(with_reducible first|exact Args_nil|refine Args_cons ?_ ?_|exact ag_c _|refine ag_agg ?_|exact ag_elA _|exact ag_el _ _|refine ag_fn ?_|exact ag_unn _)|exact ag_box hN rfl rfl|(refine ag_fz hN rfl ?_;first|exact RdLe.refl _|exact RdLe.unn _)|exact ag_nul rfl rfl rfl|(simp only [hpUp,List.map_nil])|(with_reducible refine FN_nil ?_)|(with_reducible refine And.intro ?_ ?_)|(refine prop_id ?_;omega)|(exact nm_ne hN (by decide))))
      · have e1:=f1 (by assumption)
        (refine ret_X hN [] (by decide) (.inr rfl) (by first|exact resV_tmp rfl rfl|exact resV_cell hN rfl rfl rfl rfl|exact resV_cell2 hN rfl rfl rfl rfl rfl|(simp (disch:=first|decide|omega|(simp only [List.length_cons,List.length_nil];omega)) only [resV,resL,resA,boxA,go_sem,beq_self_eq_true,↓tmL_cons,↓hpL_get hN,hpL_set hN,reduceIte,reduceCtorEq,Nat.reduceAdd,Nat.reduceLT,Nat.reduceLeDiff,Nat.reduceEqDiff,Nat.reduceSub];rfl)|rfl) ?_ fun νs hνs=>?_;(repeat' (first|exact Gone.nil|(refine Gone.cons rfl rfl ?_ ?_)|(with_reducible refine sv_tup ?_)|(with_reducible refine sv_agg ?_)|(with_reducible refine SVs.cons ?_ ?_)|(with_reducible exact SVs.nil)|(simp only [List.drop,List.take])|(simp (disch:=first|decide|omega) only [↓tmL_cons,reduceIte,reduceCtorEq,Nat.reduceEqDiff])|(with_reducible exact sv_c _)|(with_reducible exact sv_unn _)|(exact sv_nul rfl rfl rfl)|(exact sv_sl 0 (by simp) rfl rfl)|(refine sv_fz hN rfl (nm_not hN (by decide)) ?_)|(with_reducible refine sv_eq ?_)|(with_reducible rfl)|(with_reducible refine congrArg C.B ?_)|(with_reducible refine congrArg C.I ?_)|(with_reducible refine congrArg C.R ?_)|(with_reducible refine congrArg (C.int _) ?_)|(with_reducible refine congrArg C.bool ?_)|(refine prop_id ?_;omega))))
      unfold Stop
      (repeat' (first|(with_reducible first|(refine hK _ _ ?_;clear hK K)|(refine hKN _ ?_;clear hKN K)|(refine hKD _ _ _ ?_;clear hKD K)|(refine hKE _ _ ?_;clear hKE K)|refine k_seq ?_|refine n_sq ?_|refine a_nil ?_|refine k_label ?_|refine k_block ?_|refine n_bk ?_|refine k_exit ?_|refine n_sqx ?_|refine n_kx ?_|refine n_bkx ?_|refine n_bkn rfl ?_|refine k_ret ?_|refine n_sqr ?_|refine n_kr ?_|refine n_bkr ?_|refine k_skip ?_|refine n_k ?_|refine n_end ?_|(refine hXX ?_;clear hXX X hYY Y)|(refine hYY ?_;clear hXX X hYY Y))|(with_reducible refine k_cid ?_;first|refine k_ctl rfl ?_|refine k_cfl rfl ?_)|(with_reducible refine a_id ?_;first|refine a_passl rfl rfl rfl rfl ?_|refine a_runl rfl rfl rfl ?_|refine a_pul rfl rfl rfl rfl ?_)|(with_reducible refine d_id ?_;first|refine d_passl rfl rfl rfl rfl ?_|refine d_runl rfl rfl rfl ?_|refine d_pul rfl rfl rfl rfl ?_|refine d_end hN (by apply Exists.intro;apply And.intro;(repeat' (first|apply FtI.nil|apply FI.nil|apply FI.cons|apply FtI.cons));kernel_rfl) ?_)|((first|(with_reducible first|refine a_opd rfl rfl fun K hK=>?_|refine d_opd rfl rfl fun K hKD=>?_|refine a_opn rfl rfl fun K hKN=>?_|refine d_opn rfl rfl fun K hKE=>?_|refine k_cond fun X Y hXX hYY=>?_|refine FN_new ?_)|(with_reducible refine a_id ?_;refine a_guard rfl rfl fun X Y hXX hYY=>?_)|(with_reducible refine d_id ?_;refine d_guard rfl rfl fun X Y hXX hYY=>?_));simp (disch:=first|decide|omega|(simp only [List.length_cons,List.length_nil];omega)) only [go_sem,beq_self_eq_true,↓tmL_cons,↓hpL_get hN,hpL_set hN,reduceIte,reduceCtorEq,Nat.reduceAdd,Nat.reduceLT,Nat.reduceLeDiff,Nat.reduceEqDiff,Nat.reduceSub])|(with_reducible refine And.intro (fun h=>?_) (fun h=>?_) <;> try (exfalso;omega))|(with_reducible refine k_reg tiOK hN rfl ?_ ?_;kernel_rfl)|(with_reducible refine k_drawn tiOK hN rfl ?_ ?_ ?_ ?_;(kernel_rfl);(kernel_rfl);(kernel_rfl))|(refine k_call c1 ?_ rfl (fun _=>rfl) ?_)|(refine k_call c2 ?_ rfl (fun _=>rfl) ?_)|(refine k_call (containsB_x now2 (by omega) true) ?_ rfl (fun _=>rfl) ?_)|(with_reducible first|exact Args_nil|refine Args_cons ?_ ?_|exact ag_c _|refine ag_agg ?_|exact ag_elA _|exact ag_el _ _|refine ag_fn ?_|exact ag_unn _)|exact ag_box hN rfl rfl|(refine ag_fz hN rfl ?_;first|exact RdLe.refl _|exact RdLe.unn _)|exact ag_nul rfl rfl rfl|(simp only [hpUp,List.map_nil])|(with_reducible refine FN_nil ?_)|(with_reducible refine And.intro ?_ ?_)|(refine prop_id ?_;omega)|(exact nm_ne hN (by decide))))
      · have e2:=f2 (by assumption)
        (refine ret_X hN [] (by decide) (.inr rfl) (by first|exact resV_tmp rfl rfl|exact resV_cell hN rfl rfl rfl rfl|exact resV_cell2 hN rfl rfl rfl rfl rfl|(simp (disch:=first|decide|omega|(simp only [List.length_cons,List.length_nil];omega)) only [resV,resL,resA,boxA,go_sem,beq_self_eq_true,↓tmL_cons,↓hpL_get hN,hpL_set hN,reduceIte,reduceCtorEq,Nat.reduceAdd,Nat.reduceLT,Nat.reduceLeDiff,Nat.reduceEqDiff,Nat.reduceSub];rfl)|rfl) ?_ fun νs hνs=>?_;(repeat' (first|exact Gone.nil|(refine Gone.cons rfl rfl ?_ ?_)|(with_reducible refine sv_tup ?_)|(with_reducible refine sv_agg ?_)|(with_reducible refine SVs.cons ?_ ?_)|(with_reducible exact SVs.nil)|(simp only [List.drop,List.take])|(simp (disch:=first|decide|omega) only [↓tmL_cons,reduceIte,reduceCtorEq,Nat.reduceEqDiff])|(with_reducible exact sv_c _)|(with_reducible exact sv_unn _)|(exact sv_nul rfl rfl rfl)|(exact sv_sl 0 (by simp) rfl rfl)|(refine sv_fz hN rfl (nm_not hN (by decide)) ?_)|(with_reducible refine sv_eq ?_)|(with_reducible rfl)|(with_reducible refine congrArg C.B ?_)|(with_reducible refine congrArg C.I ?_)|(with_reducible refine congrArg C.R ?_)|(with_reducible refine congrArg (C.int _) ?_)|(with_reducible refine congrArg C.bool ?_)|(refine prop_id ?_;omega))))
      · have e3:=f3 (by assumption)
        (refine ⟨now2,⟨?_,?_⟩,le_L hX hN [(0,7)] ?_ ?_⟩;(try any_goals dsimp only);(repeat' (first|(with_reducible first|exact LEs.nil _|exact LTs.nil|exact LVs.nil|refine LEs.cons ?_ ?_|refine LVs.cons ?_ ?_|exact lv_any _|exact lv_c _|exact le_dead _|rfl|exact lv_el _ _|refine lv_agg ?_|exact lv_k _|refine lv_fn ?_)|refine LTs.cons rfl ?_ ?_|exact lv_sl hN _ rfl rfl rfl|exact lv_ad hN _ rfl rfl rfl|exact lv_fzb hN _ rfl rfl rfl (Or.inr rfl)|(refine lv_fz hN _ rfl rfl (by first|exact Or.inr rfl|exact Or.inl rfl) ?_;first|exact RdLe.refl _|exact RdLe.unn _)|refine le_box hN rfl ?_|refine le_arr hN rfl rfl ?_|exact lv_nul hN _ rfl rfl|exact le_new hN rfl rfl rfl rfl|(with_reducible first|refine lv_eq ?_|refine congrArg C.B ?_|refine congrArg C.I ?_|refine congrArg C.R ?_|refine congrArg (C.int _) ?_|refine congrArg C.bool ?_)));(try (any_goals (first|(with_reducible rfl)|(refine prop_id ?_;omega)))))
        · exact e3.1
        · exact lv_fz hN 0 rfl rfl (Or.inr rfl) (RdLe.unn _)
end Go.Proofs.Ytfaefmabjjndeaa
