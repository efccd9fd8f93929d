/-
  Sets grown by the dice: insertion.
-/
import Derived.Test.YtfaefmabjjndeaaZtG2
namespace Go.Proofs.Ytfaefmabjjndeaa
set_option linter.unusedVariables false
set_option linter.unusedSimpArgs false
open Go.RowKit
attribute [local irreducible] FunSpec CallR Aw Le
def insI : List Int → Int → List Int
  | [], x => [x]
  | y :: ys, x => if y < x then y :: insI ys x else if y = x then y :: ys else x :: y :: ys
theorem mem_insI {x z : Int} : ∀ {xs : List Int},z ∈ insI xs x ↔ z = x ∨ z ∈ xs:=by
  intro xs
  induction xs with
  | nil => simp [insI]
  | cons y ys ih =>
    unfold insI
    split
    · rw [List.mem_cons,ih,List.mem_cons]
      exact ⟨fun h=>h.elim (fun h=>.inr (.inl h)) fun h=>h.elim .inl fun h=>.inr (.inr h),fun h=>h.elim (fun h=>.inr (.inl h)) fun h=>h.elim .inl fun h=>.inr (.inr h)⟩
    · split
      · rename_i _ h;subst h
        exact ⟨fun h=>.inr h,fun h=>h.elim (fun h=>by rw [h];exact List.mem_cons_self) id⟩
      · rw [List.mem_cons]
theorem insI_len (x : Int) : ∀ xs : List Int,(insI xs x).length ≤ xs.length + 1:=by
  intro xs
  induction xs with
  | nil => simp [insI]
  | cons y ys ih =>
    unfold insI
    split
    · simp;omega
    · split
      · simp
      · simp
theorem insI_at {x : Int} : ∀ {xs : List Int} {k : Nat},k ≤ xs.length → (∀ j,j < k → gi xs j < x) → (k < xs.length → ¬ gi xs k < x) → insI xs x = if k < xs.length ∧ gi xs k = x then xs else xs.take k ++ x :: xs.drop k:=by
  intro xs
  induction xs with
  | nil =>
    intro k hk _ _
    have : k = 0:=by simpa using hk
    subst this;rfl
  | cons y ys ih =>
    intro k hk h1 h2
    cases k with
    | zero =>
      have h3 : ¬ y < x:=h2 (by simp)
      unfold insI
      rw [if_neg h3]
      by_cases h4 : y = x
      · rw [if_pos h4,if_pos ⟨by simp,h4⟩]
      · rw [if_neg h4,if_neg fun h=>h4 h.2];rfl
    | succ k =>
      have h3 : y < x:=h1 0 (by omega)
      unfold insI
      rw [if_pos h3,ih (k:=k) (by simpa using hk) (fun j hj=>h1 (j + 1) (by omega)) (fun h=>h2 (by simpa using h))]
      by_cases h5 : k < ys.length ∧ gi ys k = x
      · rw [if_pos h5,if_pos ⟨by simpa using h5.1,h5.2⟩]
      · rw [if_neg h5,if_neg fun h=>h5 ⟨by simpa using h.1,h.2⟩];rfl
theorem isSet_cons {y m : Int} {ys : List Int} : IsSet (y :: ys) m ↔ (0 ≤ y ∧ y < m) ∧ IsSet ys m ∧ ∀ z,z ∈ ys → y < z:=by
  constructor
  · intro h
    have h0:=h 0 (by simp)
    refine ⟨⟨h0.1,h0.2.1⟩,fun k hk=>?_,fun z hz=>?_⟩
    · have:=h (k + 1) (by simpa using hk)
      refine ⟨this.1,this.2.1,fun hk0=>?_⟩
      have h2:=this.2.2 (by omega)
      obtain ⟨j,rfl⟩ : ∃ j,k = j + 1:=⟨k - 1,by omega⟩
      exact h2
    · obtain ⟨j,hj,e⟩:=mem_gi hz
      have key : ∀ j,j < ys.length → y < gi ys j:=by
        intro j
        induction j with
        | zero => intro hj; exact (h 1 (by simp; omega)).2.2 (by omega)
        | succ j ih =>
          intro hj
          have:=ih (by omega)
          have h2:=(h (j + 2) (by simp;omega)).2.2 (by omega)
          have h3 : gi ys j < gi ys (j + 1):=h2
          omega
      rw [← e];exact key j hj
  · rintro ⟨⟨h1,h2⟩,h3,h4⟩ k hk
    cases k with
    | zero => exact ⟨h1, h2, fun h => by omega⟩
    | succ k =>
      have hk' : k < ys.length:=by simpa using hk
      obtain ⟨a,b,c⟩:=h3 k hk'
      refine ⟨a,b,fun _=>?_⟩
      cases k with
      | zero => exact h4 _ (gi_mem hk')
      | succ k => exact c (by omega)
theorem isSet_insI {x m : Int} (h0 : 0 ≤ x) (h1 : x < m) : ∀ {xs : List Int},IsSet xs m → IsSet (insI xs x) m:=by
  intro xs
  induction xs with
  | nil => intro _; exact isSet_cons.2 ⟨⟨h0, h1⟩, fun k hk => absurd hk (Nat.not_lt_zero _), fun z hz => by simp at hz⟩
  | cons y ys ih =>
    intro h
    obtain ⟨a,b,c⟩:=isSet_cons.1 h
    unfold insI
    split
    · refine isSet_cons.2 ⟨a,ih b,fun z hz=>?_⟩
      rcases mem_insI.1 hz with rfl|hz
      · assumption
      · exact c z hz
    · split
      · exact h
      · refine isSet_cons.2 ⟨⟨h0,h1⟩,h,fun z hz=>?_⟩
        rcases List.mem_cons.1 hz with rfl|hz
        · omega
        · have:=c z hz;omega
theorem l1Into_f (xs : List Int) (x : Int) (hl : xs.length ≤ 65536) : FunSpec Try.prog 150 [.c (.I xs),.c (.int .i64 x)] [] (fun _=>.c (.I (insI xs x))):=by
  (refine f_intro tiOK Try.func150 rfl rfl (by kernel_rfl) fun hp0 ν hX hN=>?_;simp only [numT,Nat.reduceAdd])
  (repeat' (first|(with_reducible first|(refine hK _ _ ?_;clear hK K)|(refine hKN _ ?_;clear hKN K)|(refine hKD _ _ _ ?_;clear hKD K)|(refine hKE _ _ ?_;clear hKE K)|refine k_seq ?_|refine n_sq ?_|refine a_nil ?_|refine k_label ?_|refine k_block ?_|refine n_bk ?_|refine k_exit ?_|refine n_sqx ?_|refine n_kx ?_|refine n_bkx ?_|refine n_bkn rfl ?_|refine k_ret ?_|refine n_sqr ?_|refine n_kr ?_|refine n_bkr ?_|refine k_skip ?_|refine n_k ?_|refine n_end ?_|(refine hXX ?_;clear hXX X hYY Y)|(refine hYY ?_;clear hXX X hYY Y))|(with_reducible refine k_cid ?_;first|refine k_ctl rfl ?_|refine k_cfl rfl ?_)|(with_reducible refine a_id ?_;first|refine a_passl rfl rfl rfl rfl ?_|refine a_runl rfl rfl rfl ?_|refine a_pul rfl rfl rfl rfl ?_)|(with_reducible refine d_id ?_;first|refine d_passl rfl rfl rfl rfl ?_|refine d_runl rfl rfl rfl ?_|refine d_pul rfl rfl rfl rfl ?_|refine d_end hN (by apply Exists.intro;apply And.intro;(repeat' (first|apply FtI.nil|apply FI.nil|apply FI.cons|apply FtI.cons));kernel_rfl) ?_)|((first|(with_reducible first|refine a_opd rfl rfl fun K hK=>?_|refine d_opd rfl rfl fun K hKD=>?_|refine a_opn rfl rfl fun K hKN=>?_|refine d_opn rfl rfl fun K hKE=>?_|refine k_cond fun X Y hXX hYY=>?_|refine FN_new ?_)|(with_reducible refine a_id ?_;refine a_guard rfl rfl fun X Y hXX hYY=>?_)|(with_reducible refine d_id ?_;refine d_guard rfl rfl fun X Y hXX hYY=>?_));simp (disch:=first|decide|omega|(simp only [List.length_cons,List.length_nil];omega)) only [go_sem,beq_self_eq_true,↓tmL_cons,↓hpL_get hN,hpL_set hN,reduceIte,reduceCtorEq,Nat.reduceAdd,Nat.reduceLT,Nat.reduceLeDiff,Nat.reduceEqDiff,Nat.reduceSub])|(with_reducible refine And.intro (fun h=>?_) (fun h=>?_) <;> try (exfalso;omega))|(with_reducible refine k_reg tiOK hN rfl ?_ ?_;kernel_rfl)|(with_reducible refine k_drawn tiOK hN rfl ?_ ?_ ?_ ?_;(kernel_rfl);(kernel_rfl);(kernel_rfl))|(with_reducible refine And.intro ?_ ?_)|(refine prop_id ?_;omega)|(exact nm_ne hN (by decide))))
  (refine k_loop (fun (k : Nat)=>(tmL [(5,.c (.int .i64 k)),(0,.c (.I xs)),(1,.c (.int .i64 x))],hpL hp0 ν [])) (fun (k : Nat)=>k ≤ xs.length ∧ ∀ j,j < k → gi xs j < x) (fun (k : Nat)=>xs.length - k) ⟨0,?_,le_L hX hN [] ?_ ?_⟩ ?_;(repeat' (first|(with_reducible first|exact LEs.nil _|exact LTs.nil|exact LVs.nil|refine LEs.cons ?_ ?_|refine LVs.cons ?_ ?_|exact lv_any _|exact lv_c _|exact le_dead _|rfl|exact lv_el _ _|refine lv_agg ?_|exact lv_k _|refine lv_fn ?_)|refine LTs.cons rfl ?_ ?_|exact lv_sl hN _ rfl rfl rfl|exact lv_ad hN _ rfl rfl rfl|exact lv_fzb hN _ rfl rfl rfl (Or.inr rfl)|(refine lv_fz hN _ rfl rfl (by first|exact Or.inr rfl|exact Or.inl rfl) ?_;first|exact RdLe.refl _|exact RdLe.unn _)|refine le_box hN rfl ?_|refine le_arr hN rfl rfl ?_|exact lv_nul hN _ rfl rfl|exact le_new hN rfl rfl rfl rfl|(with_reducible first|refine lv_eq ?_|refine congrArg C.B ?_|refine congrArg C.I ?_|refine congrArg C.R ?_|refine congrArg (C.int _) ?_|refine congrArg C.bool ?_)));(try (any_goals (first|(with_reducible rfl)|(refine prop_id ?_;omega)))))
  · exact ⟨Nat.zero_le _,fun j hj=>absurd hj (Nat.not_lt_zero _)⟩
  rintro k ⟨hk,ho⟩
  have hdr : List.drop (Int.toNat 0) (List.take k xs) = xs.take k:=rfl
  have hdl : List.drop k (List.take xs.length xs) = xs.drop k:=by rw [List.take_length]
  have hl1 : (xs.take k).length = k:=by simp;omega
  have hl2 : (xs.drop k).length = xs.length - k:=by simp
  (repeat' (first|(with_reducible first|(refine hK _ _ ?_;clear hK K)|(refine hKN _ ?_;clear hKN K)|(refine hKD _ _ _ ?_;clear hKD K)|(refine hKE _ _ ?_;clear hKE K)|refine k_seq ?_|refine n_sq ?_|refine a_nil ?_|refine k_label ?_|refine k_block ?_|refine n_bk ?_|refine k_exit ?_|refine n_sqx ?_|refine n_kx ?_|refine n_bkx ?_|refine n_bkn rfl ?_|refine k_ret ?_|refine n_sqr ?_|refine n_kr ?_|refine n_bkr ?_|refine k_skip ?_|refine n_k ?_|refine n_end ?_|(refine hXX ?_;clear hXX X hYY Y)|(refine hYY ?_;clear hXX X hYY Y))|(with_reducible refine k_cid ?_;first|refine k_ctl rfl ?_|refine k_cfl rfl ?_)|(with_reducible refine a_id ?_;first|refine a_passl rfl rfl rfl rfl ?_|refine a_runl rfl rfl rfl ?_|refine a_pul rfl rfl rfl rfl ?_)|(with_reducible refine d_id ?_;first|refine d_passl rfl rfl rfl rfl ?_|refine d_runl rfl rfl rfl ?_|refine d_pul rfl rfl rfl rfl ?_|refine d_end hN (by apply Exists.intro;apply And.intro;(repeat' (first|apply FtI.nil|apply FI.nil|apply FI.cons|apply FtI.cons));kernel_rfl) ?_)|((first|(with_reducible first|refine a_opd rfl rfl fun K hK=>?_|refine d_opd rfl rfl fun K hKD=>?_|refine a_opn rfl rfl fun K hKN=>?_|refine d_opn rfl rfl fun K hKE=>?_|refine k_cond fun X Y hXX hYY=>?_|refine FN_new ?_)|(with_reducible refine a_id ?_;refine a_guard rfl rfl fun X Y hXX hYY=>?_)|(with_reducible refine d_id ?_;refine d_guard rfl rfl fun X Y hXX hYY=>?_));simp (disch:=first|decide|omega|(simp only [List.length_cons,List.length_nil];omega)) only [go_sem,beq_self_eq_true,↓tmL_cons,↓hpL_get hN,hpL_set hN,reduceIte,reduceCtorEq,Nat.reduceAdd,Nat.reduceLT,Nat.reduceLeDiff,Nat.reduceEqDiff,Nat.reduceSub])|(with_reducible refine And.intro (fun h=>?_) (fun h=>?_) <;> try (exfalso;omega))|(with_reducible refine k_reg tiOK hN rfl ?_ ?_;kernel_rfl)|(with_reducible refine k_drawn tiOK hN rfl ?_ ?_ ?_ ?_;(kernel_rfl);(kernel_rfl);(kernel_rfl))|(refine k_call (l1Copy_f ?_ ?_) ?_ rfl (fun _=>rfl) ?_)|(with_reducible first|exact Args_nil|refine Args_cons ?_ ?_|exact ag_c _|refine ag_agg ?_|exact ag_elA _|exact ag_el _ _|refine ag_fn ?_|exact ag_unn _)|exact ag_box hN rfl rfl|(refine ag_fz hN rfl ?_;first|exact RdLe.refl _|exact RdLe.unn _)|exact ag_nul rfl rfl rfl|(simp only [hpUp,List.map_nil])|(with_reducible refine FN_nil ?_)|(with_reducible refine And.intro ?_ ?_)|(refine prop_id ?_;omega)|(exact nm_ne hN (by decide))))
  all_goals try simp only [hdr,hdl]
  all_goals try (refine prop_id ?_;omega)
  · (refine ⟨k + 1,⟨?_,?_⟩,le_L hX hN [] ?_ ?_⟩;(try any_goals dsimp only);(repeat' (first|(with_reducible first|exact LEs.nil _|exact LTs.nil|exact LVs.nil|refine LEs.cons ?_ ?_|refine LVs.cons ?_ ?_|exact lv_any _|exact lv_c _|exact le_dead _|rfl|exact lv_el _ _|refine lv_agg ?_|exact lv_k _|refine lv_fn ?_)|refine LTs.cons rfl ?_ ?_|exact lv_sl hN _ rfl rfl rfl|exact lv_ad hN _ rfl rfl rfl|exact lv_fzb hN _ rfl rfl rfl (Or.inr rfl)|(refine lv_fz hN _ rfl rfl (by first|exact Or.inr rfl|exact Or.inl rfl) ?_;first|exact RdLe.refl _|exact RdLe.unn _)|refine le_box hN rfl ?_|refine le_arr hN rfl rfl ?_|exact lv_nul hN _ rfl rfl|exact le_new hN rfl rfl rfl rfl|(with_reducible first|refine lv_eq ?_|refine congrArg C.B ?_|refine congrArg C.I ?_|refine congrArg C.R ?_|refine congrArg (C.int _) ?_|refine congrArg C.bool ?_)));(try (any_goals (first|(with_reducible rfl)|(refine prop_id ?_;omega)))))
    exact ⟨by omega,all_succ ho (by assumption)⟩
  · (refine ret_X hN [] (by decide) (.inr rfl) (by first|exact resV_tmp rfl rfl|exact resV_cell hN rfl rfl rfl rfl|exact resV_cell2 hN rfl rfl rfl rfl rfl|(simp (disch:=first|decide|omega|(simp only [List.length_cons,List.length_nil];omega)) only [resV,resL,resA,boxA,go_sem,beq_self_eq_true,↓tmL_cons,↓hpL_get hN,hpL_set hN,reduceIte,reduceCtorEq,Nat.reduceAdd,Nat.reduceLT,Nat.reduceLeDiff,Nat.reduceEqDiff,Nat.reduceSub];rfl)|rfl) ?_ fun νs hνs=>?_;(repeat' (first|exact Gone.nil|(refine Gone.cons rfl rfl ?_ ?_)|(with_reducible refine sv_tup ?_)|(with_reducible refine sv_agg ?_)|(with_reducible refine SVs.cons ?_ ?_)|(with_reducible exact SVs.nil)|(simp only [List.drop,List.take])|(simp (disch:=first|decide|omega) only [↓tmL_cons,reduceIte,reduceCtorEq,Nat.reduceEqDiff])|(with_reducible exact sv_c _)|(with_reducible exact sv_unn _)|(exact sv_nul rfl rfl rfl)|(exact sv_sl 0 (by simp) rfl rfl)|(refine sv_fz hN rfl (nm_not hN (by decide)) ?_)|(with_reducible refine sv_eq ?_)|(with_reducible rfl)|(with_reducible refine congrArg C.B ?_)|(with_reducible refine congrArg C.I ?_)|(with_reducible refine congrArg C.R ?_)|(with_reducible refine congrArg (C.int _) ?_)|(with_reducible refine congrArg C.bool ?_)|(refine prop_id ?_;omega))))
    rw [insI_at hk ho (fun _=>by assumption),if_pos ⟨by omega,by assumption⟩]
  · have hne : ¬ gi xs k = x:=beq_eq_false_iff_ne.1 (by assumption)
    (refine ret_X hN [] (by decide) (.inr rfl) (by first|exact resV_tmp rfl rfl|exact resV_cell hN rfl rfl rfl rfl|exact resV_cell2 hN rfl rfl rfl rfl rfl|(simp (disch:=first|decide|omega|(simp only [List.length_cons,List.length_nil];omega)) only [resV,resL,resA,boxA,go_sem,beq_self_eq_true,↓tmL_cons,↓hpL_get hN,hpL_set hN,reduceIte,reduceCtorEq,Nat.reduceAdd,Nat.reduceLT,Nat.reduceLeDiff,Nat.reduceEqDiff,Nat.reduceSub];rfl)|rfl) ?_ fun νs hνs=>?_;(repeat' (first|exact Gone.nil|(refine Gone.cons rfl rfl ?_ ?_)|(with_reducible refine sv_tup ?_)|(with_reducible refine sv_agg ?_)|(with_reducible refine SVs.cons ?_ ?_)|(with_reducible exact SVs.nil)|(simp only [List.drop,List.take])|(simp (disch:=first|decide|omega) only [↓tmL_cons,reduceIte,reduceCtorEq,Nat.reduceEqDiff])|(with_reducible exact sv_c _)|(with_reducible exact sv_unn _)|(exact sv_nul rfl rfl rfl)|(exact sv_sl 0 (by simp) rfl rfl)|(refine sv_fz hN rfl (nm_not hN (by decide)) ?_)|(with_reducible refine sv_eq ?_)|(with_reducible rfl)|(with_reducible refine congrArg C.B ?_)|(with_reducible refine congrArg C.I ?_)|(with_reducible refine congrArg C.R ?_)|(with_reducible refine congrArg (C.int _) ?_)|(with_reducible refine congrArg C.bool ?_)|(refine prop_id ?_;omega))))
    rw [insI_at hk ho (fun _=>by assumption),if_neg fun h=>hne h.2];simp
  · (refine ret_X hN [] (by decide) (.inr rfl) (by first|exact resV_tmp rfl rfl|exact resV_cell hN rfl rfl rfl rfl|exact resV_cell2 hN rfl rfl rfl rfl rfl|(simp (disch:=first|decide|omega|(simp only [List.length_cons,List.length_nil];omega)) only [resV,resL,resA,boxA,go_sem,beq_self_eq_true,↓tmL_cons,↓hpL_get hN,hpL_set hN,reduceIte,reduceCtorEq,Nat.reduceAdd,Nat.reduceLT,Nat.reduceLeDiff,Nat.reduceEqDiff,Nat.reduceSub];rfl)|rfl) ?_ fun νs hνs=>?_;(repeat' (first|exact Gone.nil|(refine Gone.cons rfl rfl ?_ ?_)|(with_reducible refine sv_tup ?_)|(with_reducible refine sv_agg ?_)|(with_reducible refine SVs.cons ?_ ?_)|(with_reducible exact SVs.nil)|(simp only [List.drop,List.take])|(simp (disch:=first|decide|omega) only [↓tmL_cons,reduceIte,reduceCtorEq,Nat.reduceEqDiff])|(with_reducible exact sv_c _)|(with_reducible exact sv_unn _)|(exact sv_nul rfl rfl rfl)|(exact sv_sl 0 (by simp) rfl rfl)|(refine sv_fz hN rfl (nm_not hN (by decide)) ?_)|(with_reducible refine sv_eq ?_)|(with_reducible rfl)|(with_reducible refine congrArg C.B ?_)|(with_reducible refine congrArg C.I ?_)|(with_reducible refine congrArg C.R ?_)|(with_reducible refine congrArg (C.int _) ?_)|(with_reducible refine congrArg C.bool ?_)|(refine prop_id ?_;omega))))
    rw [insI_at hk ho (fun h=>absurd h (by omega)),if_neg fun h=>by omega];simp
def bothI (a b : List Int) : List Int:=b.foldl insI a
theorem mem_bothI {z : Int} : ∀ {b a : List Int},z ∈ bothI a b ↔ z ∈ a ∨ z ∈ b:=by
  intro b
  induction b with
  | nil => intro a; simp [bothI]
  | cons y ys ih =>
    intro a
    show z ∈ bothI (insI a y) ys ↔ _
    rw [ih,mem_insI,List.mem_cons]
    exact ⟨fun h=>h.elim (fun h=>h.elim (fun h=>.inr (.inl h)) .inl) fun h=>.inr (.inr h),fun h=>h.elim (fun h=>.inl (.inr h)) fun h=>h.elim (fun h=>.inl (.inl h)) .inr⟩
theorem isSet_bothI {m : Int} : ∀ {b a : List Int},IsSet a m → IsSet b m → IsSet (bothI a b) m:=by
  intro b
  induction b with
  | nil => intro a h _; exact h
  | cons y ys ih =>
    intro a h k
    obtain ⟨h1,h2,_⟩:=isSet_cons.1 k
    exact ih (isSet_insI h1.1 h1.2 h) h2
theorem bothI_len : ∀ (b a : List Int),(bothI a b).length ≤ a.length + b.length:=by
  intro b
  induction b with
  | nil => intro a; exact Nat.le_refl _
  | cons y ys ih =>
    intro a
    have h1:=ih (insI a y)
    have h2:=insI_len y a
    show (bothI (insI a y) ys).length ≤ _
    simp;omega
theorem take_foldl {a b : List Int} {k : Nat} (h : k < b.length) : (b.take (k + 1)).foldl insI a = insI ((b.take k).foldl insI a) (gi b k):=by
  rw [List.take_succ_eq_append_getElem h,List.foldl_append,gi_get h];rfl
theorem l2Both_f (a b : List Int) : FunSpec Try.prog 149 [.c (.I a),.c (.I b)] [] (fun _=>.c (.bool (tf (IsSet a 256 ∧ IsSet b 256)))):=by
  (refine f_intro tiOK Try.func149 rfl rfl (by kernel_rfl) fun hp0 ν hX hN=>?_;simp only [numT,Nat.reduceAdd])
  (repeat' (first|(with_reducible first|(refine hK _ _ ?_;clear hK K)|(refine hKN _ ?_;clear hKN K)|(refine hKD _ _ _ ?_;clear hKD K)|(refine hKE _ _ ?_;clear hKE K)|refine k_seq ?_|refine n_sq ?_|refine a_nil ?_|refine k_label ?_|refine k_block ?_|refine n_bk ?_|refine k_exit ?_|refine n_sqx ?_|refine n_kx ?_|refine n_bkx ?_|refine n_bkn rfl ?_|refine k_ret ?_|refine n_sqr ?_|refine n_kr ?_|refine n_bkr ?_|refine k_skip ?_|refine n_k ?_|refine n_end ?_|(refine hXX ?_;clear hXX X hYY Y)|(refine hYY ?_;clear hXX X hYY Y))|(with_reducible refine k_cid ?_;first|refine k_ctl rfl ?_|refine k_cfl rfl ?_)|(with_reducible refine a_id ?_;first|refine a_passl rfl rfl rfl rfl ?_|refine a_runl rfl rfl rfl ?_|refine a_pul rfl rfl rfl rfl ?_)|(with_reducible refine d_id ?_;first|refine d_passl rfl rfl rfl rfl ?_|refine d_runl rfl rfl rfl ?_|refine d_pul rfl rfl rfl rfl ?_|refine d_end hN (by apply Exists.intro;apply And.intro;(repeat' (first|apply FtI.nil|apply FI.nil|apply FI.cons|apply FtI.cons));kernel_rfl) ?_)|((first|(with_reducible first|refine a_opd rfl rfl fun K hK=>?_|refine d_opd rfl rfl fun K hKD=>?_|refine a_opn rfl rfl fun K hKN=>?_|refine d_opn rfl rfl fun K hKE=>?_|refine k_cond fun X Y hXX hYY=>?_|refine FN_new ?_)|(with_reducible refine a_id ?_;refine a_guard rfl rfl fun X Y hXX hYY=>?_)|(with_reducible refine d_id ?_;refine d_guard rfl rfl fun X Y hXX hYY=>?_));simp (disch:=first|decide|omega|(simp only [List.length_cons,List.length_nil];omega)) only [go_sem,beq_self_eq_true,↓tmL_cons,↓hpL_get hN,hpL_set hN,reduceIte,reduceCtorEq,Nat.reduceAdd,Nat.reduceLT,Nat.reduceLeDiff,Nat.reduceEqDiff,Nat.reduceSub])|(with_reducible refine And.intro (fun h=>?_) (fun h=>?_) <;> try (exfalso;omega))|(with_reducible refine k_reg tiOK hN rfl ?_ ?_;kernel_rfl)|(with_reducible refine k_drawn tiOK hN rfl ?_ ?_ ?_ ?_;(kernel_rfl);(kernel_rfl);(kernel_rfl))|(refine k_call (setOk_f ?_ ?_) ?_ rfl (fun _=>rfl) ?_)|(with_reducible first|exact Args_nil|refine Args_cons ?_ ?_|exact ag_c _|refine ag_agg ?_|exact ag_elA _|exact ag_el _ _|refine ag_fn ?_|exact ag_unn _)|exact ag_box hN rfl rfl|(refine ag_fz hN rfl ?_;first|exact RdLe.refl _|exact RdLe.unn _)|exact ag_nul rfl rfl rfl|(simp only [hpUp,List.map_nil])|(with_reducible refine FN_nil ?_)|(with_reducible refine And.intro ?_ ?_)|(refine prop_id ?_;omega)|(exact nm_ne hN (by decide))))
  all_goals (refine ret_c (.inr rfl) (by first|rfl|(simp (disch:=first|decide|omega|(simp only [List.length_cons,List.length_nil];omega)) only [resV,resL,resA,boxA,go_sem,beq_self_eq_true,↓tmL_cons,↓hpL_get hN,hpL_set hN,reduceIte,reduceCtorEq,Nat.reduceAdd,Nat.reduceLT,Nat.reduceLeDiff,Nat.reduceEqDiff,Nat.reduceSub];rfl)) ?_)
  all_goals refine congrArg C.bool ?_
  · exact tf_congr ⟨fun e=>⟨And.right (by assumption),e.2⟩,fun e=>⟨by omega,e.2⟩⟩
  · exact (tf_false fun e=>(by assumption : ¬ ((0 ≤ (256 : Int) ∧ (256 : Int) ≤ 256) ∧ IsSet a 256)) ⟨by omega,e.1⟩).symm
theorem bothOf_sf (a b : List Int) (ha : IsSet a 256) (hb : IsSet b 256) : FunSpec Try.prog 71 [.c (.I a),.c (.I b)] [] (fun _=>.c (.I (bothI a b))):=by
  have hla:=isSet_len ha (by omega)
  have hlb:=isSet_len hb (by omega)
  have hok:=l2Both_f a b
  rw [tf_true ⟨ha,hb⟩] at hok
  (refine f_intro tiOK Try.func71 rfl rfl (by kernel_rfl) fun hp0 ν hX hN=>?_;simp only [numT,Nat.reduceAdd])
  (repeat' (first|(with_reducible first|(refine hK _ _ ?_;clear hK K)|(refine hKN _ ?_;clear hKN K)|(refine hKD _ _ _ ?_;clear hKD K)|(refine hKE _ _ ?_;clear hKE K)|refine k_seq ?_|refine n_sq ?_|refine a_nil ?_|refine k_label ?_|refine k_block ?_|refine n_bk ?_|refine k_exit ?_|refine n_sqx ?_|refine n_kx ?_|refine n_bkx ?_|refine n_bkn rfl ?_|refine k_ret ?_|refine n_sqr ?_|refine n_kr ?_|refine n_bkr ?_|refine k_skip ?_|refine n_k ?_|refine n_end ?_|(refine hXX ?_;clear hXX X hYY Y)|(refine hYY ?_;clear hXX X hYY Y))|(with_reducible refine k_cid ?_;first|refine k_ctl rfl ?_|refine k_cfl rfl ?_)|(with_reducible refine a_id ?_;first|refine a_passl rfl rfl rfl rfl ?_|refine a_runl rfl rfl rfl ?_|refine a_pul rfl rfl rfl rfl ?_)|(with_reducible refine d_id ?_;first|refine d_passl rfl rfl rfl rfl ?_|refine d_runl rfl rfl rfl ?_|refine d_pul rfl rfl rfl rfl ?_|refine d_end hN (by apply Exists.intro;apply And.intro;(repeat' (first|apply FtI.nil|apply FI.nil|apply FI.cons|apply FtI.cons));kernel_rfl) ?_)|((first|(with_reducible first|refine a_opd rfl rfl fun K hK=>?_|refine d_opd rfl rfl fun K hKD=>?_|refine a_opn rfl rfl fun K hKN=>?_|refine d_opn rfl rfl fun K hKE=>?_|refine k_cond fun X Y hXX hYY=>?_|refine FN_new ?_)|(with_reducible refine a_id ?_;refine a_guard rfl rfl fun X Y hXX hYY=>?_)|(with_reducible refine d_id ?_;refine d_guard rfl rfl fun X Y hXX hYY=>?_));simp (disch:=first|decide|omega|(simp only [List.length_cons,List.length_nil];omega)) only [go_sem,beq_self_eq_true,↓tmL_cons,↓hpL_get hN,hpL_set hN,reduceIte,reduceCtorEq,Nat.reduceAdd,Nat.reduceLT,Nat.reduceLeDiff,Nat.reduceEqDiff,Nat.reduceSub])|(with_reducible refine And.intro (fun h=>?_) (fun h=>?_) <;> try (exfalso;omega))|(with_reducible refine k_reg tiOK hN rfl ?_ ?_;kernel_rfl)|(with_reducible refine k_drawn tiOK hN rfl ?_ ?_ ?_ ?_;(kernel_rfl);(kernel_rfl);(kernel_rfl))|(refine k_call hok ?_ rfl (fun _=>rfl) ?_)|(refine k_call (l1Copy_f a (by omega)) ?_ rfl (fun _=>rfl) ?_;focus ((repeat' (first|(with_reducible first|exact Args_nil|refine Args_cons ?_ ?_|exact ag_c _|refine ag_agg ?_|exact ag_elA _|exact ag_el _ _|refine ag_fn ?_|exact ag_unn _)|exact ag_box hN rfl rfl|(refine ag_fz hN rfl ?_;first|exact RdLe.refl _|exact RdLe.unn _)|exact ag_nul rfl rfl rfl));done))|(with_reducible first|exact Args_nil|refine Args_cons ?_ ?_|exact ag_c _|refine ag_agg ?_|exact ag_elA _|exact ag_el _ _|refine ag_fn ?_|exact ag_unn _)|exact ag_box hN rfl rfl|(refine ag_fz hN rfl ?_;first|exact RdLe.refl _|exact RdLe.unn _)|exact ag_nul rfl rfl rfl|(simp only [hpUp,List.map_nil])|(with_reducible refine FN_nil ?_)|(with_reducible refine And.intro ?_ ?_)|(refine prop_id ?_;omega)|(exact nm_ne hN (by decide))))
  (refine k_loop (fun (k : Nat)=>(tmL [(6,.c (.int .i64 k)),(5,.c (.I ((b.take k).foldl insI a))),(1,.c (.I b))],hpL hp0 ν [])) (fun (k : Nat)=>k ≤ b.length) (fun (k : Nat)=>b.length - k) ⟨0,?_,le_L hX hN [] ?_ ?_⟩ ?_;(repeat' (first|(with_reducible first|exact LEs.nil _|exact LTs.nil|exact LVs.nil|refine LEs.cons ?_ ?_|refine LVs.cons ?_ ?_|exact lv_any _|exact lv_c _|exact le_dead _|rfl|exact lv_el _ _|refine lv_agg ?_|exact lv_k _|refine lv_fn ?_)|refine LTs.cons rfl ?_ ?_|exact lv_sl hN _ rfl rfl rfl|exact lv_ad hN _ rfl rfl rfl|exact lv_fzb hN _ rfl rfl rfl (Or.inr rfl)|(refine lv_fz hN _ rfl rfl (by first|exact Or.inr rfl|exact Or.inl rfl) ?_;first|exact RdLe.refl _|exact RdLe.unn _)|refine le_box hN rfl ?_|refine le_arr hN rfl rfl ?_|exact lv_nul hN _ rfl rfl|exact le_new hN rfl rfl rfl rfl|(with_reducible first|refine lv_eq ?_|refine congrArg C.B ?_|refine congrArg C.I ?_|refine congrArg C.R ?_|refine congrArg (C.int _) ?_|refine congrArg C.bool ?_)));(try (any_goals (first|(with_reducible rfl)|(refine prop_id ?_;omega)))))
  intro k hk
  have hlf:=bothI_len (b.take k) a
  have hlt : (b.take k).length ≤ k:=by simp;omega
  have e : bothI a (b.take k) = (b.take k).foldl insI a:=rfl
  rw [e] at hlf
  (repeat' (first|(with_reducible first|(refine hK _ _ ?_;clear hK K)|(refine hKN _ ?_;clear hKN K)|(refine hKD _ _ _ ?_;clear hKD K)|(refine hKE _ _ ?_;clear hKE K)|refine k_seq ?_|refine n_sq ?_|refine a_nil ?_|refine k_label ?_|refine k_block ?_|refine n_bk ?_|refine k_exit ?_|refine n_sqx ?_|refine n_kx ?_|refine n_bkx ?_|refine n_bkn rfl ?_|refine k_ret ?_|refine n_sqr ?_|refine n_kr ?_|refine n_bkr ?_|refine k_skip ?_|refine n_k ?_|refine n_end ?_|(refine hXX ?_;clear hXX X hYY Y)|(refine hYY ?_;clear hXX X hYY Y))|(with_reducible refine k_cid ?_;first|refine k_ctl rfl ?_|refine k_cfl rfl ?_)|(with_reducible refine a_id ?_;first|refine a_passl rfl rfl rfl rfl ?_|refine a_runl rfl rfl rfl ?_|refine a_pul rfl rfl rfl rfl ?_)|(with_reducible refine d_id ?_;first|refine d_passl rfl rfl rfl rfl ?_|refine d_runl rfl rfl rfl ?_|refine d_pul rfl rfl rfl rfl ?_|refine d_end hN (by apply Exists.intro;apply And.intro;(repeat' (first|apply FtI.nil|apply FI.nil|apply FI.cons|apply FtI.cons));kernel_rfl) ?_)|((first|(with_reducible first|refine a_opd rfl rfl fun K hK=>?_|refine d_opd rfl rfl fun K hKD=>?_|refine a_opn rfl rfl fun K hKN=>?_|refine d_opn rfl rfl fun K hKE=>?_|refine k_cond fun X Y hXX hYY=>?_|refine FN_new ?_)|(with_reducible refine a_id ?_;refine a_guard rfl rfl fun X Y hXX hYY=>?_)|(with_reducible refine d_id ?_;refine d_guard rfl rfl fun X Y hXX hYY=>?_));simp (disch:=first|decide|omega|(simp only [List.length_cons,List.length_nil];omega)) only [go_sem,beq_self_eq_true,↓tmL_cons,↓hpL_get hN,hpL_set hN,reduceIte,reduceCtorEq,Nat.reduceAdd,Nat.reduceLT,Nat.reduceLeDiff,Nat.reduceEqDiff,Nat.reduceSub])|(with_reducible refine And.intro (fun h=>?_) (fun h=>?_) <;> try (exfalso;omega))|(with_reducible refine k_reg tiOK hN rfl ?_ ?_;kernel_rfl)|(with_reducible refine k_drawn tiOK hN rfl ?_ ?_ ?_ ?_;(kernel_rfl);(kernel_rfl);(kernel_rfl))|(refine k_calld (l1Into_f ((b.take k).foldl insI a) (gi b k) (by omega)) ?_ rfl rfl ?_;focus ((repeat' (first|(with_reducible first|exact Args_nil|refine Args_cons ?_ ?_|exact ag_c _|refine ag_agg ?_|exact ag_elA _|exact ag_el _ _|refine ag_fn ?_|exact ag_unn _)|exact ag_box hN rfl rfl|(refine ag_fz hN rfl ?_;first|exact RdLe.refl _|exact RdLe.unn _)|exact ag_nul rfl rfl rfl));done))|(with_reducible first|exact Args_nil|refine Args_cons ?_ ?_|exact ag_c _|refine ag_agg ?_|exact ag_elA _|exact ag_el _ _|refine ag_fn ?_|exact ag_unn _)|exact ag_box hN rfl rfl|(refine ag_fz hN rfl ?_;first|exact RdLe.refl _|exact RdLe.unn _)|exact ag_nul rfl rfl rfl|(simp only [hpUp,List.map_nil])|(with_reducible refine FN_nil ?_)|(with_reducible refine And.intro ?_ ?_)|(refine prop_id ?_;omega)|(exact nm_ne hN (by decide))))
  · (refine ⟨k + 1,⟨?_,?_⟩,le_L hX hN [] ?_ ?_⟩;(try any_goals dsimp only);(repeat' (first|(with_reducible first|exact LEs.nil _|exact LTs.nil|exact LVs.nil|refine LEs.cons ?_ ?_|refine LVs.cons ?_ ?_|exact lv_any _|exact lv_c _|exact le_dead _|rfl|exact lv_el _ _|refine lv_agg ?_|exact lv_k _|refine lv_fn ?_)|refine LTs.cons rfl ?_ ?_|exact lv_sl hN _ rfl rfl rfl|exact lv_ad hN _ rfl rfl rfl|exact lv_fzb hN _ rfl rfl rfl (Or.inr rfl)|(refine lv_fz hN _ rfl rfl (by first|exact Or.inr rfl|exact Or.inl rfl) ?_;first|exact RdLe.refl _|exact RdLe.unn _)|refine le_box hN rfl ?_|refine le_arr hN rfl rfl ?_|exact lv_nul hN _ rfl rfl|exact le_new hN rfl rfl rfl rfl|(with_reducible first|refine lv_eq ?_|refine congrArg C.B ?_|refine congrArg C.I ?_|refine congrArg C.R ?_|refine congrArg (C.int _) ?_|refine congrArg C.bool ?_)));(try (any_goals (first|(with_reducible rfl)|(refine prop_id ?_;omega)))))
    exact (take_foldl (a:=a) (b:=b) (k:=k) (by omega)).symm
  · (refine ret_X hN [] (by decide) (.inr rfl) (by first|exact resV_tmp rfl rfl|exact resV_cell hN rfl rfl rfl rfl|exact resV_cell2 hN rfl rfl rfl rfl rfl|(simp (disch:=first|decide|omega|(simp only [List.length_cons,List.length_nil];omega)) only [resV,resL,resA,boxA,go_sem,beq_self_eq_true,↓tmL_cons,↓hpL_get hN,hpL_set hN,reduceIte,reduceCtorEq,Nat.reduceAdd,Nat.reduceLT,Nat.reduceLeDiff,Nat.reduceEqDiff,Nat.reduceSub];rfl)|rfl) ?_ fun νs hνs=>?_;(repeat' (first|exact Gone.nil|(refine Gone.cons rfl rfl ?_ ?_)|(with_reducible refine sv_tup ?_)|(with_reducible refine sv_agg ?_)|(with_reducible refine SVs.cons ?_ ?_)|(with_reducible exact SVs.nil)|(simp only [List.drop,List.take])|(simp (disch:=first|decide|omega) only [↓tmL_cons,reduceIte,reduceCtorEq,Nat.reduceEqDiff])|(with_reducible exact sv_c _)|(with_reducible exact sv_unn _)|(exact sv_nul rfl rfl rfl)|(exact sv_sl 0 (by simp) rfl rfl)|(refine sv_fz hN rfl (nm_not hN (by decide)) ?_)|(with_reducible refine sv_eq ?_)|(with_reducible rfl)|(with_reducible refine congrArg C.B ?_)|(with_reducible refine congrArg C.I ?_)|(with_reducible refine congrArg C.R ?_)|(with_reducible refine congrArg (C.int _) ?_)|(with_reducible refine congrArg C.bool ?_)|(refine prop_id ?_;omega))))
    rw [show k = b.length by omega,List.take_length];rfl
end Go.Proofs.Ytfaefmabjjndeaa
