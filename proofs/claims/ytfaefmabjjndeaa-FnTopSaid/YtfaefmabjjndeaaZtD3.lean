/-
  The games, the plans that the dice draw.
-/
import Derived.Test.YtfaefmabjjndeaaZtKf
import Derived.Test.YtfaefmabjjndeaaZtD1
import Derived.Test.YtfaefmabjjndeaaZtD2
namespace Go.Proofs.Ytfaefmabjjndeaa
set_option linter.unusedVariables false
set_option linter.unusedSimpArgs false
open Go.RowKit
attribute [local irreducible] FunSpec CallR Aw Le
def rowGo (n : Int) : Nat → Dc → List Int → List Int × Dc
  | 0, d, r => (r, d)
  | k + 1, d, r => rowGo n k d.nxt (bothI r [d.val n])
def gameGo (n pm : Int) : Nat → Dc → List Int → List (List Int) → List Int → Pa × Dc
  | 0, d, o, x, p => (⟨⟨o, x⟩, p⟩, d)
  | k + 1, d, o, x, p => gameGo n pm k (rowGo n (1 + d.val 3).toNat d.nxt []).2.nxt.nxt (o ++ [(rowGo n (1 + d.val 3).toNat d.nxt []).2.val 2]) (x ++ [(rowGo n (1 + d.val 3).toNat d.nxt []).1]) (p ++ [(rowGo n (1 + d.val 3).toNat d.nxt []).2.nxt.val pm])
def gameD (d : Dc) (most pm : Int) : Pa × Dc:=gameGo (1 + d.val most) pm (1 + d.val most).toNat d.nxt [] [] []
theorem isSet_nil (n : Int) : IsSet [] n:=fun k hk=>absurd hk (Nat.not_lt_zero _)
theorem isSet_one {x n : Int} (h0 : 0 ≤ x) (h1 : x < n) : IsSet [x] n:=isSet_cons.2 ⟨⟨h0,h1⟩,isSet_nil n,fun z hz=>by simp at hz⟩
theorem rowGo_ok {n : Int} (hn : 1 ≤ n) : ∀ (k : Nat) (d : Dc) (r : List Int),IsSet r n → IsSet (rowGo n k d r).1 n ∧ (rowGo n k d r).1.length ≤ r.length + k ∧ (0 < k ∨ r ≠ [] → 1 ≤ (rowGo n k d r).1.length):=by
  intro k
  induction k with
  | zero => intro d r h; exact ⟨h, Nat.le_refl _, fun h => by rcases h with h | h; (· omega); exact List.length_pos_iff.2 h⟩
  | succ k ih =>
    intro d r h
    have hb:=d.bnd hn
    obtain ⟨h1,h2,h3⟩:=ih d.nxt (bothI r [d.val n]) (isSet_bothI h (isSet_one hb.1 hb.2))
    have h4:=bothI_len [d.val n] r
    refine ⟨h1,by show (rowGo n k d.nxt (bothI r [d.val n])).1.length ≤ _;simp at h4;omega,fun _=>h3 (.inr fun e=>?_)⟩
    have : d.val n ∈ bothI r [d.val n]:=mem_bothI.2 (.inr (by simp))
    rw [e] at this;cases this
structure GPart (n pm : Int) (o : List Int) (x : List (List Int)) (p : List Int) : Prop where
  l1 : x.length = o.length
  l2 : p.length = o.length
  at' : ∀ v,v < o.length → (0 ≤ gi o v ∧ gi o v ≤ 1) ∧ (1 ≤ (gr x v).length ∧ (gr x v).length ≤ 3 ∧ IsSet (gr x v) n) ∧ 0 ≤ gi p v ∧ gi p v < pm
theorem gr_snoc {xs : List (List Int)} {y : List Int} {v : Nat} (h : v ≤ xs.length) : gr (xs ++ [y]) v = if v < xs.length then gr xs v else y:=by
  unfold gr
  rw [getD_app]
  split
  · rfl
  · have : v - xs.length = 0:=by omega
    rw [this];rfl
theorem GPart.snoc {n pm : Int} {o : List Int} {x : List (List Int)} {p : List Int} (h : GPart n pm o x p) {a b : Int} {r : List Int} (ha : 0 ≤ a ∧ a ≤ 1) (hr : 1 ≤ r.length ∧ r.length ≤ 3 ∧ IsSet r n) (hb : 0 ≤ b ∧ b < pm) : GPart n pm (o ++ [a]) (x ++ [r]) (p ++ [b]):=by
  have h1:=h.l1
  have h2:=h.l2
  refine ⟨by simp [h1],by simp [h2],fun v hv=>?_⟩
  have hv' : v < o.length + 1:=by simpa using hv
  rw [gi_snoc,gi_snoc,gr_snoc (by omega),h1,h2]
  by_cases e : v < o.length
  · rw [if_pos e,if_pos e,if_pos e];exact h.at' v e
  · have : v = o.length:=by omega
    rw [if_neg e,if_neg e,if_neg e,if_pos this,if_pos this]
    exact ⟨ha,hr,hb⟩
theorem gameGo_ok {n pm : Int} (hn : 1 ≤ n) (hp : 1 ≤ pm) : ∀ (k : Nat) (d : Dc) (o : List Int) (x : List (List Int)) (p : List Int),GPart n pm o x p →
    GPart n pm (gameGo n pm k d o x p).1.ar.own (gameGo n pm k d o x p).1.ar.nxt (gameGo n pm k d o x p).1.prio ∧ (gameGo n pm k d o x p).1.ar.own.length = o.length + k:=by
  intro k
  induction k with
  | zero => intro d o x p h; exact ⟨h, rfl⟩
  | succ k ih =>
    intro d o x p h
    have hb:=d.bnd (n:=3) (by omega)
    obtain ⟨h1,h2,h3⟩:=rowGo_ok hn (1 + d.val 3).toNat d.nxt [] (isSet_nil n)
    have h4:=(rowGo n (1 + d.val 3).toNat d.nxt []).2.bnd (n:=2) (by omega)
    have h5:=(rowGo n (1 + d.val 3).toNat d.nxt []).2.nxt.bnd (n:=pm) hp
    have hl : ([] : List Int).length = 0:=rfl
    have:=ih (rowGo n (1 + d.val 3).toNat d.nxt []).2.nxt.nxt _ _ _ (h.snoc (a:=(rowGo n (1 + d.val 3).toNat d.nxt []).2.val 2) (b:=(rowGo n (1 + d.val 3).toNat d.nxt []).2.nxt.val pm) (r:=(rowGo n (1 + d.val 3).toNat d.nxt []).1) ⟨h4.1,by omega⟩ ⟨h3 (.inl (by omega)),by omega,h1⟩ h5)
    refine ⟨this.1,this.2.trans ?_⟩
    simp;omega
theorem gameD_ok {d : Dc} {most pm : Int} (hm : 1 ≤ most ∧ most ≤ 16) (hp : 1 ≤ pm ∧ pm ≤ 41) : PaOk (gameD d most pm).1 ∧ ((gameD d most pm).1.prio.length : Int) ≤ most ∧ ∀ v,v < (gameD d most pm).1.prio.length → gi (gameD d most pm).1.prio v < pm:=by
  have hb:=d.bnd hm.1
  obtain ⟨h1,h2⟩:=gameGo_ok (n:=1 + d.val most) (pm:=pm) (by omega) (by omega) (1 + d.val most).toNat d.nxt [] [] [] ⟨rfl,rfl,fun v hv=>absurd hv (Nat.not_lt_zero _)⟩
  have hl : ([] : List Int).length = 0:=rfl
  have e : gameD d most pm = gameGo (1 + d.val most) pm (1 + d.val most).toNat d.nxt [] [] []:=rfl
  rw [← e] at h1 h2
  have h3:=h1.l1
  have h4:=h1.l2
  refine ⟨⟨⟨by omega,by omega,h3,fun v hv=>?_⟩,h4,fun v hv=>?_⟩,by omega,fun v hv=>?_⟩
  · obtain ⟨a,⟨b1,b2,b3⟩,_⟩:=h1.at' v hv
    refine ⟨a.1,a.2,b1,by omega,fun j hj=>?_⟩
    have:=b3 j hj
    exact ⟨this.1,by omega,this.2.2⟩
  · obtain ⟨_,_,c1,c2⟩:=h1.at' v (by omega)
    exact ⟨c1,by omega⟩
  · exact (h1.at' v (by omega)).2.2.2
def rollH (bs : List Int) (seed : Int) : Nat → Int
  | 0 => IntKind.u64.wrap (IntKind.u64.wrap (seed * 7919) + IntKind.u64.wrap bs.length)
  | k + 1 => IntKind.u64.wrap (IntKind.u64.wrap (IntKind.u64.wrap (rollH bs seed k * 1099511628211) + IntKind.u64.wrap (gi bs k)) + 3)
def rollD (bs : List Int) (hl : bs.length ≤ 4096) (hb : ∀ j,j < bs.length → 0 ≤ gi bs j ∧ gi bs j ≤ 255) (seed : Int) : Dc:=⟨bs,0,rollH bs seed bs.length,hl,hb,by omega⟩
theorem roll_f (bs : List Int) (hl : bs.length ≤ 4096) (hb : ∀ j,j < bs.length → 0 ≤ gi bs j ∧ gi bs j ≤ 255) (seed : Int) : FunSpecM Try.prog 16 (fun _=>[.c (.Y bs),.c (.int .u64 seed)]) [] [] [diE (rollD bs hl hb seed)] (fun ns=>.ad (ns.getD 0 0) 0):=by
  (refine fun_introM tiOK Try.func16 rfl rfl (fun _=>by kernel_rfl) rfl rfl rfl rfl (by first|exact valOk_c _|exact valOk_sl (j:=0) (by simp) (by simp [Ent.kind])|exact valOk_ad (j:=0) (by simp) (by simp [Ent.kind])|exact valOk_flat rfl|exact valOk_any|exact valOk_k _) fun hp0 ν hX hN=>?_;simp only [numT,Nat.reduceAdd])
  (repeat' (first|(with_reducible first|(refine hK _ _ ?_;clear hK K)|(refine hKN _ ?_;clear hKN K)|(refine hKD _ _ _ ?_;clear hKD K)|(refine hKE _ _ ?_;clear hKE K)|refine k_seq ?_|refine n_sq ?_|refine a_nil ?_|refine k_label ?_|refine k_block ?_|refine n_bk ?_|refine k_exit ?_|refine n_sqx ?_|refine n_kx ?_|refine n_bkx ?_|refine n_bkn rfl ?_|refine k_ret ?_|refine n_sqr ?_|refine n_kr ?_|refine n_bkr ?_|refine k_skip ?_|refine n_k ?_|refine n_end ?_|(refine hXX ?_;clear hXX X hYY Y)|(refine hYY ?_;clear hXX X hYY Y))|(with_reducible refine k_cid ?_;first|refine k_ctl rfl ?_|refine k_cfl rfl ?_)|(with_reducible refine a_id ?_;first|refine a_passl rfl rfl rfl rfl ?_|refine a_runl rfl rfl rfl ?_|refine a_pul rfl rfl rfl rfl ?_)|(with_reducible refine d_id ?_;first|refine d_passl rfl rfl rfl rfl ?_|refine d_runl rfl rfl rfl ?_|refine d_pul rfl rfl rfl rfl ?_|refine d_end hN (by apply Exists.intro;apply And.intro;(repeat' (first|apply FtI.nil|apply FI.nil|apply FI.cons|apply FtI.cons));kernel_rfl) ?_)|((first|(with_reducible first|refine a_opd rfl rfl fun K hK=>?_|refine d_opd rfl rfl fun K hKD=>?_|refine a_opn rfl rfl fun K hKN=>?_|refine d_opn rfl rfl fun K hKE=>?_|refine k_cond fun X Y hXX hYY=>?_|refine FN_new ?_)|(with_reducible refine a_id ?_;refine a_guard rfl rfl fun X Y hXX hYY=>?_)|(with_reducible refine d_id ?_;refine d_guard rfl rfl fun X Y hXX hYY=>?_));simp (disch:=first|decide|omega|(simp only [List.length_cons,List.length_nil];omega)) only [go_sem,beq_self_eq_true,↓tmL_cons,↓hpL_get hN,hpL_set hN,reduceIte,reduceCtorEq,Nat.reduceAdd,Nat.reduceLT,Nat.reduceLeDiff,Nat.reduceEqDiff,Nat.reduceSub])|(with_reducible refine And.intro (fun h=>?_) (fun h=>?_) <;> try (exfalso;omega))|(with_reducible refine k_reg tiOK hN rfl ?_ ?_;kernel_rfl)|(with_reducible refine k_drawn tiOK hN rfl ?_ ?_ ?_ ?_;(kernel_rfl);(kernel_rfl);(kernel_rfl))|(with_reducible refine And.intro ?_ ?_)|(refine prop_id ?_;omega)|(exact nm_ne hN (by decide))))
  (refine k_loop (fun (k : Nat)=>(tmL [(6,.c (.int .i64 k)),(5,.ad (ν 0) 0),(0,.c (.Y bs))],hpL hp0 ν [.box [.c (.Y bs),.c (.int .i64 0),.c (.int .u64 (rollH bs seed k))]])) (fun (k : Nat)=>k ≤ bs.length) (fun (k : Nat)=>bs.length - k) ⟨0,?_,le_L hX hN [] ?_ ?_⟩ ?_;(repeat' (first|(with_reducible first|exact LEs.nil _|exact LTs.nil|exact LVs.nil|refine LEs.cons ?_ ?_|refine LVs.cons ?_ ?_|exact lv_any _|exact lv_c _|exact le_dead _|rfl|exact lv_el _ _|refine lv_agg ?_|exact lv_k _|refine lv_fn ?_)|refine LTs.cons rfl ?_ ?_|exact lv_sl hN _ rfl rfl rfl|exact lv_ad hN _ rfl rfl rfl|exact lv_fzb hN _ rfl rfl rfl (Or.inr rfl)|(refine lv_fz hN _ rfl rfl (by first|exact Or.inr rfl|exact Or.inl rfl) ?_;first|exact RdLe.refl _|exact RdLe.unn _)|refine le_box hN rfl ?_|refine le_arr hN rfl rfl ?_|exact lv_nul hN _ rfl rfl|exact le_new hN rfl rfl rfl rfl|(with_reducible first|refine lv_eq ?_|refine congrArg C.B ?_|refine congrArg C.I ?_|refine congrArg C.R ?_|refine congrArg (C.int _) ?_|refine congrArg C.bool ?_)));(try (any_goals (first|(with_reducible rfl)|(refine prop_id ?_;omega)))))
  · rfl
  intro k hk
  (repeat' (first|(with_reducible first|(refine hK _ _ ?_;clear hK K)|(refine hKN _ ?_;clear hKN K)|(refine hKD _ _ _ ?_;clear hKD K)|(refine hKE _ _ ?_;clear hKE K)|refine k_seq ?_|refine n_sq ?_|refine a_nil ?_|refine k_label ?_|refine k_block ?_|refine n_bk ?_|refine k_exit ?_|refine n_sqx ?_|refine n_kx ?_|refine n_bkx ?_|refine n_bkn rfl ?_|refine k_ret ?_|refine n_sqr ?_|refine n_kr ?_|refine n_bkr ?_|refine k_skip ?_|refine n_k ?_|refine n_end ?_|(refine hXX ?_;clear hXX X hYY Y)|(refine hYY ?_;clear hXX X hYY Y))|(with_reducible refine k_cid ?_;first|refine k_ctl rfl ?_|refine k_cfl rfl ?_)|(with_reducible refine a_id ?_;first|refine a_passl rfl rfl rfl rfl ?_|refine a_runl rfl rfl rfl ?_|refine a_pul rfl rfl rfl rfl ?_)|(with_reducible refine d_id ?_;first|refine d_passl rfl rfl rfl rfl ?_|refine d_runl rfl rfl rfl ?_|refine d_pul rfl rfl rfl rfl ?_|refine d_end hN (by apply Exists.intro;apply And.intro;(repeat' (first|apply FtI.nil|apply FI.nil|apply FI.cons|apply FtI.cons));kernel_rfl) ?_)|((first|(with_reducible first|refine a_opd rfl rfl fun K hK=>?_|refine d_opd rfl rfl fun K hKD=>?_|refine a_opn rfl rfl fun K hKN=>?_|refine d_opn rfl rfl fun K hKE=>?_|refine k_cond fun X Y hXX hYY=>?_|refine FN_new ?_)|(with_reducible refine a_id ?_;refine a_guard rfl rfl fun X Y hXX hYY=>?_)|(with_reducible refine d_id ?_;refine d_guard rfl rfl fun X Y hXX hYY=>?_));simp (disch:=first|decide|omega|(simp only [List.length_cons,List.length_nil];omega)) only [go_sem,beq_self_eq_true,↓tmL_cons,↓hpL_get hN,hpL_set hN,reduceIte,reduceCtorEq,Nat.reduceAdd,Nat.reduceLT,Nat.reduceLeDiff,Nat.reduceEqDiff,Nat.reduceSub])|(with_reducible refine And.intro (fun h=>?_) (fun h=>?_) <;> try (exfalso;omega))|(with_reducible refine k_reg tiOK hN rfl ?_ ?_;kernel_rfl)|(with_reducible refine k_drawn tiOK hN rfl ?_ ?_ ?_ ?_;(kernel_rfl);(kernel_rfl);(kernel_rfl))|(with_reducible refine And.intro ?_ ?_)|(refine prop_id ?_;omega)|(exact nm_ne hN (by decide))))
  · (refine ⟨k + 1,⟨?_,?_⟩,le_L hX hN [] ?_ ?_⟩;(try any_goals dsimp only);(repeat' (first|(with_reducible first|exact LEs.nil _|exact LTs.nil|exact LVs.nil|refine LEs.cons ?_ ?_|refine LVs.cons ?_ ?_|exact lv_any _|exact lv_c _|exact le_dead _|rfl|exact lv_el _ _|refine lv_agg ?_|exact lv_k _|refine lv_fn ?_)|refine LTs.cons rfl ?_ ?_|exact lv_sl hN _ rfl rfl rfl|exact lv_ad hN _ rfl rfl rfl|exact lv_fzb hN _ rfl rfl rfl (Or.inr rfl)|(refine lv_fz hN _ rfl rfl (by first|exact Or.inr rfl|exact Or.inl rfl) ?_;first|exact RdLe.refl _|exact RdLe.unn _)|refine le_box hN rfl ?_|refine le_arr hN rfl rfl ?_|exact lv_nul hN _ rfl rfl|exact le_new hN rfl rfl rfl rfl|(with_reducible first|refine lv_eq ?_|refine congrArg C.B ?_|refine congrArg C.I ?_|refine congrArg C.R ?_|refine congrArg (C.int _) ?_|refine congrArg C.bool ?_)));(try (any_goals (first|(with_reducible rfl)|(refine prop_id ?_;omega)))))
    rfl
  · (refine ⟨.inr rfl,_,(by first|exact resV_tmp rfl rfl|exact resV_cell hN rfl rfl rfl rfl|exact resV_cell2 hN rfl rfl rfl rfl rfl|(simp (disch:=first|decide|omega|(simp only [List.length_cons,List.length_nil];omega)) only [resV,resL,resA,boxA,go_sem,beq_self_eq_true,↓tmL_cons,↓hpL_get hN,hpL_set hN,reduceIte,reduceCtorEq,Nat.reduceAdd,Nat.reduceLT,Nat.reduceLeDiff,Nat.reduceEqDiff,Nat.reduceSub];rfl)|rfl),[],_,rfl,?_,rfl,?_⟩;(all_goals try simp only [List.drop,List.take,List.cons_append,List.nil_append,nmL,List.length_cons,List.length_nil,Nat.reduceAdd,List.getD_cons_zero]);(repeat' (first|(with_reducible first|exact LEs.nil _|exact LTs.nil|exact LVs.nil|refine LEs.cons ?_ ?_|refine LVs.cons ?_ ?_|exact lv_any _|exact lv_c _|exact le_dead _|rfl|exact lv_el _ _|refine lv_agg ?_|exact lv_k _|refine lv_fn ?_)|refine LTs.cons rfl ?_ ?_|exact lv_sl hN _ rfl rfl rfl|exact lv_ad hN _ rfl rfl rfl|exact lv_fzb hN _ rfl rfl rfl (Or.inr rfl)|(refine lv_fz hN _ rfl rfl (by first|exact Or.inr rfl|exact Or.inl rfl) ?_;first|exact RdLe.refl _|exact RdLe.unn _)|refine le_box hN rfl ?_|refine le_arr hN rfl rfl ?_|exact lv_nul hN _ rfl rfl|exact le_new hN rfl rfl rfl rfl|(with_reducible first|refine lv_eq ?_|refine congrArg C.B ?_|refine congrArg C.I ?_|refine congrArg C.R ?_|refine congrArg (C.int _) ?_|refine congrArg C.bool ?_))))
    all_goals first|rfl|(rw [show k = bs.length by omega];rfl)
end Go.Proofs.Ytfaefmabjjndeaa
