/-
  The dice of the laws: a number below a bound comes of a state, and the state goes on.
-/
import Derived.Test.YtfaefmabjjndeaaZtFc
namespace Go.Proofs.Ytfaefmabjjndeaa
set_option linter.unusedVariables false
set_option linter.unusedSimpArgs false
open Go.RowKit
attribute [local irreducible] FunSpec CallR Aw Le
structure Dc where
  bs : List Int
  i : Int
  h : Int
  len : bs.length ≤ 4096
  byt : ∀ j,j < bs.length → 0 ≤ gi bs j ∧ gi bs j ≤ 255
  ok : 0 ≤ i ∧ i ≤ bs.length
def dH (h : Int) : Int:=IntKind.u64.wrap (IntKind.u64.wrap (h * 6364136223846793005) + 1442695040888963407)
def dX (h : Int) : Int:=IntKind.i64.wrap (andI .u64 (shrI .u64 (dH h) 33) 16777215)
def Dc.nxt (d : Dc) : Dc:=⟨d.bs,if d.i < d.bs.length then d.i + 1 else d.i,dH d.h,d.len,d.byt,by have:=d.ok;split <;> omega⟩
def Dc.val (d : Dc) (n : Int) : Int:=(if d.i < d.bs.length then IntKind.i64.wrap (dX d.h + IntKind.i64.wrap (gi d.bs d.i.toNat)) else dX d.h).tmod n
abbrev diE (d : Dc) : Ent:=.box [.c (.Y d.bs),.c (.int .i64 d.i),.c (.int .u64 d.h)]
theorem dX_bnd (h : Int) : 0 ≤ dX h ∧ dX h ≤ 16777215:=by
  have h1 : ∀ a : Int,0 ≤ andI .u64 a 16777215 ∧ andI .u64 a 16777215 ≤ 16777215:=fun a=>by
    unfold andI
    have h2 : (BitVec.ofInt IntKind.u64.bits a &&& BitVec.ofInt IntKind.u64.bits 16777215).toNat ≤ 16777215:=by
      rw [BitVec.toNat_and]
      exact Nat.le_trans Nat.and_le_right (by decide)
    generalize (BitVec.ofInt IntKind.u64.bits a &&& BitVec.ofInt IntKind.u64.bits 16777215).toNat = m at *
    rw [show IntKind.u64.wrap (m : Int) = m by simp [IntKind.wrap,IntKind.bits,IntKind.signed];omega]
    omega
  obtain ⟨h2,h3⟩:=h1 (shrI .u64 (dH h) 33)
  unfold dX
  rw [i64w (by omega)]
  exact ⟨h2,h3⟩
theorem Dc.bnd (d : Dc) {n : Int} (hn : 1 ≤ n) : 0 ≤ d.val n ∧ d.val n < n:=by
  have hx:=dX_bnd d.h
  have hv : 0 ≤ (if d.i < d.bs.length then IntKind.i64.wrap (dX d.h + IntKind.i64.wrap (gi d.bs d.i.toNat)) else dX d.h):=by
    split
    · rename_i h
      have hb:=d.byt d.i.toNat (by have:=d.ok;omega)
      rw [i64w (n:=gi d.bs d.i.toNat) (by omega),i64w (by omega)]
      omega
    · exact hx.1
  unfold Dc.val
  rw [Int.tmod_eq_emod_of_nonneg hv]
  exact ⟨Int.emod_nonneg _ (by omega),Int.emod_lt_of_pos _ (by omega)⟩
theorem below_f (d : Dc) (n : Int) (hn : 1 ≤ n ∧ n ≤ 1125899906842624) : FunSpecM Try.prog 29 (fun ν=>[.ad (ν 0) 0,.c (.int .i64 n)]) [diE d] [diE d.nxt] [] (fun _=>.c (.int .i64 (d.val n))):=by
  obtain ⟨bs,i,h0,hl,hb,hi⟩:=d
  (refine fun_introM tiOK Try.func29 rfl rfl (fun _=>by kernel_rfl) rfl rfl rfl rfl (by first|exact valOk_c _|exact valOk_sl (j:=0) (by simp) (by simp [Ent.kind])|exact valOk_ad (j:=0) (by simp) (by simp [Ent.kind])|exact valOk_flat rfl|exact valOk_any|exact valOk_k _) fun hp0 ν hX hN=>?_;simp only [numT,Nat.reduceAdd])
  (repeat' (first|(with_reducible first|(refine hK _ _ ?_;clear hK K)|(refine hKN _ ?_;clear hKN K)|(refine hKD _ _ _ ?_;clear hKD K)|(refine hKE _ _ ?_;clear hKE K)|refine k_seq ?_|refine n_sq ?_|refine a_nil ?_|refine k_label ?_|refine k_block ?_|refine n_bk ?_|refine k_exit ?_|refine n_sqx ?_|refine n_kx ?_|refine n_bkx ?_|refine n_bkn rfl ?_|refine k_ret ?_|refine n_sqr ?_|refine n_kr ?_|refine n_bkr ?_|refine k_skip ?_|refine n_k ?_|refine n_end ?_|(refine hXX ?_;clear hXX X hYY Y)|(refine hYY ?_;clear hXX X hYY Y))|(with_reducible refine k_cid ?_;first|refine k_ctl rfl ?_|refine k_cfl rfl ?_)|(with_reducible refine a_id ?_;first|refine a_passl rfl rfl rfl rfl ?_|refine a_runl rfl rfl rfl ?_|refine a_pul rfl rfl rfl rfl ?_)|(with_reducible refine d_id ?_;first|refine d_passl rfl rfl rfl rfl ?_|refine d_runl rfl rfl rfl ?_|refine d_pul rfl rfl rfl rfl ?_|refine d_end hN (by apply Exists.intro;apply And.intro;(repeat' (first|apply FtI.nil|apply FI.nil|apply FI.cons|apply FtI.cons));kernel_rfl) ?_)|((first|(with_reducible first|refine a_opd rfl rfl fun K hK=>?_|refine d_opd rfl rfl fun K hKD=>?_|refine a_opn rfl rfl fun K hKN=>?_|refine d_opn rfl rfl fun K hKE=>?_|refine k_cond fun X Y hXX hYY=>?_|refine FN_new ?_)|(with_reducible refine a_id ?_;refine a_guard rfl rfl fun X Y hXX hYY=>?_)|(with_reducible refine d_id ?_;refine d_guard rfl rfl fun X Y hXX hYY=>?_));simp (disch:=first|decide|omega|(simp only [List.length_cons,List.length_nil];omega)) only [go_sem,beq_self_eq_true,↓tmL_cons,↓hpL_get hN,hpL_set hN,reduceIte,reduceCtorEq,Nat.reduceAdd,Nat.reduceLT,Nat.reduceLeDiff,Nat.reduceEqDiff,Nat.reduceSub])|(with_reducible refine And.intro (fun h=>?_) (fun h=>?_) <;> try (exfalso;omega))|(with_reducible refine k_reg tiOK hN rfl ?_ ?_;kernel_rfl)|(with_reducible refine k_drawn tiOK hN rfl ?_ ?_ ?_ ?_;(kernel_rfl);(kernel_rfl);(kernel_rfl))|(with_reducible refine And.intro ?_ ?_)|(refine prop_id ?_;omega)|(exact nm_ne hN (by decide))))
  · (refine ⟨.inr rfl,_,(by first|exact resV_tmp rfl rfl|exact resV_cell hN rfl rfl rfl rfl|exact resV_cell2 hN rfl rfl rfl rfl rfl|(simp (disch:=first|decide|omega|(simp only [List.length_cons,List.length_nil];omega)) only [resV,resL,resA,boxA,go_sem,beq_self_eq_true,↓tmL_cons,↓hpL_get hN,hpL_set hN,reduceIte,reduceCtorEq,Nat.reduceAdd,Nat.reduceLT,Nat.reduceLeDiff,Nat.reduceEqDiff,Nat.reduceSub];rfl)|rfl),[],_,rfl,?_,rfl,?_⟩;(all_goals try simp only [List.drop,List.take,List.cons_append,List.nil_append,nmL,List.length_cons,List.length_nil,Nat.reduceAdd,List.getD_cons_zero]);(repeat' (first|(with_reducible first|exact LEs.nil _|exact LTs.nil|exact LVs.nil|refine LEs.cons ?_ ?_|refine LVs.cons ?_ ?_|exact lv_any _|exact lv_c _|exact le_dead _|rfl|exact lv_el _ _|refine lv_agg ?_|exact lv_k _|refine lv_fn ?_)|refine LTs.cons rfl ?_ ?_|exact lv_sl hN _ rfl rfl rfl|exact lv_ad hN _ rfl rfl rfl|exact lv_fzb hN _ rfl rfl rfl (Or.inr rfl)|(refine lv_fz hN _ rfl rfl (by first|exact Or.inr rfl|exact Or.inl rfl) ?_;first|exact RdLe.refl _|exact RdLe.unn _)|refine le_box hN rfl ?_|refine le_arr hN rfl rfl ?_|exact lv_nul hN _ rfl rfl|exact le_new hN rfl rfl rfl rfl|(with_reducible first|refine lv_eq ?_|refine congrArg C.B ?_|refine congrArg C.I ?_|refine congrArg C.R ?_|refine congrArg (C.int _) ?_|refine congrArg C.bool ?_))))
    all_goals simp [Dc.nxt,Dc.val,dX,dH, *]
  · (refine ⟨.inr rfl,_,(by first|exact resV_tmp rfl rfl|exact resV_cell hN rfl rfl rfl rfl|exact resV_cell2 hN rfl rfl rfl rfl rfl|(simp (disch:=first|decide|omega|(simp only [List.length_cons,List.length_nil];omega)) only [resV,resL,resA,boxA,go_sem,beq_self_eq_true,↓tmL_cons,↓hpL_get hN,hpL_set hN,reduceIte,reduceCtorEq,Nat.reduceAdd,Nat.reduceLT,Nat.reduceLeDiff,Nat.reduceEqDiff,Nat.reduceSub];rfl)|rfl),[],_,rfl,?_,rfl,?_⟩;(all_goals try simp only [List.drop,List.take,List.cons_append,List.nil_append,nmL,List.length_cons,List.length_nil,Nat.reduceAdd,List.getD_cons_zero]);(repeat' (first|(with_reducible first|exact LEs.nil _|exact LTs.nil|exact LVs.nil|refine LEs.cons ?_ ?_|refine LVs.cons ?_ ?_|exact lv_any _|exact lv_c _|exact le_dead _|rfl|exact lv_el _ _|refine lv_agg ?_|exact lv_k _|refine lv_fn ?_)|refine LTs.cons rfl ?_ ?_|exact lv_sl hN _ rfl rfl rfl|exact lv_ad hN _ rfl rfl rfl|exact lv_fzb hN _ rfl rfl rfl (Or.inr rfl)|(refine lv_fz hN _ rfl rfl (by first|exact Or.inr rfl|exact Or.inl rfl) ?_;first|exact RdLe.refl _|exact RdLe.unn _)|refine le_box hN rfl ?_|refine le_arr hN rfl rfl ?_|exact lv_nul hN _ rfl rfl|exact le_new hN rfl rfl rfl rfl|(with_reducible first|refine lv_eq ?_|refine congrArg C.B ?_|refine congrArg C.I ?_|refine congrArg C.R ?_|refine congrArg (C.int _) ?_|refine congrArg C.bool ?_))))
    all_goals simp [Dc.nxt,Dc.val,dX,dH, *]
end Go.Proofs.Ytfaefmabjjndeaa
