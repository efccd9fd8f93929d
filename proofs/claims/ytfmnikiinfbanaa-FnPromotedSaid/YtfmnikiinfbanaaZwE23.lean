/-
  Solved: the reference's side.
-/
import Derived.Test.YtfmnikiinfbanaaZwE21
namespace Go.Proofs.Ytfmnikiinfbanaa
set_option linter.unusedVariables false
set_option linter.unusedSimpArgs false
open Go.RowKit
theorem rd_ownB {O : Nat → Prop} {T : TypeId} {lo hi : Nat} {w : World} {v : Value} {us : List Value} (d : Value) (h : OwnV T lo hi w v us) (hO : ∀ b,blk v = some b → lo ≤ b → ¬ O b) {c : C} {V : View} (hv : c.view = some V) (hl : V.len = us.length) (hwd : V.wd = 1) (hn : c.isNN = false)
    (hr : ∀ i,i < us.length → Rd O w (V.at' i 0) (us.getD i d)) : Rd O w c v:=by
  have hlt:=h.lt
  obtain ⟨sa,cp,rfl,hc⟩:=h.form d
  rw [← hl] at hc hr hlt hO ⊢
  refine .sl (vs:=fun i _=>us.getD i d) hv (fun e=>by rw [hn] at e;cases e) hc.cap hc.max hc.nil (fun ad e hpos=>?_) (fun ad e i hi j hj=>?_) (fun i hi j hj=>?_)
  · obtain ⟨b,o,e',hb,_⟩:=hc.get hpos
    rw [e] at e';injection e' with e';subst e'
    subst e
    exact ⟨rfl,hO _ rfl (hlt b rfl).1,hb⟩
  · have : j = 0:=by omega
    subst this
    rw [hwd,Nat.mul_one,Nat.add_zero]
    exact hc.cell ad e i hi
  · have : j = 0:=by omega
    subst this
    exact hr i hi
theorem rd_ownBI {O : Nat → Prop} {lo hi : Nat} {w : World} {v : Value} {xs : List Int} (h : OwnI lo hi w v xs) (hO : ∀ b,blk v = some b → lo ≤ b → ¬ O b) : Rd O w (.I xs) v :=
  rd_ownB (.int .i64 0) h hO rfl (by simp) rfl rfl fun i hi=>by rw [getD_ints];exact .int _ _
theorem ofOwn (g : Pa) (hg : PaOk g) : OfOwn g:=by
  have hn1 : 0 < (gmOf g).pick.length:=by
    show 0 < (tab g.prio.length _).length
    rw [tab_len]
    have:=hg.ar.pos;have:=hg.len;omega
  unfold OfOwn FunSpec
  refine ⟨⟨_,Try.func65,rfl,rfl⟩,fun φ0 hp0 w vs hX H hl hv=>?_⟩
  obtain ⟨v,rfl,ha⟩:=avs1 (AVs.of hl hv)
  refine (l7Of_s v g w (is_P ha) hg).mono fun e w' ⟨vo,vp,vn,vq,vk,us,he,hv',h1,h2,h3,h4,h5,h6,hbw⟩=>⟨_,he,?_⟩
  intro ν hl hn hf
  match ν,hl with
  | [ν], _ =>
    have hν : hp0 ν = none:=hf ν (by simp)
    rcases h5 with ⟨_,e5⟩|⟨b,cap,cur,e1,e2,e3,e4,e5,e6,e7,e8⟩
    · have:=congrArg List.length e5
      simp at this
      simp [this] at hn1
    rw [List.length_map] at e1 e5 e8
    have hbk : blk vk = some b:=by rw [e1];rfl
    obtain ⟨p1,p2⟩:=H.put hν (fz:=[]) (fun x hx=>by cases hx) (loc:=.at b 0 (gmOf g).pick.length cap 1) (e:=.arr 2 .yes (.I (gmOf g).pick)) hbw hbw.size (fun g' hg'=>.inl (by injection hg' with hg';omega)) (fun b' hb' _=>hbw.block b' hb') (fun _=>by
      refine ⟨_,rfl,rfl,.inr ⟨b,0,cap,cur,rfl,e4,e5,by unfold maxLen at e6;omega,(by show 0 + cap * 1 ≤ _;omega),fun _=>⟨rfl,(by show cap * 1 = _;omega)⟩,fun i hi j hj=>?_⟩⟩
      have hj0 : j = 0:=by have : j < 1:=hj;omega
      subst hj0
      have hi' : i < (gmOf g).pick.length:=hi
      have hc : cur[i]? = some (.int .i64 (gi (gmOf g).pick i)):=by
        have h8:=congrArg (fun l=>l[i]?) e8
        simp only [List.getElem?_take,List.getElem?_map,hi',if_true,Array.getElem?_toList] at h8
        rw [h8,gi,List.getD_eq_getElem?_getD,List.getElem?_eq_getElem hi']
        rfl
      exact ⟨_,by rw [show 0 + (i * 1 + 0) = i by omega];exact hc,.int _ _⟩)
    refine ⟨_,p1,p2,?_⟩
    have ha':=ha.evo p2
    subst hv'
    obtain ⟨xs,ex,hx⟩:=avs_agg ha'
    have e3 : xs = [vo,vn,vp]:=by simpa using (congrArg Array.toList (Value.agg.inj ex)).symm
    subst e3
    have own : ∀ b',w.heap.size ≤ b' → b' ≠ b → ¬ Own (upd φ0 ν (.at b 0 (gmOf g).pick.length cap 1)) (upd (hpUp hp0 (deads [])) ν (some (.arr 2 .yes (.I (gmOf g).pick)))) b':=fun b' hb' hne ⟨x,hlx,hbx⟩=>by
      by_cases ex : x = ν
      · subst ex
        rw [upd_same] at hbx
        injection hbx with hbx
        exact hne hbx.symm
      · rw [upd_ne ex] at hbx
        obtain ⟨e',he',hk'⟩:=hlx
        rw [upd_ne ex] at he'
        have:=H.own_lt ⟨x,⟨e',he',hk'⟩,hbx⟩
        omega
    match hx with
    | .cons a1 (.cons a2 (.cons a3 .nil)) =>
      refine agg_avs (vs:=[vo,vp,vn,vq,vk]) (.cons a1 (.cons a3 (.cons a2 (.cons (.c ?_) (.cons ?_ .nil)))))
      · refine rd_ownB (.slice none 0 0) h4.2.1 (fun b' hb' hlo=>own b' hlo fun e=>?_) rfl h4.1.symm rfl rfl fun i hi=>rd_ownBI (h4.2.2.1 i (by rw [← h4.1];exact hi)) fun b' hb' hlo=>own b' hlo fun e=>?_
        · subst e
          rcases h4.2.1 with ⟨q1,_⟩|⟨b2,cap2,cur2,q1,q2,q3,q4,_⟩
          · rw [q1] at hb';cases hb'
          · rw [q1] at hb'
            have hbb : b2 = b':=by injection hb'
            subst hbb
            rw [q4] at e4
            injection e4 with e4
            injection e4 with _ e4
            exact absurd e4 (by decide)
        · subst e
          refine h6 b' hbk (List.mem_filterMap.2 ⟨_,?_,hb'⟩)
          rw [List.getD_eq_getElem?_getD,List.getElem?_eq_getElem hi]
          exact List.getElem_mem hi
      · rw [e1]
        refine (congrArg (AVC _ _ w' (.sl ν)) ?_).mp (AVC.sl (ν:=ν) (e:=.arr 2 .yes (.I (gmOf g).pick)) (upd_same _ _ _) rfl)
        rw [upd_same];rfl
end Go.Proofs.Ytfmnikiinfbanaa
namespace Go.Proofs.Ytfmnikiinfbanaa
set_option linter.unusedVariables false
set_option linter.unusedSimpArgs false
open Go.RowKit
attribute [local irreducible] FunSpec CallR Aw Le
theorem only_noP {g : Pa} (hg : PaOk g) : pgP (onlyP g (noP g.prio.length)) = pgP g:=(pg_pick hg (noP_ok hg).pk).symm
theorem winL_noP {g : Pa} (hg : PaOk g) : winL (onlyP g (noP g.prio.length)) = winL g:=by
  show (tab g.prio.length fun v=>if tf (PG.Won (pgP (onlyP g (noP g.prio.length))) 0 (allN g) v) then 0 else 1) = winL g
  rw [only_noP hg];rfl
theorem fits_noP {g : Pa} (hg : PaOk g) : Fits g (noP g.prio.length) :=
  ⟨⟨⟨hg,(noP_ok hg).pk⟩,winL_noP hg⟩,fun v hv h=>by rw [noP,tab_len] at hv;rw [noP,gi_tab _ hv] at h;omega⟩
theorem planFrom_sf (g : Pa) (ps : List Int) (h : Fits g ps) : FunSpec Try.prog 76 [paA g,.c (.I ps)] [.arr 2 .yes (.I (winL g)),.arr 2 .yes (.I (planN g (winL g) ps g.prio.length))] (fun ns=>.tup [.agg [.sl (ns.getD 0 0),.sl (ns.getD 1 0)],.c (.bool true)]):=planFrom_sf0 g ps h (ofOwn g h.1.1.1)
theorem solved_sf (g : Pa) (hg : PaOk g) : FunSpec Try.prog 47 [paA g] [.arr 2 .yes (.I (winL g)),.arr 2 .yes (.I (planN g (winL g) (noP g.prio.length) g.prio.length))] (fun ns=>.agg [.sl (ns.getD 0 0),.sl (ns.getD 1 0)]):=by
  have hl:=hg.len
  have hle:=hg.ar.le
  have h1:=parOk_sf g
  rw [tf_true hg] at h1
  have h2:=l7None_f g.prio.length (by omega)
  have h3:=planFrom_sf g _ (fits_noP hg)
  (refine f_intro tiOK Try.func47 rfl rfl (by kernel_rfl) fun hp0 ν hX hN=>?_;simp only [numT,Nat.reduceAdd])
  (repeat' (first|(with_reducible first|(refine hK _ _ ?_;clear hK K)|(refine hKN _ ?_;clear hKN K)|(refine hKD _ _ _ ?_;clear hKD K)|(refine hKE _ _ ?_;clear hKE K)|refine k_seq ?_|refine n_sq ?_|refine a_nil ?_|refine k_label ?_|refine k_block ?_|refine n_bk ?_|refine k_exit ?_|refine n_sqx ?_|refine n_kx ?_|refine n_bkx ?_|refine n_bkn rfl ?_|refine k_ret ?_|refine n_sqr ?_|refine n_kr ?_|refine n_bkr ?_|refine k_skip ?_|refine n_k ?_|refine n_end ?_|(refine hXX ?_;clear hXX X hYY Y)|(refine hYY ?_;clear hXX X hYY Y))|(with_reducible refine k_cid ?_;first|refine k_ctl rfl ?_|refine k_cfl rfl ?_)|(with_reducible refine a_id ?_;first|refine a_passl rfl rfl rfl rfl ?_|refine a_runl rfl rfl rfl ?_|refine a_pul rfl rfl rfl rfl ?_)|(with_reducible refine d_id ?_;first|refine d_passl rfl rfl rfl rfl ?_|refine d_runl rfl rfl rfl ?_|refine d_pul rfl rfl rfl rfl ?_|refine d_end hN (by apply Exists.intro;apply And.intro;(repeat' (first|apply FtI.nil|apply FI.nil|apply FI.cons|apply FtI.cons));kernel_rfl) ?_)|((first|(with_reducible first|refine a_opd rfl rfl fun K hK=>?_|refine d_opd rfl rfl fun K hKD=>?_|refine a_opn rfl rfl fun K hKN=>?_|refine d_opn rfl rfl fun K hKE=>?_|refine k_cond fun X Y hXX hYY=>?_|refine FN_new ?_)|(with_reducible refine a_id ?_;refine a_guard rfl rfl fun X Y hXX hYY=>?_)|(with_reducible refine d_id ?_;refine d_guard rfl rfl fun X Y hXX hYY=>?_));simp (disch:=first|decide|omega|(simp only [List.length_cons,List.length_nil];omega)) only [go_sem,beq_self_eq_true,↓tmL_cons,↓hpL_get hN,hpL_set hN,reduceIte,reduceCtorEq,Nat.reduceAdd,Nat.reduceLT,Nat.reduceLeDiff,Nat.reduceEqDiff,Nat.reduceSub])|(with_reducible refine And.intro (fun h=>?_) (fun h=>?_) <;> try (exfalso;omega))|(with_reducible refine k_reg tiOK hN rfl ?_ ?_;kernel_rfl)|(with_reducible refine k_drawn tiOK hN rfl ?_ ?_ ?_ ?_;(kernel_rfl);(kernel_rfl);(kernel_rfl))|(refine k_call h1 ?_ rfl (fun _=>rfl) ?_)|(refine k_call h2 ?_ rfl (fun _=>rfl) ?_)|(refine k_call h3 ?_ rfl (fun _=>rfl) ?_)|(with_reducible first|exact Args_nil|refine Args_cons ?_ ?_|exact ag_c _|refine ag_agg ?_|exact ag_elA _|exact ag_el _ _|refine ag_fn ?_|exact ag_unn _)|exact ag_box hN rfl rfl|(refine ag_fz hN rfl ?_;first|exact RdLe.refl _|exact RdLe.unn _)|exact ag_nul rfl rfl rfl|(simp only [hpUp,List.map_nil])|(with_reducible refine FN_nil ?_)|(with_reducible refine And.intro ?_ ?_)|(refine prop_id ?_;omega)|(exact nm_ne hN (by decide))))
  (refine ret_X hN [3,4] (by decide) (.inr rfl) (by first|exact resV_tmp rfl rfl|exact resV_cell hN rfl rfl rfl rfl|exact resV_cell2 hN rfl rfl rfl rfl rfl|(simp (disch:=first|decide|omega|(simp only [List.length_cons,List.length_nil];omega)) only [resV,resL,resA,boxA,go_sem,beq_self_eq_true,↓tmL_cons,↓hpL_get hN,hpL_set hN,reduceIte,reduceCtorEq,Nat.reduceAdd,Nat.reduceLT,Nat.reduceLeDiff,Nat.reduceEqDiff,Nat.reduceSub];rfl)|rfl) ?_ fun νs hνs=>?_;(repeat' (first|exact Gone.nil|(refine Gone.cons rfl rfl ?_ ?_)|(with_reducible refine sv_tup ?_)|(with_reducible refine sv_agg ?_)|(with_reducible refine SVs.cons ?_ ?_)|(with_reducible exact SVs.nil)|(simp only [List.drop,List.take])|(simp (disch:=first|decide|omega) only [↓tmL_cons,reduceIte,reduceCtorEq,Nat.reduceEqDiff])|(with_reducible exact sv_c _)|(with_reducible exact sv_unn _)|(exact sv_nul rfl rfl rfl)|(exact sv_sl 0 (by simp) rfl rfl)|(exact sv_sl 1 (by simp) rfl rfl)|(refine sv_fz hN rfl (nm_not hN (by decide)) ?_)|(with_reducible refine sv_eq ?_)|(with_reducible rfl)|(with_reducible refine congrArg C.B ?_)|(with_reducible refine congrArg C.I ?_)|(with_reducible refine congrArg C.R ?_)|(with_reducible refine congrArg (C.int _) ?_)|(with_reducible refine congrArg C.bool ?_)|(refine prop_id ?_;omega))))
end Go.Proofs.Ytfmnikiinfbanaa
