/-
  Solved: the reference's side.
-/
import Derived.Test.YtfaefmabjjndeaaZeE21
namespace Go.Proofs.Ytfaefmabjjndeaa
set_option linter.unusedVariables false
set_option linter.unusedSimpArgs false
open Go.RowKit
theorem qi {O : Nat → Prop} {T : TypeId} {lo hi : Nat} {w : World} {v : Value} {us : List Value} (d : Value) (h : ch T lo hi w v us) (hO : ∀ b,blk v = some b → lo ≤ b → ¬ O b) {c : C} {V : View} (hv : c.view = some V) (hl : V.len = us.length) (hwd : V.wd = 1) (hn : c.isNN = false)
  (hr : ∀ i,i < us.length → Rd O w (V.at' i 0) (us.getD i d)) : Rd O w c v:=by
 have hlt:=h.lt
 obtain ⟨sa,cp,rfl,hc⟩:=h.form d
 rw [← hl] at hc hr hlt hO ⊢
 refine .sl (vs:=fun i _=>us.getD i d) hv (fun e=>by rw [hn] at e;cases e) hc.cap hc.max hc.nil (fun ad e hpos=>?_) (fun ad e i hi j hj=>?_) (fun i hi j hj=>?_)
 · obtain ⟨b,o,e',hb,_⟩:=hc.get hpos
   rw [e] at e';injection e' with e';subst e'
   subst e
   exact ⟨rfl,hO _ rfl (hlt b rfl).1,hb⟩
 · have : j = 0:=by omega
   subst this
   rw [hwd,Nat.mul_one,Nat.add_zero]
   exact hc.cell ad e i hi
 · have : j = 0:=by omega
   subst this
   exact hr i hi
theorem tA {O : Nat → Prop} {lo hi : Nat} {w : World} {v : Value} {xs : List Int} (h : cB lo hi w v xs) (hO : ∀ b,blk v = some b → lo ≤ b → ¬ O b) : Rd O w (.I xs) v :=
 qi (.int .i64 0) h hO rfl (by simp) rfl rfl fun i hi=>by rw [gU];exact .int _ _
theorem xp (g : Pa) (hg : PaOk g) : qg g:=by
 have hn1 : 0 < (dL g).pick.length:=by
  show 0 < (tab g.prio.length _).length
  rw [cP]
  have:=hg.ar.pos;have:=hg.len;omega
 unfold qg aL
 refine ⟨⟨_,Try.func136,rfl,rfl⟩,fun φ0 hp0 w vs hX H hl hv=>?_⟩
 obtain ⟨v,rfl,ha⟩:=q8 (AVs.of hl hv)
 refine (ta v g w (sL ha) hg).mono fun e w' ⟨vo,vp,vn,vq,vk,us,he,hv',h1,h2,h3,h4,h5,h6,hbw⟩=>⟨_,he,?_⟩
 intro ν hl hn hf
 match ν,hl with
 | [ν], _ =>
   have hν : hp0 ν = none:=hf ν (by simp)
   rcases h5 with ⟨_,e5⟩|⟨b,cap,cur,e1,e2,e3,e4,e5,e6,e7,e8⟩
   · have:=congrArg List.length e5
     simp at this
     simp [this] at hn1
   rw [List.length_map] at e1 e5 e8
   have hbk : blk vk = some b:=by rw [e1];rfl
   obtain ⟨p1,p2⟩:=H.put hν (fz:=[]) (fun x hx=>by cases hx) (loc:=.at b 0 (dL g).pick.length cap 1) (e:=.arr 2 .yes (.I (dL g).pick)) hbw hbw.size (fun g' hg'=>.inl (by injection hg' with hg';omega)) (fun b' hb' _=>hbw.block b' hb') (fun _=>by
    refine ⟨_,rfl,rfl,.inr ⟨b,0,cap,cur,rfl,e4,e5,by unfold maxLen at e6;omega,(by show 0 + cap * 1 ≤ _;omega),fun _=>⟨rfl,(by show cap * 1 = _;omega)⟩,fun i hi j hj=>?_⟩⟩
    have hj0 : j = 0:=by have : j < 1:=hj;omega
    subst hj0
    have hi' : i < (dL g).pick.length:=hi
    have hc : cur[i]? = some (.int .i64 (gi (dL g).pick i)):=by
     have h8:=congrArg (fun l=>l[i]?) e8
     simp only [List.getElem?_take,List.getElem?_map,hi',if_true,Array.getElem?_toList] at h8
     rw [h8,gi,List.getD_eq_getElem?_getD,List.getElem?_eq_getElem hi']
     rfl
    exact ⟨_,by rw [show 0 + (i * 1 + 0) = i by omega];exact hc,.int _ _⟩)
   refine ⟨_,p1,p2,?_⟩
   have ha':=ha.evo p2
   subst hv'
   obtain ⟨xs,ex,hx⟩:=j0 ha'
   have e3 : xs = [vo,vn,vp]:=by simpa using (congrArg Array.toList (Value.agg.inj ex)).symm
   subst e3
   have own : ∀ b',w.heap.size ≤ b' → b' ≠ b → ¬ Own (upd φ0 ν (.at b 0 (dL g).pick.length cap 1)) (upd (bW hp0 (c7 [])) ν (some (.arr 2 .yes (.I (dL g).pick)))) b':=fun b' hb' hne ⟨x,hlx,hbx⟩=>by
    by_cases ex : x = ν
    · subst ex
      rw [cr] at hbx
      injection hbx with hbx
      exact hne hbx.symm
    · rw [cZ ex] at hbx
      obtain ⟨e',he',hk'⟩:=hlx
      rw [cZ ex] at he'
      have:=H.own_lt ⟨x,⟨e',he',hk'⟩,hbx⟩
      omega
   match hx with
   | .cons a1 (.cons a2 (.cons a3 .nil)) =>
     refine mE (vs:=[vo,vp,vn,vq,vk]) (.cons a1 (.cons a3 (.cons a2 (.cons (.c ?_) (.cons ?_ .nil)))))
     · refine qi (.slice none 0 0) h4.2.1 (fun b' hb' hlo=>own b' hlo fun e=>?_) rfl h4.1.symm rfl rfl fun i hi=>tA (h4.2.2.1 i (by rw [← h4.1];exact hi)) fun b' hb' hlo=>own b' hlo fun e=>?_
       · subst e
         rcases h4.2.1 with ⟨q1,_⟩|⟨b2,cap2,cur2,q1,q2,q3,q4,_⟩
         · rw [q1] at hb';cases hb'
         · rw [q1] at hb'
           have hbb : b2 = b':=by injection hb'
           subst hbb
           rw [q4] at e4
           injection e4 with e4
           injection e4 with _ e4
           exact absurd e4 (by decide)
       · subst e
         refine h6 b' hbk (List.mem_filterMap.2 ⟨_,?_,hb'⟩)
         rw [List.getD_eq_getElem?_getD,List.getElem?_eq_getElem hi]
         exact List.getElem_mem hi
     · rw [e1]
       refine (congrArg (AVC _ _ w' (.sl ν)) ?_).mp (AVC.sl (ν:=ν) (e:=.arr 2 .yes (.I (dL g).pick)) (cr _ _ _) rfl)
       rw [cr];rfl
end Go.Proofs.Ytfaefmabjjndeaa
namespace Go.Proofs.Ytfaefmabjjndeaa
set_option linter.unusedVariables false
set_option linter.unusedSimpArgs false
open Go.RowKit
attribute [local irreducible] aL cQ Aw Le
theorem tB {g : Pa} (hg : PaOk g) : pgP (dj g (noP g.prio.length)) = pgP g:=(mQ hg (mP hg).pk).symm
theorem tC {g : Pa} (hg : PaOk g) : bT (dj g (noP g.prio.length)) = bT g:=by
 show (tab g.prio.length fun v=>if tf (PG.Won (pgP (dj g (noP g.prio.length))) 0 (fD g) v) then 0 else 1) = bT g
 rw [tB hg];rfl
theorem nY {g : Pa} (hg : PaOk g) : rs g (noP g.prio.length) :=
 ⟨⟨⟨hg,(mP hg).pk⟩,tC hg⟩,fun v hv h=>by rw [noP,cP] at hv;rw [noP,cY _ hv] at h;omega⟩
theorem nZ (g : Pa) (ps : List Int) (h : rs g ps) : aL Try.prog 91 [paA g,.c (.I ps)] [.arr 2 .yes (.I (bT g)),.arr 2 .yes (.I (dP g (bT g) ps g.prio.length))] (fun ns=>.tup [.agg [.sl (ns.getD 0 0),.sl (ns.getD 1 0)],.c (.bool true)]):=mR g ps h (xp g h.1.1.1)
theorem rv (g : Pa) (hg : PaOk g) : aL Try.prog 25 [paA g] [.arr 2 .yes (.I (bT g)),.arr 2 .yes (.I (dP g (bT g) (noP g.prio.length) g.prio.length))] (fun ns=>.agg [.sl (ns.getD 0 0),.sl (ns.getD 1 0)]):=by
 have hl:=hg.len
 have hle:=hg.ar.le
 have h1:=fV g
 rw [bV hg] at h1
 have h2:=tw g.prio.length (by omega)
 have h3:=nZ g _ (nY hg)
 (refine bK aK Try.func25 rfl rfl (by kernel_rfl) fun hp0 ν hX hN=>?_;simp only [cG,Nat.reduceAdd])
 (repeat' (first|(with_reducible first|(refine hK _ _ ?_;clear hK K)|(refine aa _ ?_;clear aa K)|(refine ab _ _ _ ?_;clear ab K)|(refine ac _ _ ?_;clear ac K)|refine bh ?_|refine bX ?_|refine a9 ?_|refine aq ?_|refine ap ?_|refine bY ?_|refine aG ?_|refine ba ?_|refine bZ ?_|refine bc ?_|refine bd rfl ?_|refine bi ?_|refine be ?_|refine b7 ?_|refine bf ?_|refine aF ?_|refine n_k ?_|refine bg ?_|(refine ae ?_;clear ae X af Y)|(refine af ?_;clear ae X af Y))|(with_reducible refine bo ?_;first|refine bm rfl ?_|refine bn rfl ?_)|(with_reducible refine aQ ?_;first|refine au rfl rfl rfl rfl ?_|refine aI rfl rfl rfl ?_|refine bt rfl rfl rfl rfl ?_)|(with_reducible refine ce ?_;first|refine bE rfl rfl rfl rfl ?_|refine b9 rfl rfl rfl ?_|refine cn rfl rfl rfl rfl ?_|refine co hN (by apply Exists.intro;apply And.intro;(repeat' (first|apply FtI.nil|apply FI.nil|apply FI.cons|apply FtI.cons));kernel_rfl) ?_)|((first|(with_reducible first|refine bp rfl rfl fun K hK=>?_|refine ck rfl rfl fun K ab=>?_|refine br rfl rfl fun K aa=>?_|refine cm rfl rfl fun K ac=>?_|refine aH fun X Y ae af=>?_|refine aJ ?_));simp (disch:=first|decide|omega|(simp only [List.length_cons,List.length_nil];omega)) only [go_sem,beq_self_eq_true,↓aj,↓ak hN,am hN,reduceIte,reduceCtorEq,Nat.reduceAdd,Nat.reduceLT,Nat.reduceLeDiff,Nat.reduceEqDiff,Nat.reduceSub])|(with_reducible refine And.intro (fun h=>?_) (fun h=>?_) <;> try (exfalso;omega))|(with_reducible refine bj aK hN rfl ?_ ?_;kernel_rfl)|(with_reducible refine bF aK hN rfl ?_ ?_ ?_ ?_;(kernel_rfl);(kernel_rfl);(kernel_rfl))|(refine aO h1 ?_ rfl (fun _=>rfl) ?_)|(refine aO h2 ?_ rfl (fun _=>rfl) ?_)|(refine aO h3 ?_ rfl (fun _=>rfl) ?_)|(with_reducible first|exact ax|refine ao ?_ ?_|exact cg _|refine bv ?_|exact a8 _|exact bJ _ _|refine bI ?_|exact aY _)|exact bw hN rfl rfl|(refine bG hN rfl ?_;first|exact aM _|exact aN _)|exact aZ rfl rfl rfl|(simp only [bW,List.map_nil])|(with_reducible refine b8 ?_)|(with_reducible refine And.intro ?_ ?_)|(refine ah ?_;omega)|(exact bu hN (by decide))))
 (refine d8 hN [3,4] (by decide) (.inr rfl) (by first|exact cL rfl rfl|exact cF hN rfl rfl rfl rfl|exact cy hN rfl rfl rfl rfl rfl|(simp (disch:=first|decide|omega|(simp only [List.length_cons,List.length_nil];omega)) only [ci,cu,cw,cx,go_sem,beq_self_eq_true,↓aj,↓ak hN,am hN,reduceIte,reduceCtorEq,Nat.reduceAdd,Nat.reduceLT,Nat.reduceLeDiff,Nat.reduceEqDiff,Nat.reduceSub];rfl)|rfl) ?_ fun νs hνs=>?_;(repeat' (first|exact Gone.nil|(refine Gone.cons rfl rfl ?_ ?_)|(with_reducible refine dA ?_)|(with_reducible refine dz ?_)|(with_reducible refine SVs.cons ?_ ?_)|(with_reducible exact SVs.nil)|(simp only [List.drop,List.take])|(simp (disch:=first|decide|omega) only [↓aj,reduceIte,reduceCtorEq,Nat.reduceEqDiff])|(with_reducible exact fw _)|(with_reducible exact dw _)|(exact dx rfl rfl rfl)|(exact dy 0 (by simp) rfl rfl)|(exact dy 1 (by simp) rfl rfl)|(refine d7 hN rfl (dB hN (by decide)) ?_)|(with_reducible refine d6 ?_)|(with_reducible rfl)|(with_reducible refine bA ?_)|(with_reducible refine bC ?_)|(with_reducible refine bD ?_)|(with_reducible refine bB ?_)|(with_reducible refine bz ?_)|(refine ah ?_;omega))))
abbrev noA : AV:=.agg [.c .nul,.c .nul]
theorem pi (g : Pa) (hg : ¬ PaOk g) : aL Try.prog 18 [paA g] [] (fun _=>noA):=by
 have h1:=gK g
 rw [aX hg] at h1
 (refine bK aK Try.func18 rfl rfl (by kernel_rfl) fun hp0 ν hX hN=>?_;simp only [cG,Nat.reduceAdd])
 (repeat' (first|(with_reducible first|(refine hK _ _ ?_;clear hK K)|(refine aa _ ?_;clear aa K)|(refine ab _ _ _ ?_;clear ab K)|(refine ac _ _ ?_;clear ac K)|refine bh ?_|refine bX ?_|refine a9 ?_|refine aq ?_|refine ap ?_|refine bY ?_|refine aG ?_|refine ba ?_|refine bZ ?_|refine bc ?_|refine bd rfl ?_|refine bi ?_|refine be ?_|refine b7 ?_|refine bf ?_|refine aF ?_|refine n_k ?_|refine bg ?_|(refine ae ?_;clear ae X af Y)|(refine af ?_;clear ae X af Y))|(with_reducible refine bo ?_;first|refine bm rfl ?_|refine bn rfl ?_)|(with_reducible refine aQ ?_;first|refine au rfl rfl rfl rfl ?_|refine aI rfl rfl rfl ?_|refine bt rfl rfl rfl rfl ?_)|(with_reducible refine ce ?_;first|refine bE rfl rfl rfl rfl ?_|refine b9 rfl rfl rfl ?_|refine cn rfl rfl rfl rfl ?_|refine co hN (by apply Exists.intro;apply And.intro;(repeat' (first|apply FtI.nil|apply FI.nil|apply FI.cons|apply FtI.cons));kernel_rfl) ?_)|((first|(with_reducible first|refine bp rfl rfl fun K hK=>?_|refine ck rfl rfl fun K ab=>?_|refine br rfl rfl fun K aa=>?_|refine cm rfl rfl fun K ac=>?_|refine aH fun X Y ae af=>?_|refine aJ ?_));simp (disch:=first|decide|omega|(simp only [List.length_cons,List.length_nil];omega)) only [go_sem,beq_self_eq_true,↓aj,↓ak hN,am hN,reduceIte,reduceCtorEq,Nat.reduceAdd,Nat.reduceLT,Nat.reduceLeDiff,Nat.reduceEqDiff,Nat.reduceSub])|(with_reducible refine And.intro (fun h=>?_) (fun h=>?_) <;> try (exfalso;omega))|(with_reducible refine bj aK hN rfl ?_ ?_;kernel_rfl)|(with_reducible refine bF aK hN rfl ?_ ?_ ?_ ?_;(kernel_rfl);(kernel_rfl);(kernel_rfl))|(refine aO h1 ?_ rfl (fun _=>rfl) ?_)|(with_reducible first|exact ax|refine ao ?_ ?_|exact cg _|refine bv ?_|exact a8 _|exact bJ _ _|refine bI ?_|exact aY _)|exact bw hN rfl rfl|(refine bG hN rfl ?_;first|exact aM _|exact aN _)|exact aZ rfl rfl rfl|(simp only [bW,List.map_nil])|(with_reducible refine b8 ?_)|(with_reducible refine And.intro ?_ ?_)|(refine ah ?_;omega)|(exact bu hN (by decide))))
 (refine d8 hN [] (by decide) (.inr rfl) (by first|exact cL rfl rfl|exact cF hN rfl rfl rfl rfl|exact cy hN rfl rfl rfl rfl rfl|(simp (disch:=first|decide|omega|(simp only [List.length_cons,List.length_nil];omega)) only [ci,cu,cw,cx,go_sem,beq_self_eq_true,↓aj,↓ak hN,am hN,reduceIte,reduceCtorEq,Nat.reduceAdd,Nat.reduceLT,Nat.reduceLeDiff,Nat.reduceEqDiff,Nat.reduceSub];rfl)|rfl) ?_ fun νs hνs=>?_;(repeat' (first|exact Gone.nil|(refine Gone.cons rfl rfl ?_ ?_)|(with_reducible refine dA ?_)|(with_reducible refine dz ?_)|(with_reducible refine SVs.cons ?_ ?_)|(with_reducible exact SVs.nil)|(simp only [List.drop,List.take])|(simp (disch:=first|decide|omega) only [↓aj,reduceIte,reduceCtorEq,Nat.reduceEqDiff])|(with_reducible exact fw _)|(with_reducible exact dw _)|(exact dx rfl rfl rfl)|(exact dy 0 (by simp) rfl rfl)|(refine d7 hN rfl (dB hN (by decide)) ?_)|(with_reducible refine d6 ?_)|(with_reducible rfl)|(with_reducible refine bA ?_)|(with_reducible refine bC ?_)|(with_reducible refine bD ?_)|(with_reducible refine bB ?_)|(with_reducible refine bz ?_)|(refine ah ?_;omega))))
theorem pj (g : Pa) (hg : ¬ PaOk g) : aL Try.prog 25 [paA g] [] (fun _=>noA):=by
 have h1:=fV g
 rw [aX hg] at h1
 (refine bK aK Try.func25 rfl rfl (by kernel_rfl) fun hp0 ν hX hN=>?_;simp only [cG,Nat.reduceAdd])
 (repeat' (first|(with_reducible first|(refine hK _ _ ?_;clear hK K)|(refine aa _ ?_;clear aa K)|(refine ab _ _ _ ?_;clear ab K)|(refine ac _ _ ?_;clear ac K)|refine bh ?_|refine bX ?_|refine a9 ?_|refine aq ?_|refine ap ?_|refine bY ?_|refine aG ?_|refine ba ?_|refine bZ ?_|refine bc ?_|refine bd rfl ?_|refine bi ?_|refine be ?_|refine b7 ?_|refine bf ?_|refine aF ?_|refine n_k ?_|refine bg ?_|(refine ae ?_;clear ae X af Y)|(refine af ?_;clear ae X af Y))|(with_reducible refine bo ?_;first|refine bm rfl ?_|refine bn rfl ?_)|(with_reducible refine aQ ?_;first|refine au rfl rfl rfl rfl ?_|refine aI rfl rfl rfl ?_|refine bt rfl rfl rfl rfl ?_)|(with_reducible refine ce ?_;first|refine bE rfl rfl rfl rfl ?_|refine b9 rfl rfl rfl ?_|refine cn rfl rfl rfl rfl ?_|refine co hN (by apply Exists.intro;apply And.intro;(repeat' (first|apply FtI.nil|apply FI.nil|apply FI.cons|apply FtI.cons));kernel_rfl) ?_)|((first|(with_reducible first|refine bp rfl rfl fun K hK=>?_|refine ck rfl rfl fun K ab=>?_|refine br rfl rfl fun K aa=>?_|refine cm rfl rfl fun K ac=>?_|refine aH fun X Y ae af=>?_|refine aJ ?_));simp (disch:=first|decide|omega|(simp only [List.length_cons,List.length_nil];omega)) only [go_sem,beq_self_eq_true,↓aj,↓ak hN,am hN,reduceIte,reduceCtorEq,Nat.reduceAdd,Nat.reduceLT,Nat.reduceLeDiff,Nat.reduceEqDiff,Nat.reduceSub])|(with_reducible refine And.intro (fun h=>?_) (fun h=>?_) <;> try (exfalso;omega))|(with_reducible refine bj aK hN rfl ?_ ?_;kernel_rfl)|(with_reducible refine bF aK hN rfl ?_ ?_ ?_ ?_;(kernel_rfl);(kernel_rfl);(kernel_rfl))|(refine aO h1 ?_ rfl (fun _=>rfl) ?_)|(with_reducible first|exact ax|refine ao ?_ ?_|exact cg _|refine bv ?_|exact a8 _|exact bJ _ _|refine bI ?_|exact aY _)|exact bw hN rfl rfl|(refine bG hN rfl ?_;first|exact aM _|exact aN _)|exact aZ rfl rfl rfl|(simp only [bW,List.map_nil])|(with_reducible refine b8 ?_)|(with_reducible refine And.intro ?_ ?_)|(refine ah ?_;omega)|(exact bu hN (by decide))))
 (refine d8 hN [] (by decide) (.inr rfl) (by first|exact cL rfl rfl|exact cF hN rfl rfl rfl rfl|exact cy hN rfl rfl rfl rfl rfl|(simp (disch:=first|decide|omega|(simp only [List.length_cons,List.length_nil];omega)) only [ci,cu,cw,cx,go_sem,beq_self_eq_true,↓aj,↓ak hN,am hN,reduceIte,reduceCtorEq,Nat.reduceAdd,Nat.reduceLT,Nat.reduceLeDiff,Nat.reduceEqDiff,Nat.reduceSub];rfl)|rfl) ?_ fun νs hνs=>?_;(repeat' (first|exact Gone.nil|(refine Gone.cons rfl rfl ?_ ?_)|(with_reducible refine dA ?_)|(with_reducible refine dz ?_)|(with_reducible refine SVs.cons ?_ ?_)|(with_reducible exact SVs.nil)|(simp only [List.drop,List.take])|(simp (disch:=first|decide|omega) only [↓aj,reduceIte,reduceCtorEq,Nat.reduceEqDiff])|(with_reducible exact fw _)|(with_reducible exact dw _)|(exact dx rfl rfl rfl)|(exact dy 0 (by simp) rfl rfl)|(refine d7 hN rfl (dB hN (by decide)) ?_)|(with_reducible refine d6 ?_)|(with_reducible rfl)|(with_reducible refine bA ?_)|(with_reducible refine bC ?_)|(with_reducible refine bD ?_)|(with_reducible refine bB ?_)|(with_reducible refine bz ?_)|(refine ah ?_;omega))))
end Go.Proofs.Ytfaefmabjjndeaa
