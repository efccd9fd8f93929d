/-
  Solved: the reference's side.
-/
import Derived.Test.YtfaefmabjjndeaaZnE21
namespace Go.Proofs.Ytfaefmabjjndeaa
set_option linter.unusedVariables false
set_option linter.unusedSimpArgs false
open Go.RowKit
theorem oD {O : Nat → Prop} {T : TypeId} {lo hi : Nat} {w : World} {v : Value} {us : List Value} (d : Value) (h : bL T lo hi w v us) (hO : ∀ b,blk v = some b → lo ≤ b → ¬ O b) {c : C} {V : View} (hv : c.view = some V) (hl : V.len = us.length) (hwd : V.wd = 1) (hn : c.isNN = false)
  (hr : ∀ i,i < us.length → Rd O w (V.at' i 0) (us.getD i d)) : Rd O w c v:=by
 have hlt:=h.lt
 obtain ⟨sa,cp,rfl,hc⟩:=h.form d
 rw [← hl] at hc hr hlt hO ⊢
 refine .sl (vs:=fun i _=>us.getD i d) hv (fun e=>by rw [hn] at e;cases e) hc.cap hc.max hc.nil (fun ad e hpos=>?_) (fun ad e i hi j hj=>?_) (fun i hi j hj=>?_)
 · obtain ⟨b,o,e',hb,_⟩:=hc.get hpos
   rw [e] at e';injection e' with e';subst e'
   subst e
   exact ⟨rfl,hO _ rfl (hlt b rfl).1,hb⟩
 · have : j = 0:=by omega
   subst this
   rw [hwd,Nat.mul_one,Nat.add_zero]
   exact hc.cell ad e i hi
 · have : j = 0:=by omega
   subst this
   exact hr i hi
theorem rH {O : Nat → Prop} {lo hi : Nat} {w : World} {v : Value} {xs : List Int} (h : ch lo hi w v xs) (hO : ∀ b,blk v = some b → lo ≤ b → ¬ O b) : Rd O w (.I xs) v :=
 oD (.int .i64 0) h hO rfl (by simp) rfl rfl fun i hi=>by rw [gK];exact .int _ _
theorem vP (g : Pa) (hg : PaOk g) : oC g:=by
 have hn1 : 0 < (dN g).pick.length:=by
  show 0 < (tab g.prio.length _).length
  rw [cY]
  have:=hg.ar.pos;have:=hg.len;omega
 unfold oC ax
 refine ⟨⟨_,Try.func136,rfl,rfl⟩,fun φ0 hp0 w vs hX H hl hv=>?_⟩
 obtain ⟨v,rfl,ha⟩:=sF (AVs.of hl hv)
 refine (ri v g w (sx ha) hg).mono fun e w' ⟨vo,vp,vn,vq,vk,us,he,hv',h1,h2,h3,h4,h5,h6,hbw⟩=>⟨_,he,?_⟩
 intro ν hl hn hf
 match ν,hl with
 | [ν], _ =>
   have hν : hp0 ν = none:=hf ν (by simp)
   rcases h5 with ⟨_,e5⟩|⟨b,cap,cur,e1,e2,e3,e4,e5,e6,e7,e8⟩
   · have:=congrArg List.length e5
     simp at this
     simp [this] at hn1
   rw [List.length_map] at e1 e5 e8
   have hbk : blk vk = some b:=by rw [e1];rfl
   obtain ⟨p1,p2⟩:=H.put hν (fz:=[]) (fun x hx=>by cases hx) (loc:=.at b 0 (dN g).pick.length cap 1) (e:=.arr 2 .yes (.I (dN g).pick)) hbw hbw.size (fun g' hg'=>.inl (by injection hg' with hg';omega)) (fun b' hb' _=>hbw.block b' hb') (fun _=>by
    refine ⟨_,rfl,rfl,.inr ⟨b,0,cap,cur,rfl,e4,e5,by unfold maxLen at e6;omega,(by show 0 + cap * 1 ≤ _;omega),fun _=>⟨rfl,(by show cap * 1 = _;omega)⟩,fun i hi j hj=>?_⟩⟩
    have hj0 : j = 0:=by have : j < 1:=hj;omega
    subst hj0
    have hi' : i < (dN g).pick.length:=hi
    have hc : cur[i]? = some (.int .i64 (gi (dN g).pick i)):=by
     have h8:=congrArg (fun l=>l[i]?) e8
     simp only [List.getElem?_take,List.getElem?_map,hi',if_true,Array.getElem?_toList] at h8
     rw [h8,gi,List.getD_eq_getElem?_getD,List.getElem?_eq_getElem hi']
     rfl
    exact ⟨_,by rw [show 0 + (i * 1 + 0) = i by omega];exact hc,.int _ _⟩)
   refine ⟨_,p1,p2,?_⟩
   have ha':=ha.evo p2
   subst hv'
   obtain ⟨xs,ex,hx⟩:=ls ha'
   have e3 : xs = [vo,vn,vp]:=by simpa using (congrArg Array.toList (Value.agg.inj ex)).symm
   subst e3
   have own : ∀ b',w.heap.size ≤ b' → b' ≠ b → ¬ Own (upd φ0 ν (.at b 0 (dN g).pick.length cap 1)) (upd (bB hp0 (cN [])) ν (some (.arr 2 .yes (.I (dN g).pick)))) b':=fun b' hb' hne ⟨x,hlx,hbx⟩=>by
    by_cases ex : x = ν
    · subst ex
      rw [bM] at hbx
      injection hbx with hbx
      exact hne hbx.symm
    · rw [cQ ex] at hbx
      obtain ⟨e',he',hk'⟩:=hlx
      rw [cQ ex] at he'
      have:=H.own_lt ⟨x,⟨e',he',hk'⟩,hbx⟩
      omega
   match hx with
   | .cons a1 (.cons a2 (.cons a3 .nil)) =>
     refine oq (vs:=[vo,vp,vn,vq,vk]) (.cons a1 (.cons a3 (.cons a2 (.cons (.c ?_) (.cons ?_ .nil)))))
     · refine oD (.slice none 0 0) h4.2.1 (fun b' hb' hlo=>own b' hlo fun e=>?_) rfl h4.1.symm rfl rfl fun i hi=>rH (h4.2.2.1 i (by rw [← h4.1];exact hi)) fun b' hb' hlo=>own b' hlo fun e=>?_
       · subst e
         rcases h4.2.1 with ⟨q1,_⟩|⟨b2,cap2,cur2,q1,q2,q3,q4,_⟩
         · rw [q1] at hb';cases hb'
         · rw [q1] at hb'
           have hbb : b2 = b':=by injection hb'
           subst hbb
           rw [q4] at e4
           injection e4 with e4
           injection e4 with _ e4
           exact absurd e4 (by decide)
       · subst e
         refine h6 b' hbk (List.mem_filterMap.2 ⟨_,?_,hb'⟩)
         rw [List.getD_eq_getElem?_getD,List.getElem?_eq_getElem hi]
         exact List.getElem_mem hi
     · rw [e1]
       refine (congrArg (AVC _ _ w' (.sl ν)) ?_).mp (AVC.sl (ν:=ν) (e:=.arr 2 .yes (.I (dN g).pick)) (bM _ _ _) rfl)
       rw [bM];rfl
end Go.Proofs.Ytfaefmabjjndeaa
namespace Go.Proofs.Ytfaefmabjjndeaa
set_option linter.unusedVariables false
set_option linter.unusedSimpArgs false
open Go.RowKit
attribute [local irreducible] ax cJ Aw Le
theorem rI {g : Pa} (hg : PaOk g) : pgP (dc g (noP g.prio.length)) = pgP g:=(lG hg (nV hg).pk).symm
theorem rJ {g : Pa} (hg : PaOk g) : aX (dc g (noP g.prio.length)) = aX g:=by
 show (tab g.prio.length fun v=>if tf (PG.Won (pgP (dc g (noP g.prio.length))) 0 (gG g) v) then 0 else 1) = aX g
 rw [rI hg];rfl
theorem mL {g : Pa} (hg : PaOk g) : pD g (noP g.prio.length) :=
 ⟨⟨⟨hg,(nV hg).pk⟩,rJ hg⟩,fun v hv h=>by rw [noP,cY] at hv;rw [noP,dC _ hv] at h;omega⟩
theorem mM (g : Pa) (ps : List Int) (h : pD g ps) : ax Try.prog 91 [paA g,.c (.I ps)] [.arr 2 .yes (.I (aX g)),.arr 2 .yes (.I (ep g (aX g) ps g.prio.length))] (fun ns=>.tup [.agg [.sl (ns.getD 0 0),.sl (ns.getD 1 0)],.c (.bool true)]):=lH g ps h (vP g h.1.1.1)
theorem pG (g : Pa) (hg : PaOk g) : ax Try.prog 25 [paA g] [.arr 2 .yes (.I (aX g)),.arr 2 .yes (.I (ep g (aX g) (noP g.prio.length) g.prio.length))] (fun ns=>.agg [.sl (ns.getD 0 0),.sl (ns.getD 1 0)]):=by
 have hl:=hg.len
 have hle:=hg.ar.le
 have h1:=mq g
 rw [bW hg] at h1
 have h2:=rE g.prio.length (by omega)
 have h3:=mM g _ (mL hg)
 (refine bV aP Try.func25 rfl rfl (by kernel_rfl) fun hp0 ν hX hN=>?_;simp only [cK,Nat.reduceAdd])
 (repeat' (first|(with_reducible first|(refine hK _ _ ?_;clear hK K)|(refine aa _ ?_;clear aa K)|(refine ab _ _ _ ?_;clear ab K)|(refine ac _ _ ?_;clear ac K)|refine bj ?_|refine cc ?_|refine bc ?_|refine aq ?_|refine ap ?_|refine ce ?_|refine aJ ?_|refine bd ?_|refine cf ?_|refine be ?_|refine bf rfl ?_|refine bm ?_|refine bg ?_|refine cg ?_|refine bh ?_|refine aI ?_|refine n_k ?_|refine bi ?_|(refine ae ?_;clear ae X af Y)|(refine af ?_;clear ae X af Y))|(with_reducible refine br ?_;first|refine bo rfl ?_|refine bp rfl ?_)|(with_reducible refine bz ?_;first|refine au rfl rfl rfl rfl ?_|refine aL rfl rfl rfl ?_|refine bv rfl rfl rfl rfl ?_)|(with_reducible refine cD ?_;first|refine bY rfl rfl rfl rfl ?_|refine ck rfl rfl rfl ?_|refine cG rfl rfl rfl rfl ?_|refine cH hN (by apply Exists.intro;apply And.intro;(repeat' (first|apply FtI.nil|apply FI.nil|apply FI.cons|apply FtI.cons));kernel_rfl) ?_)|((first|(with_reducible first|refine bt rfl rfl fun K hK=>?_|refine cE rfl rfl fun K ab=>?_|refine bu rfl rfl fun K aa=>?_|refine cF rfl rfl fun K ac=>?_|refine aK fun X Y ae af=>?_|refine aM ?_));simp (disch:=first|decide|omega|(simp only [List.length_cons,List.length_nil];omega)) only [go_sem,beq_self_eq_true,↓aj,↓ak hN,am hN,reduceIte,reduceCtorEq,Nat.reduceAdd,Nat.reduceLT,Nat.reduceLeDiff,Nat.reduceEqDiff,Nat.reduceSub])|(with_reducible refine And.intro (fun h=>?_) (fun h=>?_) <;> try (exfalso;omega))|(with_reducible refine bn aP hN rfl ?_ ?_;kernel_rfl)|(with_reducible refine bZ aP hN rfl ?_ ?_ ?_ ?_;(kernel_rfl);(kernel_rfl);(kernel_rfl))|(refine bK h1 ?_ rfl (fun _=>rfl) ?_)|(refine bK h2 ?_ rfl (fun _=>rfl) ?_)|(refine bK h3 ?_ rfl (fun _=>rfl) ?_)|(with_reducible first|exact aG|refine aF ?_ ?_|exact cC _|refine bC ?_|exact ba _|exact b9 _ _|refine b8 ?_|exact aZ _)|exact bD hN rfl rfl|(refine b7 hN rfl ?_;first|exact aN _|exact aO _)|exact a8 rfl rfl rfl|(simp only [bB,List.map_nil])|(with_reducible refine cm ?_)|(with_reducible refine And.intro ?_ ?_)|(refine ah ?_;omega)|(exact bw hN (by decide))))
 (refine fl hN [3,4] (by decide) (.inr rfl) (by first|exact cP rfl rfl|exact cI hN rfl rfl rfl rfl|exact cA hN rfl rfl rfl rfl rfl|(simp (disch:=first|decide|omega|(simp only [List.length_cons,List.length_nil];omega)) only [cj,cn,cu,cy,go_sem,beq_self_eq_true,↓aj,↓ak hN,am hN,reduceIte,reduceCtorEq,Nat.reduceAdd,Nat.reduceLT,Nat.reduceLeDiff,Nat.reduceEqDiff,Nat.reduceSub];rfl)|rfl) ?_ fun νs hνs=>?_;(repeat' (first|exact Gone.nil|(refine Gone.cons rfl rfl ?_ ?_)|(with_reducible refine ec ?_)|(with_reducible refine eb ?_)|(with_reducible refine SVs.cons ?_ ?_)|(with_reducible exact SVs.nil)|(simp only [List.drop,List.take])|(simp (disch:=first|decide|omega) only [↓aj,reduceIte,reduceCtorEq,Nat.reduceEqDiff])|(with_reducible exact iu _)|(with_reducible exact d8 _)|(exact d9 rfl rfl rfl)|(exact eG 0 (by simp) rfl rfl)|(exact eG 1 (by simp) rfl rfl)|(refine fk hN rfl (ee hN (by decide)) ?_)|(with_reducible refine fj ?_)|(with_reducible rfl)|(with_reducible refine bF ?_)|(with_reducible refine bH ?_)|(with_reducible refine bI ?_)|(with_reducible refine bG ?_)|(with_reducible refine bE ?_)|(refine ah ?_;omega))))
end Go.Proofs.Ytfaefmabjjndeaa
