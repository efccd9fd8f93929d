/-
  Solved: the reference's side.
-/
import Derived.Test.YtfaefmabjjndeaaZrE21
namespace Go.Proofs.Ytfaefmabjjndeaa
set_option linter.unusedVariables false
set_option linter.unusedSimpArgs false
open Go.RowKit
theorem ox {O : Nat → Prop} {T : TypeId} {lo hi : Nat} {w : World} {v : Value} {us : List Value} (d : Value) (h : bV T lo hi w v us) (hO : ∀ b,blk v = some b → lo ≤ b → ¬ O b) {c : C} {V : View} (hv : c.view = some V) (hl : V.len = us.length) (hwd : V.wd = 1) (hn : c.isNN = false)
  (hr : ∀ i,i < us.length → Rd O w (V.at' i 0) (us.getD i d)) : Rd O w c v:=by
 have hlt:=h.lt
 obtain ⟨sa,cp,rfl,hc⟩:=h.form d
 rw [← hl] at hc hr hlt hO ⊢
 refine .sl (vs:=fun i _=>us.getD i d) hv (fun e=>by rw [hn] at e;cases e) hc.cap hc.max hc.nil (fun ad e hpos=>?_) (fun ad e i hi j hj=>?_) (fun i hi j hj=>?_)
 · obtain ⟨b,o,e',hb,_⟩:=hc.get hpos
   rw [e] at e';injection e' with e';subst e'
   subst e
   exact ⟨rfl,hO _ rfl (hlt b rfl).1,hb⟩
 · have : j = 0:=by omega
   subst this
   rw [hwd,Nat.mul_one,Nat.add_zero]
   exact hc.cell ad e i hi
 · have : j = 0:=by omega
   subst this
   exact hr i hi
theorem rq {O : Nat → Prop} {lo hi : Nat} {w : World} {v : Value} {xs : List Int} (h : cn lo hi w v xs) (hO : ∀ b,blk v = some b → lo ≤ b → ¬ O b) : Rd O w (.I xs) v :=
 ox (.int .i64 0) h hO rfl (by simp) rfl rfl fun i hi=>by rw [gy];exact .int _ _
theorem u6 (g : Pa) (hg : PaOk g) : ow g:=by
 have hn1 : 0 < (dD g).pick.length:=by
  show 0 < (tab g.prio.length _).length
  rw [cj]
  have:=hg.ar.pos;have:=hg.len;omega
 unfold ow aF
 refine ⟨⟨_,Try.func136,rfl,rfl⟩,fun φ0 hp0 w vs hX H hl hv=>?_⟩
 obtain ⟨v,rfl,ha⟩:=qC (AVs.of hl hv)
 refine (qP v g w (rY ha) hg).mono fun e w' ⟨vo,vp,vn,vq,vk,us,he,hv',h1,h2,h3,h4,h5,h6,hbw⟩=>⟨_,he,?_⟩
 intro ν hl hn hf
 match ν,hl with
 | [ν], _ =>
   have hν : hp0 ν = none:=hf ν (by simp)
   rcases h5 with ⟨_,e5⟩|⟨b,cap,cur,e1,e2,e3,e4,e5,e6,e7,e8⟩
   · have:=congrArg List.length e5
     simp at this
     simp [this] at hn1
   rw [List.length_map] at e1 e5 e8
   have hbk : blk vk = some b:=by rw [e1];rfl
   obtain ⟨p1,p2⟩:=H.put hν (fz:=[]) (fun x hx=>by cases hx) (loc:=.at b 0 (dD g).pick.length cap 1) (e:=.arr 2 .yes (.I (dD g).pick)) hbw hbw.size (fun g' hg'=>.inl (by injection hg' with hg';omega)) (fun b' hb' _=>hbw.block b' hb') (fun _=>by
    refine ⟨_,rfl,rfl,.inr ⟨b,0,cap,cur,rfl,e4,e5,by unfold maxLen at e6;omega,(by show 0 + cap * 1 ≤ _;omega),fun _=>⟨rfl,(by show cap * 1 = _;omega)⟩,fun i hi j hj=>?_⟩⟩
    have hj0 : j = 0:=by have : j < 1:=hj;omega
    subst hj0
    have hi' : i < (dD g).pick.length:=hi
    have hc : cur[i]? = some (.int .i64 (gi (dD g).pick i)):=by
     have h8:=congrArg (fun l=>l[i]?) e8
     simp only [List.getElem?_take,List.getElem?_map,hi',if_true,Array.getElem?_toList] at h8
     rw [h8,gi,List.getD_eq_getElem?_getD,List.getElem?_eq_getElem hi']
     rfl
    exact ⟨_,by rw [show 0 + (i * 1 + 0) = i by omega];exact hc,.int _ _⟩)
   refine ⟨_,p1,p2,?_⟩
   have ha':=ha.evo p2
   subst hv'
   obtain ⟨xs,ex,hx⟩:=jj ha'
   have e3 : xs = [vo,vn,vp]:=by simpa using (congrArg Array.toList (Value.agg.inj ex)).symm
   subst e3
   have own : ∀ b',w.heap.size ≤ b' → b' ≠ b → ¬ Own (upd φ0 ν (.at b 0 (dD g).pick.length cap 1)) (upd (bJ hp0 (cR [])) ν (some (.arr 2 .yes (.I (dD g).pick)))) b':=fun b' hb' hne ⟨x,hlx,hbx⟩=>by
    by_cases ex : x = ν
    · subst ex
      rw [bW] at hbx
      injection hbx with hbx
      exact hne hbx.symm
    · rw [cQ ex] at hbx
      obtain ⟨e',he',hk'⟩:=hlx
      rw [cQ ex] at he'
      have:=H.own_lt ⟨x,⟨e',he',hk'⟩,hbx⟩
      omega
   match hx with
   | .cons a1 (.cons a2 (.cons a3 .nil)) =>
     refine n6 (vs:=[vo,vp,vn,vq,vk]) (.cons a1 (.cons a3 (.cons a2 (.cons (.c ?_) (.cons ?_ .nil)))))
     · refine ox (.slice none 0 0) h4.2.1 (fun b' hb' hlo=>own b' hlo fun e=>?_) rfl h4.1.symm rfl rfl fun i hi=>rq (h4.2.2.1 i (by rw [← h4.1];exact hi)) fun b' hb' hlo=>own b' hlo fun e=>?_
       · subst e
         rcases h4.2.1 with ⟨q1,_⟩|⟨b2,cap2,cur2,q1,q2,q3,q4,_⟩
         · rw [q1] at hb';cases hb'
         · rw [q1] at hb'
           have hbb : b2 = b':=by injection hb'
           subst hbb
           rw [q4] at e4
           injection e4 with e4
           injection e4 with _ e4
           exact absurd e4 (by decide)
       · subst e
         refine h6 b' hbk (List.mem_filterMap.2 ⟨_,?_,hb'⟩)
         rw [List.getD_eq_getElem?_getD,List.getElem?_eq_getElem hi]
         exact List.getElem_mem hi
     · rw [e1]
       refine (congrArg (AVC _ _ w' (.sl ν)) ?_).mp (AVC.sl (ν:=ν) (e:=.arr 2 .yes (.I (dD g).pick)) (bW _ _ _) rfl)
       rw [bW];rfl
end Go.Proofs.Ytfaefmabjjndeaa
namespace Go.Proofs.Ytfaefmabjjndeaa
set_option linter.unusedVariables false
set_option linter.unusedSimpArgs false
open Go.RowKit
attribute [local irreducible] aF cL Aw Le
theorem rr {g : Pa} (hg : PaOk g) : pgP (er g (noP g.prio.length)) = pgP g:=(lC hg (rm hg).pk).symm
theorem rt {g : Pa} (hg : PaOk g) : bS (er g (noP g.prio.length)) = bS g:=by
 show (tab g.prio.length fun v=>if tf (PG.Won (pgP (er g (noP g.prio.length))) 0 (fk g) v) then 0 else 1) = bS g
 rw [rr hg];rfl
theorem ru {g : Pa} (hg : PaOk g) : sF g (noP g.prio.length) :=
 ⟨⟨⟨hg,(rm hg).pk⟩,rt hg⟩,fun v hv h=>by rw [noP,cj] at hv;rw [noP,cV _ hv] at h;omega⟩
theorem mD (g : Pa) (ps : List Int) (h : sF g ps) : aF Try.prog 91 [paA g,.c (.I ps)] [.arr 2 .yes (.I (bS g)),.arr 2 .yes (.I (gc g (bS g) ps g.prio.length))] (fun ns=>.tup [.agg [.sl (ns.getD 0 0),.sl (ns.getD 1 0)],.c (.bool true)]):=lD g ps h (u6 g h.1.1.1)
theorem kO (g : Pa) (hg : PaOk g) : aF Try.prog 25 [paA g] [.arr 2 .yes (.I (bS g)),.arr 2 .yes (.I (gc g (bS g) (noP g.prio.length) g.prio.length))] (fun ns=>.agg [.sl (ns.getD 0 0),.sl (ns.getD 1 0)]):=by
 have hl:=hg.len
 have hle:=hg.ar.le
 have h1:=jL g
 rw [bX hg] at h1
 have h2:=rn g.prio.length (by omega)
 have h3:=mD g _ (ru hg)
 (refine bU aO Try.func25 rfl rfl (by kernel_rfl) fun hp0 ν hX hN=>?_;simp only [cN,Nat.reduceAdd])
 (repeat' (first|(with_reducible first|(refine hK _ _ ?_;clear hK K)|(refine aa _ ?_;clear aa K)|(refine ab _ _ _ ?_;clear ab K)|(refine ac _ _ ?_;clear ac K)|refine bi ?_|refine b8 ?_|refine a9 ?_|refine au ?_|refine aq ?_|refine b9 ?_|refine aI ?_|refine ba ?_|refine ca ?_|refine bc ?_|refine be rfl ?_|refine bj ?_|refine bf ?_|refine cc ?_|refine bg ?_|refine aH ?_|refine n_k ?_|refine bh ?_|(refine ae ?_;clear ae X af Y)|(refine af ?_;clear ae X af Y))|(with_reducible refine bp ?_;first|refine bn rfl ?_|refine bo rfl ?_)|(with_reducible refine a8 ?_;first|refine ax rfl rfl rfl rfl ?_|refine aK rfl rfl rfl ?_|refine bu rfl rfl rfl rfl ?_)|(with_reducible refine cK ?_;first|refine ce rfl rfl rfl rfl ?_|refine cr rfl rfl rfl ?_|refine cI rfl rfl rfl rfl ?_|refine cJ hN (by apply Exists.intro;apply And.intro;(repeat' (first|apply FtI.nil|apply FI.nil|apply FI.cons|apply FtI.cons));kernel_rfl) ?_)|((first|(with_reducible first|refine br rfl rfl fun K hK=>?_|refine cG rfl rfl fun K ab=>?_|refine bt rfl rfl fun K aa=>?_|refine cH rfl rfl fun K ac=>?_|refine aJ fun X Y ae af=>?_|refine aL ?_));simp (disch:=first|decide|omega|(simp only [List.length_cons,List.length_nil];omega)) only [go_sem,beq_self_eq_true,↓aj,↓ak hN,am hN,reduceIte,reduceCtorEq,Nat.reduceAdd,Nat.reduceLT,Nat.reduceLeDiff,Nat.reduceEqDiff,Nat.reduceSub])|(with_reducible refine And.intro (fun h=>?_) (fun h=>?_) <;> try (exfalso;omega))|(with_reducible refine bm aO hN rfl ?_ ?_;kernel_rfl)|(with_reducible refine cf aO hN rfl ?_ ?_ ?_ ?_;(kernel_rfl);(kernel_rfl);(kernel_rfl))|(refine bB h1 ?_ rfl (fun _=>rfl) ?_)|(refine bB h2 ?_ rfl (fun _=>rfl) ?_)|(refine bB h3 ?_ rfl (fun _=>rfl) ?_)|(with_reducible first|exact aG|refine ap ?_ ?_|exact cA _|refine bz ?_|exact aY _|exact b7 _ _|refine bZ ?_|exact aW _)|exact bA hN rfl rfl|(refine bY hN rfl ?_;first|exact aM _|exact aN _)|exact aX rfl rfl rfl|(simp only [bJ,List.map_nil])|(with_reducible refine ci ?_)|(with_reducible refine And.intro ?_ ?_)|(refine ah ?_;omega)|(exact bv hN (by decide))))
 (refine d7 hN [3,4] (by decide) (.inr rfl) (by first|exact cF rfl rfl|exact cw hN rfl rfl rfl rfl|exact cm hN rfl rfl rfl rfl rfl|(simp (disch:=first|decide|omega|(simp only [List.length_cons,List.length_nil];omega)) only [ct,cz,cB,cD,go_sem,beq_self_eq_true,↓aj,↓ak hN,am hN,reduceIte,reduceCtorEq,Nat.reduceAdd,Nat.reduceLT,Nat.reduceLeDiff,Nat.reduceEqDiff,Nat.reduceSub];rfl)|rfl) ?_ fun νs hνs=>?_;(repeat' (first|exact Gone.nil|(refine Gone.cons rfl rfl ?_ ?_)|(with_reducible refine dx ?_)|(with_reducible refine dw ?_)|(with_reducible refine SVs.cons ?_ ?_)|(with_reducible exact SVs.nil)|(simp only [List.drop,List.take])|(simp (disch:=first|decide|omega) only [↓aj,reduceIte,reduceCtorEq,Nat.reduceEqDiff])|(with_reducible exact fU _)|(with_reducible exact du _)|(exact dv rfl rfl rfl)|(exact dS 0 (by simp) rfl rfl)|(exact dS 1 (by simp) rfl rfl)|(refine d6 hN rfl (dy hN (by decide)) ?_)|(with_reducible refine d5 ?_)|(with_reducible rfl)|(with_reducible refine bF ?_)|(with_reducible refine bG ?_)|(with_reducible refine bH ?_)|(with_reducible refine bD ?_)|(with_reducible refine bE ?_)|(refine ah ?_;omega))))
end Go.Proofs.Ytfaefmabjjndeaa
