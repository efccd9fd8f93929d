/-
  Solved: the reference's side.
-/
import Derived.Test.YthjamlponejffaaZhE21
namespace Go.Proofs.Ythjamlponejffaa
set_option linter.unusedVariables false
set_option linter.unusedSimpArgs false
open Go.RowKit
theorem pK {O : Nat → Prop} {T : TypeId} {lo hi : Nat} {w : World} {v : Value} {us : List Value} (d : Value) (h : br T lo hi w v us) (hO : ∀ b,blk v = some b → lo ≤ b → ¬ O b) {c : C} {V : View} (hv : c.view = some V) (hl : V.len = us.length) (hwd : V.wd = 1) (hn : c.isNN = false)
  (hr : ∀ i,i < us.length → Rd O w (V.at' i 0) (us.getD i d)) : Rd O w c v:=by
 have hlt:=h.lt
 obtain ⟨sa,cp,rfl,hc⟩:=h.form d
 rw [← hl] at hc hr hlt hO ⊢
 refine .sl (vs:=fun i _=>us.getD i d) hv (fun e=>by rw [hn] at e;cases e) hc.cap hc.max hc.nil (fun ad e hpos=>?_) (fun ad e i hi j hj=>?_) (fun i hi j hj=>?_)
 · obtain ⟨b,o,e',hb,_⟩:=hc.get hpos
   rw [e] at e';injection e' with e';subst e'
   subst e
   exact ⟨rfl,hO _ rfl (hlt b rfl).1,hb⟩
 · have : j = 0:=by omega
   subst this
   rw [hwd,Nat.mul_one,Nat.add_zero]
   exact hc.cell ad e i hi
 · have : j = 0:=by omega
   subst this
   exact hr i hi
theorem tk {O : Nat → Prop} {lo hi : Nat} {w : World} {v : Value} {xs : List Int} (h : bp lo hi w v xs) (hO : ∀ b,blk v = some b → lo ≤ b → ¬ O b) : Rd O w (.I xs) v :=
 pK (.int .i64 0) h hO rfl (by simp) rfl rfl fun i hi=>by rw [gA];exact .int _ _
theorem yc (g : Pa) (hg : PaOk g) : pJ g:=by
 have hn1 : 0 < (c8 g).pick.length:=by
  show 0 < (tab g.prio.length _).length
  rw [bY]
  have:=hg.ar.pos;have:=hg.len;omega
 unfold pJ ap
 refine ⟨⟨_,Try.func47,rfl,rfl⟩,fun φ0 hp0 w vs hX H hl hv=>?_⟩
 obtain ⟨v,rfl,ha⟩:=uj (AVs.of hl hv)
 refine (sJ v g w (od ha) hg).mono fun e w' ⟨vo,vp,vn,vq,vk,us,he,hv',h1,h2,h3,h4,h5,h6,hbw⟩=>⟨_,he,?_⟩
 intro ν hl hn hf
 match ν,hl with
 | [ν], _ =>
   have hν : hp0 ν = none:=hf ν (by simp)
   rcases h5 with ⟨_,e5⟩|⟨b,cap,cur,e1,e2,e3,e4,e5,e6,e7,e8⟩
   · have:=congrArg List.length e5
     simp at this
     simp [this] at hn1
   rw [List.length_map] at e1 e5 e8
   have hbk : blk vk = some b:=by rw [e1];rfl
   obtain ⟨p1,p2⟩:=H.put hν (fz:=[]) (fun x hx=>by cases hx) (loc:=.at b 0 (c8 g).pick.length cap 1) (e:=.arr 2 .yes (.I (c8 g).pick)) hbw hbw.size (fun g' hg'=>.inl (by injection hg' with hg';omega)) (fun b' hb' _=>hbw.block b' hb') (fun _=>by
    refine ⟨_,rfl,rfl,.inr ⟨b,0,cap,cur,rfl,e4,e5,by unfold maxLen at e6;omega,(by show 0 + cap * 1 ≤ _;omega),fun _=>⟨rfl,(by show cap * 1 = _;omega)⟩,fun i hi j hj=>?_⟩⟩
    have hj0 : j = 0:=by have : j < 1:=hj;omega
    subst hj0
    have hi' : i < (c8 g).pick.length:=hi
    have hc : cur[i]? = some (.int .i64 (gi (c8 g).pick i)):=by
     have h8:=congrArg (fun l=>l[i]?) e8
     simp only [List.getElem?_take,List.getElem?_map,hi',if_true,Array.getElem?_toList] at h8
     rw [h8,gi,List.getD_eq_getElem?_getD,List.getElem?_eq_getElem hi']
     rfl
    exact ⟨_,by rw [show 0 + (i * 1 + 0) = i by omega];exact hc,.int _ _⟩)
   refine ⟨_,p1,p2,?_⟩
   have ha':=ha.evo p2
   subst hv'
   obtain ⟨xs,ex,hx⟩:=lO ha'
   have e3 : xs = [vo,vn,vp]:=by simpa using (congrArg Array.toList (Value.agg.inj ex)).symm
   subst e3
   have own : ∀ b',w.heap.size ≤ b' → b' ≠ b → ¬ Own (upd φ0 ν (.at b 0 (c8 g).pick.length cap 1)) (upd (ba hp0 (cj [])) ν (some (.arr 2 .yes (.I (c8 g).pick)))) b':=fun b' hb' hne ⟨x,hlx,hbx⟩=>by
    by_cases ex : x = ν
    · subst ex
      rw [bn] at hbx
      injection hbx with hbx
      exact hne hbx.symm
    · rw [ci ex] at hbx
      obtain ⟨e',he',hk'⟩:=hlx
      rw [ci ex] at he'
      have:=H.own_lt ⟨x,⟨e',he',hk'⟩,hbx⟩
      omega
   match hx with
   | .cons a1 (.cons a2 (.cons a3 .nil)) =>
     refine jx (vs:=[vo,vp,vn,vq,vk]) (.cons a1 (.cons a3 (.cons a2 (.cons (.c ?_) (.cons ?_ .nil)))))
     · refine pK (.slice none 0 0) h4.2.1 (fun b' hb' hlo=>own b' hlo fun e=>?_) rfl h4.1.symm rfl rfl fun i hi=>tk (h4.2.2.1 i (by rw [← h4.1];exact hi)) fun b' hb' hlo=>own b' hlo fun e=>?_
       · subst e
         rcases h4.2.1 with ⟨q1,_⟩|⟨b2,cap2,cur2,q1,q2,q3,q4,_⟩
         · rw [q1] at hb';cases hb'
         · rw [q1] at hb'
           have hbb : b2 = b':=by injection hb'
           subst hbb
           rw [q4] at e4
           injection e4 with e4
           injection e4 with _ e4
           exact absurd e4 (by decide)
       · subst e
         refine h6 b' hbk (List.mem_filterMap.2 ⟨_,?_,hb'⟩)
         rw [List.getD_eq_getElem?_getD,List.getElem?_eq_getElem hi]
         exact List.getElem_mem hi
     · rw [e1]
       refine (congrArg (AVC _ _ w' (.sl ν)) ?_).mp (AVC.sl (ν:=ν) (e:=.arr 2 .yes (.I (c8 g).pick)) (bn _ _ _) rfl)
       rw [bn];rfl
end Go.Proofs.Ythjamlponejffaa
namespace Go.Proofs.Ythjamlponejffaa
set_option linter.unusedVariables false
set_option linter.unusedSimpArgs false
open Go.RowKit
attribute [local irreducible] ap b7 Aw Le
theorem tl {g : Pa} (hg : PaOk g) : pgP (d7 g (noP g.prio.length)) = pgP g:=(l5 hg (td hg).pk).symm
theorem tn {g : Pa} (hg : PaOk g) : bo (d7 g (noP g.prio.length)) = bo g:=by
 show (tab g.prio.length fun v=>if tf (PG.Won (pgP (d7 g (noP g.prio.length))) 0 (d6 g) v) then 0 else 1) = bo g
 rw [tl hg];rfl
theorem tp {g : Pa} (hg : PaOk g) : uO g (noP g.prio.length) :=
 ⟨⟨⟨hg,(td hg).pk⟩,tn hg⟩,fun v hv h=>by rw [noP,bY] at hv;rw [noP,cH _ hv] at h;omega⟩
theorem nl (g : Pa) (ps : List Int) (h : uO g ps) : ap Try.prog 72 [paA g,.c (.I ps)] [.arr 2 .yes (.I (bo g)),.arr 2 .yes (.I (gy g (bo g) ps g.prio.length))] (fun ns=>.tup [.agg [.sl (ns.getD 0 0),.sl (ns.getD 1 0)],.c (.bool true)]):=l6 g ps h (yc g h.1.1.1)
theorem q9 (g : Pa) (hg : PaOk g) : ap Try.prog 33 [paA g] [.arr 2 .yes (.I (bo g)),.arr 2 .yes (.I (gy g (bo g) (noP g.prio.length) g.prio.length))] (fun ns=>.agg [.sl (ns.getD 0 0),.sl (ns.getD 1 0)]):=by
 have hl:=hg.len
 have hle:=hg.ar.le
 have h1:=iu g
 rw [bc hg] at h1
 have h2:=tg g.prio.length (by omega)
 have h3:=nl g _ (tp hg)
 (refine bf aI Try.func33 rfl rfl (by kernel_rfl) fun hp0 ν hX hN=>?_;simp only [bW,Nat.reduceAdd])
 (repeat' (first|(with_reducible first|(apply hK;clear hK K)|refine stZ ?_|refine aT rfl ?_|((first|apply ae|apply af);clear ae X af Y))|(with_reducible refine aW ?_;first|refine aU rfl ?_|refine aV rfl ?_)|(with_reducible refine b8 ?_;refine cc hN ?_)|((with_reducible first|((first|refine aZ ?_|refine ce ?_|refine a8 ?_|refine cf ?_);intro K hK)|(refine aE ?_;intro X Y ae af)|refine aF ?_);simp (disch:=first|decide|omega|(simp only [List.length_cons,List.length_nil];omega)) only [go_sem,↓aj hN,ak hN,reduceIte,reduceCtorEq,Nat.reduceAdd,Nat.reduceLT,Nat.reduceLeDiff,Nat.reduceEqDiff,Nat.reduceSub])|(with_reducible refine And.intro (fun h=>?_) (fun h=>?_) <;> try (exfalso;omega))|(with_reducible refine aY aI hN ?_)|(with_reducible refine bF aI hN ?_)|(refine aB h1 ?_ rfl (fun _=>rfl) ?_)|(refine aB h2 ?_ rfl (fun _=>rfl) ?_)|(refine aB h3 ?_ rfl (fun _=>rfl) ?_)|(with_reducible first|exact aq|refine am ?_ ?_|exact bH _|refine aM ?_|exact aL _|exact bj _ _|refine bi ?_|exact aJ _)|exact aN hN rfl rfl|(refine bh hN rfl ?_;first|exact aC _|exact aD _)|exact aK rfl rfl rfl|(simp only [ba,List.map_nil])|(with_reducible refine bu ?_)|(with_reducible refine And.intro ?_ ?_)|(refine ah ?_;omega)|(exact aX hN (by decide))))
 (refine dY hN [3,4] (by decide) (.inr rfl) (by first|exact bZ rfl rfl|exact bU hN rfl rfl rfl rfl|exact bQ hN rfl rfl rfl rfl rfl|(simp (disch:=first|decide|omega|(simp only [List.length_cons,List.length_nil];omega)) only [bG,bK,bN,bO,go_sem,beq_self_eq_true,↓ao,↓aj hN,ak hN,reduceIte,reduceCtorEq,Nat.reduceAdd,Nat.reduceLT,Nat.reduceLeDiff,Nat.reduceEqDiff,Nat.reduceSub];rfl)|rfl) ?_ fun νs hνs=>?_;(repeat' (first|exact Gone.nil|(refine Gone.cons rfl rfl ?_ ?_)|(with_reducible refine di ?_)|(with_reducible refine dh ?_)|(with_reducible refine SVs.cons ?_ ?_)|(with_reducible exact SVs.nil)|(simp only [List.drop,List.take])|(simp (disch:=first|decide|omega) only [↓ao,reduceIte,reduceCtorEq,Nat.reduceEqDiff])|(with_reducible exact ge _)|(with_reducible exact df _)|(exact dg rfl rfl rfl)|(exact dI 0 (by simp) rfl rfl)|(exact dI 1 (by simp) rfl rfl)|(refine dW hN rfl (dj hN (by decide)) ?_)|(with_reducible refine dV ?_)|(with_reducible rfl)|(with_reducible refine gj ?_)|(with_reducible refine gl ?_)|(with_reducible refine gm ?_)|(with_reducible refine fV ?_)|(with_reducible refine fK ?_)|(refine ah ?_;omega))))
end Go.Proofs.Ythjamlponejffaa
