/-
  Solved: the reference's side.
-/
import Derived.Test.YtfaefmabjjndeaaZmE21
namespace Go.Proofs.Ytfaefmabjjndeaa
set_option linter.unusedVariables false
set_option linter.unusedSimpArgs false
open Go.RowKit
theorem qT {O : Nat → Prop} {T : TypeId} {lo hi : Nat} {w : World} {v : Value} {us : List Value} (d : Value) (h : b7 T lo hi w v us) (hO : ∀ b,blk v = some b → lo ≤ b → ¬ O b) {c : C} {V : View} (hv : c.view = some V) (hl : V.len = us.length) (hwd : V.wd = 1) (hn : c.isNN = false)
  (hr : ∀ i,i < us.length → Rd O w (V.at' i 0) (us.getD i d)) : Rd O w c v:=by
 have hlt:=h.lt
 obtain ⟨sa,cp,rfl,hc⟩:=h.form d
 rw [← hl] at hc hr hlt hO ⊢
 refine .sl (vs:=fun i _=>us.getD i d) hv (fun e=>by rw [hn] at e;cases e) hc.cap hc.max hc.nil (fun ad e hpos=>?_) (fun ad e i hi j hj=>?_) (fun i hi j hj=>?_)
 · obtain ⟨b,o,e',hb,_⟩:=hc.get hpos
   rw [e] at e';injection e' with e';subst e'
   subst e
   exact ⟨rfl,hO _ rfl (hlt b rfl).1,hb⟩
 · have : j = 0:=by omega
   subst this
   rw [hwd,Nat.mul_one,Nat.add_zero]
   exact hc.cell ad e i hi
 · have : j = 0:=by omega
   subst this
   exact hr i hi
theorem uo {O : Nat → Prop} {lo hi : Nat} {w : World} {v : Value} {xs : List Int} (h : b9 lo hi w v xs) (hO : ∀ b,blk v = some b → lo ≤ b → ¬ O b) : Rd O w (.I xs) v :=
 qT (.int .i64 0) h hO rfl (by simp) rfl rfl fun i hi=>by rw [hH];exact .int _ _
theorem yP (g : Pa) (hg : PaOk g) : qS g:=by
 have hn1 : 0 < (dO g).pick.length:=by
  show 0 < (tab g.prio.length _).length
  rw [cy]
  have:=hg.ar.pos;have:=hg.len;omega
 unfold qS aG
 refine ⟨⟨_,Try.func136,rfl,rfl⟩,fun φ0 hp0 w vs hX H hl hv=>?_⟩
 obtain ⟨v,rfl,ha⟩:=pN (AVs.of hl hv)
 refine (tU v g w (rD ha) hg).mono fun e w' ⟨vo,vp,vn,vq,vk,us,he,hv',h1,h2,h3,h4,h5,h6,hbw⟩=>⟨_,he,?_⟩
 intro ν hl hn hf
 match ν,hl with
 | [ν], _ =>
   have hν : hp0 ν = none:=hf ν (by simp)
   rcases h5 with ⟨_,e5⟩|⟨b,cap,cur,e1,e2,e3,e4,e5,e6,e7,e8⟩
   · have:=congrArg List.length e5
     simp at this
     simp [this] at hn1
   rw [List.length_map] at e1 e5 e8
   have hbk : blk vk = some b:=by rw [e1];rfl
   obtain ⟨p1,p2⟩:=H.put hν (fz:=[]) (fun x hx=>by cases hx) (loc:=.at b 0 (dO g).pick.length cap 1) (e:=.arr 2 .yes (.I (dO g).pick)) hbw hbw.size (fun g' hg'=>.inl (by injection hg' with hg';omega)) (fun b' hb' _=>hbw.block b' hb') (fun _=>by
    refine ⟨_,rfl,rfl,.inr ⟨b,0,cap,cur,rfl,e4,e5,by unfold maxLen at e6;omega,(by show 0 + cap * 1 ≤ _;omega),fun _=>⟨rfl,(by show cap * 1 = _;omega)⟩,fun i hi j hj=>?_⟩⟩
    have hj0 : j = 0:=by have : j < 1:=hj;omega
    subst hj0
    have hi' : i < (dO g).pick.length:=hi
    have hc : cur[i]? = some (.int .i64 (gi (dO g).pick i)):=by
     have h8:=congrArg (fun l=>l[i]?) e8
     simp only [List.getElem?_take,List.getElem?_map,hi',if_true,Array.getElem?_toList] at h8
     rw [h8,gi,List.getD_eq_getElem?_getD,List.getElem?_eq_getElem hi']
     rfl
    exact ⟨_,by rw [show 0 + (i * 1 + 0) = i by omega];exact hc,.int _ _⟩)
   refine ⟨_,p1,p2,?_⟩
   have ha':=ha.evo p2
   subst hv'
   obtain ⟨xs,ex,hx⟩:=j7 ha'
   have e3 : xs = [vo,vn,vp]:=by simpa using (congrArg Array.toList (Value.agg.inj ex)).symm
   subst e3
   have own : ∀ b',w.heap.size ≤ b' → b' ≠ b → ¬ Own (upd φ0 ν (.at b 0 (dO g).pick.length cap 1)) (upd (bC hp0 (cW [])) ν (some (.arr 2 .yes (.I (dO g).pick)))) b':=fun b' hb' hne ⟨x,hlx,hbx⟩=>by
    by_cases ex : x = ν
    · subst ex
      rw [bY] at hbx
      injection hbx with hbx
      exact hne hbx.symm
    · rw [cV ex] at hbx
      obtain ⟨e',he',hk'⟩:=hlx
      rw [cV ex] at he'
      have:=H.own_lt ⟨x,⟨e',he',hk'⟩,hbx⟩
      omega
   match hx with
   | .cons a1 (.cons a2 (.cons a3 .nil)) =>
     refine qA (vs:=[vo,vp,vn,vq,vk]) (.cons a1 (.cons a3 (.cons a2 (.cons (.c ?_) (.cons ?_ .nil)))))
     · refine qT (.slice none 0 0) h4.2.1 (fun b' hb' hlo=>own b' hlo fun e=>?_) rfl h4.1.symm rfl rfl fun i hi=>uo (h4.2.2.1 i (by rw [← h4.1];exact hi)) fun b' hb' hlo=>own b' hlo fun e=>?_
       · subst e
         rcases h4.2.1 with ⟨q1,_⟩|⟨b2,cap2,cur2,q1,q2,q3,q4,_⟩
         · rw [q1] at hb';cases hb'
         · rw [q1] at hb'
           have hbb : b2 = b':=by injection hb'
           subst hbb
           rw [q4] at e4
           injection e4 with e4
           injection e4 with _ e4
           exact absurd e4 (by decide)
       · subst e
         refine h6 b' hbk (List.mem_filterMap.2 ⟨_,?_,hb'⟩)
         rw [List.getD_eq_getElem?_getD,List.getElem?_eq_getElem hi]
         exact List.getElem_mem hi
     · rw [e1]
       refine (congrArg (AVC _ _ w' (.sl ν)) ?_).mp (AVC.sl (ν:=ν) (e:=.arr 2 .yes (.I (dO g).pick)) (bY _ _ _) rfl)
       rw [bY];rfl
end Go.Proofs.Ytfaefmabjjndeaa
namespace Go.Proofs.Ytfaefmabjjndeaa
set_option linter.unusedVariables false
set_option linter.unusedSimpArgs false
open Go.RowKit
attribute [local irreducible] aG cP Aw Le
theorem uq {g : Pa} (hg : PaOk g) : pgP (eO g (noP g.prio.length)) = pgP g:=(nh hg (uk hg).pk).symm
theorem ur {g : Pa} (hg : PaOk g) : cj (eO g (noP g.prio.length)) = cj g:=by
 show (tab g.prio.length fun v=>if tf (PG.Won (pgP (eO g (noP g.prio.length))) 0 (gf g) v) then 0 else 1) = cj g
 rw [uq hg];rfl
theorem ut {g : Pa} (hg : PaOk g) : vO g (noP g.prio.length) :=
 ⟨⟨⟨hg,(uk hg).pk⟩,ur hg⟩,fun v hv h=>by rw [noP,cy] at hv;rw [noP,cK _ hv] at h;omega⟩
theorem oM (g : Pa) (ps : List Int) (h : vO g ps) : aG Try.prog 91 [paA g,.c (.I ps)] [.arr 2 .yes (.I (cj g)),.arr 2 .yes (.I (iF g (cj g) ps g.prio.length))] (fun ns=>.tup [.agg [.sl (ns.getD 0 0),.sl (ns.getD 1 0)],.c (.bool true)]):=ni g ps h (yP g h.1.1.1)
theorem sd (g : Pa) (hg : PaOk g) : aG Try.prog 25 [paA g] [.arr 2 .yes (.I (cj g)),.arr 2 .yes (.I (iF g (cj g) (noP g.prio.length) g.prio.length))] (fun ns=>.agg [.sl (ns.getD 0 0),.sl (ns.getD 1 0)]):=by
 have hl:=hg.len
 have hle:=hg.ar.le
 have h1:=kR g
 rw [bP hg] at h1
 have h2:=ul g.prio.length (by omega)
 have h3:=oM g _ (ut hg)
 (refine b8 aP Try.func25 rfl rfl (by kernel_rfl) fun hp0 ν hX hN=>?_;simp only [cS,Nat.reduceAdd])
 (repeat' (first|(with_reducible first|(refine hK _ _ ?_;clear hK K)|(refine aa _ ?_;clear aa K)|(refine ab _ _ _ ?_;clear ab K)|(refine ac _ _ ?_;clear ac K)|refine bm ?_|refine ce ?_|refine bd ?_|refine ax ?_|refine au ?_|refine cf ?_|refine aK ?_|refine be ?_|refine cg ?_|refine bf ?_|refine bg rfl ?_|refine bn ?_|refine bh ?_|refine ch ?_|refine bi ?_|refine aJ ?_|refine n_k ?_|refine bj ?_|(refine ae ?_;clear ae X af Y)|(refine af ?_;clear ae X af Y))|(with_reducible refine bt ?_;first|refine bp rfl ?_|refine br rfl ?_)|(with_reducible refine bA ?_;first|refine ay rfl rfl rfl rfl ?_|refine aM rfl rfl rfl ?_|refine bw rfl rfl rfl rfl ?_)|(with_reducible refine cx ?_;first|refine bM rfl rfl rfl rfl ?_|refine ci rfl rfl rfl ?_|refine cD rfl rfl rfl rfl ?_|refine cE hN (by apply Exists.intro;apply And.intro;(repeat' (first|apply FtI.nil|apply FI.nil|apply FI.cons|apply FtI.cons));kernel_rfl) ?_)|((first|(with_reducible first|refine bu rfl rfl fun K hK=>?_|refine cB rfl rfl fun K ab=>?_|refine bv rfl rfl fun K aa=>?_|refine cC rfl rfl fun K ac=>?_|refine aL fun X Y ae af=>?_|refine aN ?_));simp (disch:=first|decide|omega|(simp only [List.length_cons,List.length_nil];omega)) only [go_sem,beq_self_eq_true,↓aj,↓ak hN,am hN,reduceIte,reduceCtorEq,Nat.reduceAdd,Nat.reduceLT,Nat.reduceLeDiff,Nat.reduceEqDiff,Nat.reduceSub])|(with_reducible refine And.intro (fun h=>?_) (fun h=>?_) <;> try (exfalso;omega))|(with_reducible refine bo aP hN rfl ?_ ?_;kernel_rfl)|(with_reducible refine bO aP hN rfl ?_ ?_ ?_ ?_;(kernel_rfl);(kernel_rfl);(kernel_rfl))|(refine bc h1 ?_ rfl (fun _=>rfl) ?_)|(refine bc h2 ?_ rfl (fun _=>rfl) ?_)|(refine bc h3 ?_ rfl (fun _=>rfl) ?_)|(with_reducible first|exact aq|refine ao ?_ ?_|exact cn _|refine aZ ?_|exact aS _|exact bG _ _|refine bF ?_|exact aQ _)|exact a8 hN rfl rfl|(refine bE hN rfl ?_;first|exact aH _|exact aI _)|exact aR rfl rfl rfl|(simp only [bC,List.map_nil])|(with_reducible refine cc ?_)|(with_reducible refine And.intro ?_ ?_)|(refine ah ?_;omega)|(exact bz hN (by decide))))
 (refine iD hN [3,4] (by decide) (.inr rfl) (by first|exact cY rfl rfl|exact cR hN rfl rfl rfl rfl|exact cM hN rfl rfl rfl rfl rfl|(simp (disch:=first|decide|omega|(simp only [List.length_cons,List.length_nil];omega)) only [cw,cA,cF,cG,go_sem,beq_self_eq_true,↓aj,↓ak hN,am hN,reduceIte,reduceCtorEq,Nat.reduceAdd,Nat.reduceLT,Nat.reduceLeDiff,Nat.reduceEqDiff,Nat.reduceSub];rfl)|rfl) ?_ fun νs hνs=>?_;(repeat' (first|exact Gone.nil|(refine Gone.cons rfl rfl ?_ ?_)|(with_reducible refine fM ?_)|(with_reducible refine fL ?_)|(with_reducible refine SVs.cons ?_ ?_)|(with_reducible exact SVs.nil)|(simp only [List.drop,List.take])|(simp (disch:=first|decide|omega) only [↓aj,reduceIte,reduceCtorEq,Nat.reduceEqDiff])|(with_reducible exact lw _)|(with_reducible exact fJ _)|(exact fK rfl rfl rfl)|(exact fX 0 (by simp) rfl rfl)|(exact fX 1 (by simp) rfl rfl)|(refine iC hN rfl (fN hN (by decide)) ?_)|(with_reducible refine iB ?_)|(with_reducible rfl)|(with_reducible refine bJ ?_)|(with_reducible refine bK ?_)|(with_reducible refine bL ?_)|(with_reducible refine bH ?_)|(with_reducible refine bI ?_)|(refine ah ?_;omega))))
end Go.Proofs.Ytfaefmabjjndeaa
