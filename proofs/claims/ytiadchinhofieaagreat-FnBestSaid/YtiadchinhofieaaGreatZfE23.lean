/-
  Solved: the reference's side.
-/
import Derived.Test.YtiadchinhofieaaGreatZfE21
namespace Go.Proofs.YtiadchinhofieaaGreat
set_option linter.unusedVariables false
set_option linter.unusedSimpArgs false
open Go.RowKit
theorem rK {O : Nat → Prop} {T : TypeId} {lo hi : Nat} {w : World} {v : Value} {us : List Value} (d : Value) (h : bE T lo hi w v us) (hO : ∀ b,blk v = some b → lo ≤ b → ¬ O b) {c : C} {V : View} (hv : c.view = some V) (hl : V.len = us.length) (hwd : V.wd = 1) (hn : c.isNN = false)
  (hr : ∀ i,i < us.length → Rd O w (V.at' i 0) (us.getD i d)) : Rd O w c v:=by
 have hlt:=h.lt
 obtain ⟨sa,cp,rfl,hc⟩:=h.form d
 rw [← hl] at hc hr hlt hO ⊢
 refine .sl (vs:=fun i _=>us.getD i d) hv (fun e=>by rw [hn] at e;cases e) hc.cap hc.max hc.nil (fun ad e hpos=>?_) (fun ad e i hi j hj=>?_) (fun i hi j hj=>?_)
 · obtain ⟨b,o,e',hb,_⟩:=hc.get hpos
   rw [e] at e';injection e' with e';subst e'
   subst e
   exact ⟨rfl,hO _ rfl (hlt b rfl).1,hb⟩
 · have : j = 0:=by omega
   subst this
   rw [hwd,Nat.mul_one,Nat.add_zero]
   exact hc.cell ad e i hi
 · have : j = 0:=by omega
   subst this
   exact hr i hi
theorem uQ {O : Nat → Prop} {lo hi : Nat} {w : World} {v : Value} {xs : List Int} (h : bQ lo hi w v xs) (hO : ∀ b,blk v = some b → lo ≤ b → ¬ O b) : Rd O w (.I xs) v :=
 rK (.int .i64 0) h hO rfl (by simp) rfl rfl fun i hi=>by rw [iv];exact .int _ _
theorem Av (g : Pa) (hg : PaOk g) : rJ g:=by
 have hn1 : 0 < (dE g).pick.length:=by
  show 0 < (tab g.prio.length _).length
  rw [cr]
  have:=hg.ar.pos;have:=hg.len;omega
 unfold rJ aO
 refine ⟨⟨_,Tryz.func48,rfl,rfl⟩,fun φ0 hp0 w vs hX H hl hv=>?_⟩
 obtain ⟨v,rfl,ha⟩:=sJ (AVs.of hl hv)
 refine (uu v g w (wF ha) hg).mono fun e w' ⟨vo,vp,vn,vq,vk,us,he,hv',h1,h2,h3,h4,h5,h6,hbw⟩=>⟨_,he,?_⟩
 intro ν hl hn hf
 match ν,hl with
 | [ν], _ =>
   have hν : hp0 ν = none:=hf ν (by simp)
   rcases h5 with ⟨_,e5⟩|⟨b,cap,cur,e1,e2,e3,e4,e5,e6,e7,e8⟩
   · have:=congrArg List.length e5
     simp at this
     simp [this] at hn1
   rw [List.length_map] at e1 e5 e8
   have hbk : blk vk = some b:=by rw [e1];rfl
   obtain ⟨p1,p2⟩:=H.put hν (fz:=[]) (fun x hx=>by cases hx) (loc:=.at b 0 (dE g).pick.length cap 1) (e:=.arr 2 .yes (.I (dE g).pick)) hbw hbw.size (fun g' hg'=>.inl (by injection hg' with hg';omega)) (fun b' hb' _=>hbw.block b' hb') (fun _=>by
    refine ⟨_,rfl,rfl,.inr ⟨b,0,cap,cur,rfl,e4,e5,by unfold maxLen at e6;omega,(by show 0 + cap * 1 ≤ _;omega),fun _=>⟨rfl,(by show cap * 1 = _;omega)⟩,fun i hi j hj=>?_⟩⟩
    have hj0 : j = 0:=by have : j < 1:=hj;omega
    subst hj0
    have hi' : i < (dE g).pick.length:=hi
    have hc : cur[i]? = some (.int .i64 (gi (dE g).pick i)):=by
     have h8:=congrArg (fun l=>l[i]?) e8
     simp only [List.getElem?_take,List.getElem?_map,hi',if_true,Array.getElem?_toList] at h8
     rw [h8,gi,List.getD_eq_getElem?_getD,List.getElem?_eq_getElem hi']
     rfl
    exact ⟨_,by rw [show 0 + (i * 1 + 0) = i by omega];exact hc,.int _ _⟩)
   refine ⟨_,p1,p2,?_⟩
   have ha':=ha.evo p2
   subst hv'
   obtain ⟨xs,ex,hx⟩:=kG ha'
   have e3 : xs = [vo,vn,vp]:=by simpa using (congrArg Array.toList (Value.agg.inj ex)).symm
   subst e3
   have own : ∀ b',w.heap.size ≤ b' → b' ≠ b → ¬ Own (upd φ0 ν (.at b 0 (dE g).pick.length cap 1)) (upd (aZ hp0 (cA [])) ν (some (.arr 2 .yes (.I (dE g).pick)))) b':=fun b' hb' hne ⟨x,hlx,hbx⟩=>by
    by_cases ex : x = ν
    · subst ex
      rw [bD] at hbx
      injection hbx with hbx
      exact hne hbx.symm
    · rw [cy ex] at hbx
      obtain ⟨e',he',hk'⟩:=hlx
      rw [cy ex] at he'
      have:=H.own_lt ⟨x,⟨e',he',hk'⟩,hbx⟩
      omega
   match hx with
   | .cons a1 (.cons a2 (.cons a3 .nil)) =>
     refine rv (vs:=[vo,vp,vn,vq,vk]) (.cons a1 (.cons a3 (.cons a2 (.cons (.c ?_) (.cons ?_ .nil)))))
     · refine rK (.slice none 0 0) h4.2.1 (fun b' hb' hlo=>own b' hlo fun e=>?_) rfl h4.1.symm rfl rfl fun i hi=>uQ (h4.2.2.1 i (by rw [← h4.1];exact hi)) fun b' hb' hlo=>own b' hlo fun e=>?_
       · subst e
         rcases h4.2.1 with ⟨q1,_⟩|⟨b2,cap2,cur2,q1,q2,q3,q4,_⟩
         · rw [q1] at hb';cases hb'
         · rw [q1] at hb'
           have hbb : b2 = b':=by injection hb'
           subst hbb
           rw [q4] at e4
           injection e4 with e4
           injection e4 with _ e4
           exact absurd e4 (by decide)
       · subst e
         refine h6 b' hbk (List.mem_filterMap.2 ⟨_,?_,hb'⟩)
         rw [List.getD_eq_getElem?_getD,List.getElem?_eq_getElem hi]
         exact List.getElem_mem hi
     · rw [e1]
       refine (congrArg (AVC _ _ w' (.sl ν)) ?_).mp (AVC.sl (ν:=ν) (e:=.arr 2 .yes (.I (dE g).pick)) (bD _ _ _) rfl)
       rw [bD];rfl
end Go.Proofs.YtiadchinhofieaaGreat
namespace Go.Proofs.YtiadchinhofieaaGreat
set_option linter.unusedVariables false
set_option linter.unusedSimpArgs false
open Go.RowKit
attribute [local irreducible] aO ck Aw Le
theorem uR {g : Pa} (hg : PaOk g) : pgP (eQ g (noP g.prio.length)) = pgP g:=(nL hg (uM hg).pk).symm
theorem uS {g : Pa} (hg : PaOk g) : bL (eQ g (noP g.prio.length)) = bL g:=by
 show (tab g.prio.length fun v=>if tf (PG.Won (pgP (eQ g (noP g.prio.length))) 0 (ja g) v) then 0 else 1) = bL g
 rw [uR hg];rfl
theorem uT {g : Pa} (hg : PaOk g) : wX g (noP g.prio.length) :=
 ⟨⟨⟨hg,(uM hg).pk⟩,uS hg⟩,fun v hv h=>by rw [noP,cr] at hv;rw [noP,cU _ hv] at h;omega⟩
theorem pq (g : Pa) (ps : List Int) (h : wX g ps) : aO Tryz.prog 26 [paA g,.c (.I ps)] [.arr 2 .yes (.I (bL g)),.arr 2 .yes (.I (iT g (bL g) ps g.prio.length))] (fun ns=>.tup [.agg [.sl (ns.getD 0 0),.sl (ns.getD 1 0)],.c (.bool true)]):=nM g ps h (Av g h.1.1.1)
theorem sZ (g : Pa) (hg : PaOk g) : aO Tryz.prog 13 [paA g] [.arr 2 .yes (.I (bL g)),.arr 2 .yes (.I (iT g (bL g) (noP g.prio.length) g.prio.length))] (fun ns=>.agg [.sl (ns.getD 0 0),.sl (ns.getD 1 0)]):=by
 have hl:=hg.len
 have hle:=hg.ar.le
 have h1:=lr g
 rw [aP hg] at h1
 have h2:=uN g.prio.length (by omega)
 have h3:=pq g _ (uT hg)
 (refine bj ap Tryz.func13 rfl rfl (by kernel_rfl) fun hp0 ν hX hN=>?_;simp only [bU,Nat.reduceAdd])
 (repeat' (first|(with_reducible first|(apply hK;clear hK K)|refine stZ ?_|refine aD rfl ?_|((first|apply ae|apply af);clear ae X af Y))|(with_reducible refine aG ?_;first|refine aE rfl ?_|refine aF rfl ?_)|(with_reducible refine ba ?_;refine bd hN ?_)|((with_reducible first|((first|refine aJ ?_|refine bf ?_|refine aK ?_|refine bg ?_);intro K hK)|(refine am ?_;intro X Y ae af)|refine ao ?_);simp (disch:=first|decide|omega|(simp only [List.length_cons,List.length_nil];omega)) only [go_sem,↓aj hN,ak hN,reduceIte,reduceCtorEq,Nat.reduceAdd,Nat.reduceLT,Nat.reduceLeDiff,Nat.reduceEqDiff,Nat.reduceSub])|(with_reducible refine And.intro (fun h=>?_) (fun h=>?_) <;> try (exfalso;omega))|(with_reducible refine aI ap hN ?_)|(with_reducible refine aC ap hN ?_)|(refine bW h1 ?_ rfl (fun _=>rfl) ?_)|(refine bW h2 ?_ rfl (fun _=>rfl) ?_)|(refine bW h3 ?_ rfl (fun _=>rfl) ?_)|(with_reducible first|exact bt|refine bc ?_ ?_|exact cm _|refine bF ?_|exact bB _|exact bT _ _|refine bS ?_|exact bz _)|exact bG hN rfl rfl|(refine bR hN rfl ?_;first|exact aU _|exact aV _)|exact bA rfl rfl rfl|(simp only [aZ,List.map_nil])|(with_reducible refine aY ?_)|(with_reducible refine And.intro ?_ ?_)|(refine ah ?_;omega)|(exact aH hN (by decide))))
 (refine fA hN [3,4] (by decide) (.inr rfl) (by first|exact co rfl rfl|exact ce hN rfl rfl rfl rfl|exact bZ hN rfl rfl rfl rfl rfl|(simp (disch:=first|decide|omega|(simp only [List.length_cons,List.length_nil];omega)) only [bI,bJ,bK,bM,go_sem,beq_self_eq_true,↓aB,↓aj hN,ak hN,reduceIte,reduceCtorEq,Nat.reduceAdd,Nat.reduceLT,Nat.reduceLeDiff,Nat.reduceEqDiff,Nat.reduceSub];rfl)|rfl) ?_ fun νs hνs=>?_;(repeat' (first|exact Gone.nil|(refine Gone.cons rfl rfl ?_ ?_)|(with_reducible refine dS ?_)|(with_reducible refine dR ?_)|(with_reducible refine SVs.cons ?_ ?_)|(with_reducible exact SVs.nil)|(simp only [List.drop,List.take])|(simp (disch:=first|decide|omega) only [↓aB,reduceIte,reduceCtorEq,Nat.reduceEqDiff])|(with_reducible exact i4 _)|(with_reducible exact dP _)|(exact dQ rfl rfl rfl)|(exact eJ 0 (by simp) rfl rfl)|(exact eJ 1 (by simp) rfl rfl)|(refine fy hN rfl (dT hN (by decide)) ?_)|(with_reducible refine fx ?_)|(with_reducible rfl)|(with_reducible refine i6 ?_)|(with_reducible refine i7 ?_)|(with_reducible refine i8 ?_)|(with_reducible refine iN ?_)|(with_reducible refine eK ?_)|(refine ah ?_;omega))))
end Go.Proofs.YtiadchinhofieaaGreat
