/-
  Priority promotion, the reference: a step.
-/
import Derived.Test.YtdkkhhfhdijfmaaZpQ8
import Derived.Test.YtdkkhhfhdijfmaaZpCq
namespace Go.Proofs.Ytdkkhhfhdijfmaa
set_option linter.unusedVariables false
set_option linter.unusedSimpArgs false
open Go.RowKit
attribute [local irreducible] ay b8 Aw Le
theorem nF (g : Pa) (hg : PaOk g) (s : St) (hO : StOk g s) (h0 : 0 ≤ s.at_) (hn : ¬ cT g s) : ay Try.prog 33 [paA g,stA s] [.arr 2 .yes (.I (cE g s).won),.arr 2 .may (.I (cE g s).region)] (fun ns=>.tup [.agg [.sl (ns.getD 0 0),.sl (ns.getD 1 0),.c (.int .i64 (cE g s).at_)],.c (.int .i64 1)]):=by
 have h1:=fP g hg s hO h0
 have h2:=iH g hg s hO h0
 rw [aD hn] at h2
 have h3:=ph g hg s hO h0
 (refine bv aE Try.func33 rfl rfl (by kernel_rfl) fun hp0 ν hX hN=>?_;simp only [cr,Nat.reduceAdd])
 (repeat' (first|(with_reducible first|(apply hK;clear hK K)|refine stZ ?_|refine aP rfl ?_|((first|apply ae|apply af);clear ae X af Y))|(with_reducible refine aS ?_;first|refine aQ rfl ?_|refine aR rfl ?_)|(with_reducible refine bE ?_;refine bH hN ?_)|((with_reducible first|((first|refine aV ?_|refine bI ?_|refine aW ?_|refine bJ ?_);intro K hK)|(refine aB ?_;intro X Y ae af)|refine aC ?_);simp (disch:=first|decide|omega|(simp only [List.length_cons,List.length_nil];omega)) only [go_sem,↓aj hN,ak hN,reduceIte,reduceCtorEq,Nat.reduceAdd,Nat.reduceLT,Nat.reduceLeDiff,Nat.reduceEqDiff,Nat.reduceSub])|(with_reducible refine And.intro (fun h=>?_) (fun h=>?_) <;> try (exfalso;omega))|(with_reducible refine aU aE hN ?_)|(with_reducible refine bh aE hN ?_)|(refine ja (nE g hg) ?_ rfl rfl ?_)|((first|refine bc (h1) ?_ rfl (fun _=>rfl) ?_|refine bc (h2) ?_ rfl (fun _=>rfl) ?_|refine bc (h3) ?_ rfl (fun _=>rfl) ?_);focus ((repeat' (first|(with_reducible first|exact aA|refine ax ?_ ?_|exact bO _|refine a8 ?_|exact ba _|exact bA _ _|refine bz ?_|exact aY _)|exact a9 hN rfl rfl|(refine bw hN rfl ?_;first|exact aF _|exact aG _)|exact aZ rfl rfl rfl));done))|(with_reducible first|exact aA|refine ax ?_ ?_|exact bO _|refine a8 ?_|exact ba _|exact bA _ _|refine bz ?_|exact aY _)|exact a9 hN rfl rfl|(refine bw hN rfl ?_;first|exact aF _|exact aG _)|exact aZ rfl rfl rfl|(simp only [bt,List.map_nil])|(with_reducible refine bM ?_)|(with_reducible refine And.intro ?_ ?_)|(refine ah ?_;omega)|(exact aT hN (by decide))))
 (refine dz hN [5,6] (by decide) (.inr rfl) (by first|exact cg rfl rfl|exact bV hN rfl rfl rfl rfl|exact bP hN rfl rfl rfl rfl rfl|(simp (disch:=first|decide|omega|(simp only [List.length_cons,List.length_nil];omega)) only [bS,bU,bW,b7,go_sem,beq_self_eq_true,↓az,↓aj hN,ak hN,reduceIte,reduceCtorEq,Nat.reduceAdd,Nat.reduceLT,Nat.reduceLeDiff,Nat.reduceEqDiff,Nat.reduceSub];rfl)|rfl) ?_ fun νs hνs=>?_;(repeat' (first|exact Gone.nil|(refine Gone.cons rfl rfl ?_ ?_)|(with_reducible refine cR ?_)|(with_reducible refine cQ ?_)|(with_reducible refine SVs.cons ?_ ?_)|(with_reducible exact SVs.nil)|(simp only [List.drop,List.take])|(simp (disch:=first|decide|omega) only [↓az,reduceIte,reduceCtorEq,Nat.reduceEqDiff])|(with_reducible exact fi _)|(with_reducible exact cO _)|(exact cP rfl rfl rfl)|(exact cw 0 (by simp) rfl rfl)|(exact cw 1 (by simp) rfl rfl)|(refine dy hN rfl (cS hN (by decide)) ?_)|(with_reducible refine dx ?_)|(with_reducible rfl)|(with_reducible refine fj ?_)|(with_reducible refine fk ?_)|(with_reducible refine fl ?_)|(with_reducible refine fa ?_)|(with_reducible refine fm ?_)|(refine ah ?_;omega))))
 all_goals rfl
theorem nG (g : Pa) (hg : PaOk g) (s : St) (hO : StOk g s) (h0 : 0 ≤ s.at_) (hn : cT g s) (hu : 0 ≤ upV g s) : ay Try.prog 33 [paA g,stA s] [.arr 2 .yes (.I (cX g s (upV g s)).won),.arr 2 .may (.I (cX g s (upV g s)).region)] (fun ns=>.tup [.agg [.sl (ns.getD 0 0),.sl (ns.getD 1 0),.c (.int .i64 (cX g s (upV g s)).at_)],.c (.int .i64 2)]):=by
 have h1:=fP g hg s hO h0
 have h2:=iH g hg s hO h0
 rw [bp hn] at h2
 have h3:=ov g hg s hO h0
 have h4:=pi g hg s hO (upV g s)
 (refine bv aE Try.func33 rfl rfl (by kernel_rfl) fun hp0 ν hX hN=>?_;simp only [cr,Nat.reduceAdd])
 (repeat' (first|(with_reducible first|(apply hK;clear hK K)|refine stZ ?_|refine aP rfl ?_|((first|apply ae|apply af);clear ae X af Y))|(with_reducible refine aS ?_;first|refine aQ rfl ?_|refine aR rfl ?_)|(with_reducible refine bE ?_;refine bH hN ?_)|((with_reducible first|((first|refine aV ?_|refine bI ?_|refine aW ?_|refine bJ ?_);intro K hK)|(refine aB ?_;intro X Y ae af)|refine aC ?_);simp (disch:=first|decide|omega|(simp only [List.length_cons,List.length_nil];omega)) only [go_sem,↓aj hN,ak hN,reduceIte,reduceCtorEq,Nat.reduceAdd,Nat.reduceLT,Nat.reduceLeDiff,Nat.reduceEqDiff,Nat.reduceSub])|(with_reducible refine And.intro (fun h=>?_) (fun h=>?_) <;> try (exfalso;omega))|(with_reducible refine aU aE hN ?_)|(with_reducible refine bh aE hN ?_)|(refine ja (nE g hg) ?_ rfl rfl ?_)|((first|refine bc (h1) ?_ rfl (fun _=>rfl) ?_|refine bc (h2) ?_ rfl (fun _=>rfl) ?_|refine bc (h3) ?_ rfl (fun _=>rfl) ?_|refine bc (h4) ?_ rfl (fun _=>rfl) ?_);focus ((repeat' (first|(with_reducible first|exact aA|refine ax ?_ ?_|exact bO _|refine a8 ?_|exact ba _|exact bA _ _|refine bz ?_|exact aY _)|exact a9 hN rfl rfl|(refine bw hN rfl ?_;first|exact aF _|exact aG _)|exact aZ rfl rfl rfl));done))|(with_reducible first|exact aA|refine ax ?_ ?_|exact bO _|refine a8 ?_|exact ba _|exact bA _ _|refine bz ?_|exact aY _)|exact a9 hN rfl rfl|(refine bw hN rfl ?_;first|exact aF _|exact aG _)|exact aZ rfl rfl rfl|(simp only [bt,List.map_nil])|(with_reducible refine bM ?_)|(with_reducible refine And.intro ?_ ?_)|(refine ah ?_;omega)|(exact aT hN (by decide))))
 (refine dz hN [5,6] (by decide) (.inr rfl) (by first|exact cg rfl rfl|exact bV hN rfl rfl rfl rfl|exact bP hN rfl rfl rfl rfl rfl|(simp (disch:=first|decide|omega|(simp only [List.length_cons,List.length_nil];omega)) only [bS,bU,bW,b7,go_sem,beq_self_eq_true,↓az,↓aj hN,ak hN,reduceIte,reduceCtorEq,Nat.reduceAdd,Nat.reduceLT,Nat.reduceLeDiff,Nat.reduceEqDiff,Nat.reduceSub];rfl)|rfl) ?_ fun νs hνs=>?_;(repeat' (first|exact Gone.nil|(refine Gone.cons rfl rfl ?_ ?_)|(with_reducible refine cR ?_)|(with_reducible refine cQ ?_)|(with_reducible refine SVs.cons ?_ ?_)|(with_reducible exact SVs.nil)|(simp only [List.drop,List.take])|(simp (disch:=first|decide|omega) only [↓az,reduceIte,reduceCtorEq,Nat.reduceEqDiff])|(with_reducible exact fi _)|(with_reducible exact cO _)|(exact cP rfl rfl rfl)|(exact cw 0 (by simp) rfl rfl)|(exact cw 1 (by simp) rfl rfl)|(refine dy hN rfl (cS hN (by decide)) ?_)|(with_reducible refine dx ?_)|(with_reducible rfl)|(with_reducible refine fj ?_)|(with_reducible refine fk ?_)|(with_reducible refine fl ?_)|(with_reducible refine fa ?_)|(with_reducible refine fm ?_)|(refine ah ?_;omega))))
 all_goals rfl
theorem lq {g : Pa} {s : St} (hg : PaOk g) (hO : StOk g s) (h0 : 0 ≤ s.at_) {v : Nat} (hv : v < g.prio.length) : gi (dh g s).won v < 0 ↔ Blw g s 40 v ∧ ¬ dg g s v:=by
 rw [jc hv]
 by_cases h : dg g s v
 · rw [if_pos h]
   have:=Int.tmod_nonneg 2 h0
   exact ⟨fun h'=>by omega,fun h'=>absurd h h'.2⟩
 · rw [if_neg h,hO.won0 hg hv]
   exact ⟨fun h'=>⟨⟨hv,h',(hO.opn hv h').2.2⟩,h⟩,fun h'=>h'.1.2.1⟩
theorem pj (g : Pa) (hg : PaOk g) (s : St) (hO : StOk g s) (h0 : 0 ≤ s.at_) (hn : cT g s) (hu : ¬ 0 ≤ upV g s) : ay Try.prog 33 [paA g,stA s] [.arr 2 .yes (.I (dh g s).won),.arr 2 .may (.I (dh g s).region)] (fun ns=>.tup [.agg [.sl (ns.getD 0 0),.sl (ns.getD 1 0),.c (.int .i64 (dh g s).at_)],.c (.int .i64 3)]):=by
 have hle:=hg.ar.le
 have hl:=hg.len
 have hlr:=hO.lr
 have hlw:=hO.lw
 have ha : s.at_ ≤ 40:=by rcases hO.at' with h1|h1 <;> omega
 have h1:=fP g hg s hO h0
 have h2:=iH g hg s hO h0
 rw [bp hn] at h2
 have h3:=ov g hg s hO h0
 have hb:=gH s 40 (by omega) (by omega)
 have ht:=hO.tot 40 ha (by decide)
 rw [← je hO hg] at ht
 have hml:=cH g.prio.length (Pul g s)
 have hat:=iR (cf g) g.prio.length (gZ hg) (mks s.won.length fun v=>gi s.won v < 0 ∧ gi s.region v ≤ 40) (mks g.prio.length (Pul g s)) ((cH _ _).trans hlw) hml (s.at_.tmod 2) ht
 have e0 : (fun v=>gb (mks g.prio.length (Pul g s)) v = true) = Pul g s:=funext fun v=>propext (cx.trans ⟨fun h=>h.2,fun h=>⟨(cz h).1,h⟩⟩)
 rw [je hO hg,e0] at hat
 have e : mks g.prio.length (PG.Attr (gu (cf g) g.prio.length) (s.at_.tmod 2) (Blw g s 40) (Pul g s)) = mks g.prio.length (dg g s):=rfl
 rw [e] at hat
 have hcp:=ij s.won (by omega)
 have hlW : (dh g s).won.length = g.prio.length:=bQ _ _
 have hrs:=jM g hg (dh g s).won hlW
 have e1 : tab g.prio.length (rsV g (dh g s).won) = (dh g s).region:=bo fun v hv=>by
  by_cases h : gi (dh g s).won v < 0
  · rw [lp h,if_pos ((lq hg hO h0 hv).1 h)]
  · rw [qV h,if_neg fun h'=>h ((lq hg hO h0 hv).2 h')]
 have e2 : mxN (fun v=>gi (dh g s).won v < 0) (gi g.prio) g.prio.length = (dh g s).at_:=lj _ fun v hv=>lq hg hO h0 hv
 rw [e1,e2] at hrs
 have hmw:=cH g.prio.length (dg g s)
 (refine bv aE Try.func33 rfl rfl (by kernel_rfl) fun hp0 ν hX hN=>?_;simp only [cr,Nat.reduceAdd])
 (repeat' (first|(with_reducible first|(apply hK;clear hK K)|refine stZ ?_|refine aP rfl ?_|((first|apply ae|apply af);clear ae X af Y))|(with_reducible refine aS ?_;first|refine aQ rfl ?_|refine aR rfl ?_)|(with_reducible refine bE ?_;refine bH hN ?_)|((with_reducible first|((first|refine aV ?_|refine bI ?_|refine aW ?_|refine bJ ?_);intro K hK)|(refine aB ?_;intro X Y ae af)|refine aC ?_);simp (disch:=first|decide|omega|(simp only [List.length_cons,List.length_nil];omega)) only [go_sem,↓aj hN,ak hN,reduceIte,reduceCtorEq,Nat.reduceAdd,Nat.reduceLT,Nat.reduceLeDiff,Nat.reduceEqDiff,Nat.reduceSub])|(with_reducible refine And.intro (fun h=>?_) (fun h=>?_) <;> try (exfalso;omega))|(with_reducible refine aU aE hN ?_)|(with_reducible refine bh aE hN ?_)|(refine ja (nE g hg) ?_ rfl rfl ?_)|((first|refine bc (h1) ?_ rfl (fun _=>rfl) ?_|refine bc (h2) ?_ rfl (fun _=>rfl) ?_|refine bc (h3) ?_ rfl (fun _=>rfl) ?_|refine bc (hb) ?_ rfl (fun _=>rfl) ?_|refine bc (hcp) ?_ rfl (fun _=>rfl) ?_);focus ((repeat' (first|(with_reducible first|exact aA|refine ax ?_ ?_|exact bO _|refine a8 ?_|exact ba _|exact bA _ _|refine bz ?_|exact aY _)|exact a9 hN rfl rfl|(refine bw hN rfl ?_;first|exact aF _|exact aG _)|exact aZ rfl rfl rfl));done))|(refine bc (hat) ?_ rfl (fun _=>rfl) ?_;focus ((repeat' (first|(with_reducible first|exact aA|refine ax ?_ ?_|exact bO _|refine a8 ?_|exact ba _|exact bA _ _|refine bz ?_|exact aY _)|exact a9 hN rfl rfl|(refine bw hN rfl ?_;first|exact aF _|exact aG _)|exact aZ rfl rfl rfl));done))|(with_reducible first|exact aA|refine ax ?_ ?_|exact bO _|refine a8 ?_|exact ba _|exact bA _ _|refine bz ?_|exact aY _)|exact a9 hN rfl rfl|(refine bw hN rfl ?_;first|exact aF _|exact aG _)|exact aZ rfl rfl rfl|(simp only [bt,List.map_nil])|(with_reducible refine bM ?_)|(with_reducible refine And.intro ?_ ?_)|(refine ah ?_;omega)|(exact aT hN (by decide))))
 (refine bL (fun (k : Nat)=>(tmL [(11,.c (.int .i64 k)),(10,.sl (ν 7)),(9,.sl (ν 6)),(4,.ad (ν 2) 0),(3,.ad (ν 1) 0),(2,.ad (ν 0) 0)],hpL hp0 ν [.box [.c (.I g.ar.own),.c (.R g.ar.nxt),.c (.I g.prio)],stE s,.box [.c .nul,.c .nul,.c (.int .i64 0)],.dead,.dead,.dead,.arr 4 .yes (.B (mks g.prio.length (dg g s))),.arr 2 .yes (.I (tab g.prio.length fun v=>if v < k then gi (dh g s).won v else gi s.won v))])) (fun (k : Nat)=>k ≤ g.prio.length) (fun (k : Nat)=>g.prio.length - k) ⟨0,?_,bi hX hN [] ?_ ?_⟩ ?_;(repeat' (first|(with_reducible first|exact clZ|refine bj ?_ ?_|refine bm ?_ ?_|rfl|refine suZ ?_)|refine bn rfl ?_ ?_|exact aI hN _ rfl rfl rfl|exact aJ hN _ rfl rfl rfl|exact ap hN _ rfl rfl rfl (Or.inr rfl)|(refine aK hN _ rfl rfl (by first|exact Or.inr rfl|exact Or.inl rfl) ?_;first|exact aF _|exact aG _)|refine aq hN rfl ?_|refine au hN rfl rfl ?_|exact ao hN _ rfl rfl|exact aw hN rfl rfl rfl rfl|(with_reducible first|refine stZ ?_|refine aH ?_)));(try (any_goals (first|(with_reducible rfl)|(refine ah ?_;omega)))))
 · rw [← hlw];exact (bo fun v _=>if_neg (Nat.not_lt_zero v)).trans (dd _)
 intro k hk
 have htl:=bQ g.prio.length fun v=>if v < k then gi (dh g s).won v else gi s.won v
 rcases Nat.lt_or_ge k g.prio.length with hkl|hkl
 · have hgk:=Lib.hid (cx (n:=g.prio.length) (v:=k) (p:=dg g s))
   have hww:=Lib.hid (jc (s:=s) hkl)
   (repeat' (first|(with_reducible first|(apply hK;clear hK K)|refine stZ ?_|refine aP rfl ?_|((first|apply ae|apply af);clear ae X af Y))|(with_reducible refine aS ?_;first|refine aQ rfl ?_|refine aR rfl ?_)|(with_reducible refine bE ?_;refine bH hN ?_)|((with_reducible first|((first|refine aV ?_|refine bI ?_|refine aW ?_|refine bJ ?_);intro K hK)|(refine aB ?_;intro X Y ae af)|refine aC ?_);simp (disch:=first|decide|omega|(simp only [List.length_cons,List.length_nil];omega)) only [go_sem,↓aj hN,ak hN,reduceIte,reduceCtorEq,Nat.reduceAdd,Nat.reduceLT,Nat.reduceLeDiff,Nat.reduceEqDiff,Nat.reduceSub])|(with_reducible refine And.intro (fun h=>?_) (fun h=>?_) <;> try (exfalso;omega))|(with_reducible refine aU aE hN ?_)|(with_reducible refine bh aE hN ?_)|(with_reducible refine And.intro ?_ ?_)|(refine ah ?_;omega)|(exact aT hN (by decide))))
   · (refine ⟨k + 1,⟨?_,?_⟩,bi hX hN [] ?_ ?_⟩;(try any_goals dsimp only);(repeat' (first|(with_reducible first|exact clZ|refine bj ?_ ?_|refine bm ?_ ?_|rfl|refine suZ ?_)|refine bn rfl ?_ ?_|exact aI hN _ rfl rfl rfl|exact aJ hN _ rfl rfl rfl|exact ap hN _ rfl rfl rfl (Or.inr rfl)|(refine aK hN _ rfl rfl (by first|exact Or.inr rfl|exact Or.inl rfl) ?_;first|exact aF _|exact aG _)|refine aq hN rfl ?_|refine au hN rfl rfl ?_|exact ao hN _ rfl rfl|exact aw hN rfl rfl rfl rfl|(with_reducible first|refine stZ ?_|refine aH ?_)));(try (any_goals (first|(with_reducible rfl)|(refine ah ?_;omega)))))
     exact gx hkl (by rw [hww.out,if_pos (hgk.out.1 (by assumption)).2])
   · (refine ⟨k + 1,⟨?_,?_⟩,bi hX hN [] ?_ ?_⟩;(try any_goals dsimp only);(repeat' (first|(with_reducible first|exact clZ|refine bj ?_ ?_|refine bm ?_ ?_|rfl|refine suZ ?_)|refine bn rfl ?_ ?_|exact aI hN _ rfl rfl rfl|exact aJ hN _ rfl rfl rfl|exact ap hN _ rfl rfl rfl (Or.inr rfl)|(refine aK hN _ rfl rfl (by first|exact Or.inr rfl|exact Or.inl rfl) ?_;first|exact aF _|exact aG _)|refine aq hN rfl ?_|refine au hN rfl rfl ?_|exact ao hN _ rfl rfl|exact aw hN rfl rfl rfl rfl|(with_reducible first|refine stZ ?_|refine aH ?_)));(try (any_goals (first|(with_reducible rfl)|(refine ah ?_;omega)))))
     exact du (by rw [hww.out,if_neg fun h'=>by rw [hgk.out.2 ⟨hkl,h'⟩] at h;cases h])
 obtain rfl : k = g.prio.length:=by omega
 have hr : (tab g.prio.length fun v=>if v < g.prio.length then gi (dh g s).won v else gi s.won v) = (dh g s).won:=bo fun v hv=>by rw [if_pos hv,jc hv]
 rw [hr]
 (repeat' (first|(with_reducible first|(apply hK;clear hK K)|refine stZ ?_|refine aP rfl ?_|((first|apply ae|apply af);clear ae X af Y))|(with_reducible refine aS ?_;first|refine aQ rfl ?_|refine aR rfl ?_)|(with_reducible refine bE ?_;refine bH hN ?_)|((with_reducible first|((first|refine aV ?_|refine bI ?_|refine aW ?_|refine bJ ?_);intro K hK)|(refine aB ?_;intro X Y ae af)|refine aC ?_);simp (disch:=first|decide|omega|(simp only [List.length_cons,List.length_nil];omega)) only [go_sem,↓aj hN,ak hN,reduceIte,reduceCtorEq,Nat.reduceAdd,Nat.reduceLT,Nat.reduceLeDiff,Nat.reduceEqDiff,Nat.reduceSub])|(with_reducible refine And.intro (fun h=>?_) (fun h=>?_) <;> try (exfalso;omega))|(with_reducible refine aU aE hN ?_)|(with_reducible refine bh aE hN ?_)|(refine mg (hrs) hN 7 ?_ rfl rfl rfl ?_;focus ((repeat' (first|(with_reducible first|exact aA|refine ax ?_ ?_|exact bO _|refine a8 ?_|exact ba _|exact bA _ _|refine bz ?_|exact aY _)|exact a9 hN rfl rfl|(refine bw hN rfl ?_;first|exact aF _|exact aG _)|exact aZ rfl rfl rfl));done))|(with_reducible first|exact aA|refine ax ?_ ?_|exact bO _|refine a8 ?_|exact ba _|exact bA _ _|refine bz ?_|exact aY _)|exact a9 hN rfl rfl|(refine bw hN rfl ?_;first|exact aF _|exact aG _)|exact aZ rfl rfl rfl|(simp only [bt,List.map_nil])|(with_reducible refine bM ?_)|(simp (disch:=first|decide|omega|(simp only [List.length_cons,List.length_nil];omega)) only [bt,List.map_cons,List.map_nil,ak hN,List.set_cons_zero,List.set_cons_succ])|(with_reducible refine And.intro ?_ ?_)|(refine ah ?_;omega)|(exact aT hN (by decide))))
 (refine dz hN [8,9] (by decide) (.inr rfl) (by first|exact cg rfl rfl|exact bV hN rfl rfl rfl rfl|exact bP hN rfl rfl rfl rfl rfl|(simp (disch:=first|decide|omega|(simp only [List.length_cons,List.length_nil];omega)) only [bS,bU,bW,b7,go_sem,beq_self_eq_true,↓az,↓aj hN,ak hN,reduceIte,reduceCtorEq,Nat.reduceAdd,Nat.reduceLT,Nat.reduceLeDiff,Nat.reduceEqDiff,Nat.reduceSub];rfl)|rfl) ?_ fun νs hνs=>?_;(repeat' (first|exact Gone.nil|(refine Gone.cons rfl rfl ?_ ?_)|(with_reducible refine cR ?_)|(with_reducible refine cQ ?_)|(with_reducible refine SVs.cons ?_ ?_)|(with_reducible exact SVs.nil)|(simp only [List.drop,List.take])|(simp (disch:=first|decide|omega) only [↓az,reduceIte,reduceCtorEq,Nat.reduceEqDiff])|(with_reducible exact fi _)|(with_reducible exact cO _)|(exact cP rfl rfl rfl)|(exact cw 0 (by simp) rfl rfl)|(exact cw 1 (by simp) rfl rfl)|(refine dy hN rfl (cS hN (by decide)) ?_)|(with_reducible refine dx ?_)|(with_reducible rfl)|(with_reducible refine fj ?_)|(with_reducible refine fk ?_)|(with_reducible refine fl ?_)|(with_reducible refine fa ?_)|(with_reducible refine fm ?_)|(refine ah ?_;omega))))
 all_goals rfl
theorem pm (g : Pa) (hg : PaOk g) (s : St) (hO : StOk g s) (h0 : 0 ≤ s.at_) : ay Try.prog 33 [paA g,stA s] [.arr 2 .yes (.I (cK g s).1.won),.arr 2 .may (.I (cK g s).1.region)] (fun ns=>.tup [.agg [.sl (ns.getD 0 0),.sl (ns.getD 1 0),.c (.int .i64 (cK g s).1.at_)],.c (.int .i64 (cK g s).2)]):=by
 unfold cK
 by_cases h1 : cT g s
 · rw [if_neg (fun h'=>h' h1)]
   by_cases h2 : 0 ≤ upV g s
   · rw [if_pos h2];exact nG g hg s hO h0 h1 h2
   · rw [if_neg h2];exact pj g hg s hO h0 h1 h2
 · rw [if_pos h1];exact nF g hg s hO h0 h1
end Go.Proofs.Ytdkkhhfhdijfmaa
