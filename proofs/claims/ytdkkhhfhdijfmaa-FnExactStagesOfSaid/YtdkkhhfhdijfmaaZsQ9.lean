/-
  Priority promotion, the reference: a step.
-/
import Derived.Test.YtdkkhhfhdijfmaaZsQ8
import Derived.Test.YtdkkhhfhdijfmaaZsCq
namespace Go.Proofs.Ytdkkhhfhdijfmaa
set_option linter.unusedVariables false
set_option linter.unusedSimpArgs false
open Go.RowKit
attribute [local irreducible] ay b9 Aw Le
theorem nQ (g : Pa) (hg : PaOk g) (s : St) (hO : StOk g s) (h0 : 0 ≤ s.at_) (hn : ¬ cQ g s) : ay Try.prog 33 [paA g,stA s] [.arr 2 .yes (.I (cD g s).won),.arr 2 .may (.I (cD g s).region)] (fun ns=>.tup [.agg [.sl (ns.getD 0 0),.sl (ns.getD 1 0),.c (.int .i64 (cD g s).at_)],.c (.int .i64 1)]):=by
 have h1:=fV g hg s hO h0
 have h2:=iN g hg s hO h0
 rw [aB hn] at h2
 have h3:=py g hg s hO h0
 (refine bv aE Try.func33 rfl rfl (by kernel_rfl) fun hp0 ν hX hN=>?_;simp only [co,Nat.reduceAdd])
 (repeat' (first|(with_reducible first|(apply hK;clear hK K)|refine stZ ?_|refine aQ rfl ?_|((first|apply ae|apply af);clear ae X af Y))|(with_reducible refine aT ?_;first|refine aR rfl ?_|refine aS rfl ?_)|(with_reducible refine bE ?_;refine bH hN ?_)|((with_reducible first|((first|refine aW ?_|refine bI ?_|refine aX ?_|refine bJ ?_);intro K hK)|(refine aC ?_;intro X Y ae af)|refine aD ?_);simp (disch:=first|decide|omega|(simp only [List.length_cons,List.length_nil];omega)) only [go_sem,↓aj hN,am hN,reduceIte,reduceCtorEq,Nat.reduceAdd,Nat.reduceLT,Nat.reduceLeDiff,Nat.reduceEqDiff,Nat.reduceSub])|(with_reducible refine And.intro (fun h=>?_) (fun h=>?_) <;> try (exfalso;omega))|(with_reducible refine aV aE hN ?_)|(with_reducible refine bi aE hN ?_)|(refine ji (nP g hg) ?_ rfl rfl ?_)|((first|refine bd (h1) ?_ rfl (fun _=>rfl) ?_|refine bd (h2) ?_ rfl (fun _=>rfl) ?_|refine bd (h3) ?_ rfl (fun _=>rfl) ?_);focus ((repeat' (first|(with_reducible first|exact aA|refine ax ?_ ?_|exact bP _|refine a9 ?_|exact bc _|exact bA _ _|refine bz ?_|exact aZ _)|exact ba hN rfl rfl|(refine bw hN rfl ?_;first|exact aF _|exact aG _)|exact a8 rfl rfl rfl));done))|(with_reducible first|exact aA|refine ax ?_ ?_|exact bP _|refine a9 ?_|exact bc _|exact bA _ _|refine bz ?_|exact aZ _)|exact ba hN rfl rfl|(refine bw hN rfl ?_;first|exact aF _|exact aG _)|exact a8 rfl rfl rfl|(simp only [bt,List.map_nil])|(with_reducible refine bN ?_)|(with_reducible refine And.intro ?_ ?_)|(refine ah ?_;omega)|(exact aU hN (by decide))))
 (refine dL hN [5,6] (by decide) (.inr rfl) (by first|exact cr rfl rfl|exact b8 hN rfl rfl rfl rfl|exact bR hN rfl rfl rfl rfl rfl|(simp (disch:=first|decide|omega|(simp only [List.length_cons,List.length_nil];omega)) only [bS,bV,bW,b7,go_sem,beq_self_eq_true,↓az,↓aj hN,am hN,reduceIte,reduceCtorEq,Nat.reduceAdd,Nat.reduceLT,Nat.reduceLeDiff,Nat.reduceEqDiff,Nat.reduceSub];rfl)|rfl) ?_ fun νs hνs=>?_;(repeat' (first|exact Gone.nil|(refine Gone.cons rfl rfl ?_ ?_)|(with_reducible refine cZ ?_)|(with_reducible refine cY ?_)|(with_reducible refine SVs.cons ?_ ?_)|(with_reducible exact SVs.nil)|(simp only [List.drop,List.take])|(simp (disch:=first|decide|omega) only [↓az,reduceIte,reduceCtorEq,Nat.reduceEqDiff])|(with_reducible exact fM _)|(with_reducible exact cW _)|(exact cX rfl rfl rfl)|(exact cx 0 (by simp) rfl rfl)|(exact cx 1 (by simp) rfl rfl)|(refine dK hN rfl (c7 hN (by decide)) ?_)|(with_reducible refine dJ ?_)|(with_reducible rfl)|(with_reducible refine fN ?_)|(with_reducible refine fO ?_)|(with_reducible refine fP ?_)|(with_reducible refine fo ?_)|(with_reducible refine fQ ?_)|(refine ah ?_;omega))))
 all_goals rfl
theorem nR (g : Pa) (hg : PaOk g) (s : St) (hO : StOk g s) (h0 : 0 ≤ s.at_) (hn : cQ g s) (hu : 0 ≤ upV g s) : ay Try.prog 33 [paA g,stA s] [.arr 2 .yes (.I (c8 g s (upV g s)).won),.arr 2 .may (.I (c8 g s (upV g s)).region)] (fun ns=>.tup [.agg [.sl (ns.getD 0 0),.sl (ns.getD 1 0),.c (.int .i64 (c8 g s (upV g s)).at_)],.c (.int .i64 2)]):=by
 have h1:=fV g hg s hO h0
 have h2:=iN g hg s hO h0
 rw [bg hn] at h2
 have h3:=oI g hg s hO h0
 have h4:=pz g hg s hO (upV g s)
 (refine bv aE Try.func33 rfl rfl (by kernel_rfl) fun hp0 ν hX hN=>?_;simp only [co,Nat.reduceAdd])
 (repeat' (first|(with_reducible first|(apply hK;clear hK K)|refine stZ ?_|refine aQ rfl ?_|((first|apply ae|apply af);clear ae X af Y))|(with_reducible refine aT ?_;first|refine aR rfl ?_|refine aS rfl ?_)|(with_reducible refine bE ?_;refine bH hN ?_)|((with_reducible first|((first|refine aW ?_|refine bI ?_|refine aX ?_|refine bJ ?_);intro K hK)|(refine aC ?_;intro X Y ae af)|refine aD ?_);simp (disch:=first|decide|omega|(simp only [List.length_cons,List.length_nil];omega)) only [go_sem,↓aj hN,am hN,reduceIte,reduceCtorEq,Nat.reduceAdd,Nat.reduceLT,Nat.reduceLeDiff,Nat.reduceEqDiff,Nat.reduceSub])|(with_reducible refine And.intro (fun h=>?_) (fun h=>?_) <;> try (exfalso;omega))|(with_reducible refine aV aE hN ?_)|(with_reducible refine bi aE hN ?_)|(refine ji (nP g hg) ?_ rfl rfl ?_)|((first|refine bd (h1) ?_ rfl (fun _=>rfl) ?_|refine bd (h2) ?_ rfl (fun _=>rfl) ?_|refine bd (h3) ?_ rfl (fun _=>rfl) ?_|refine bd (h4) ?_ rfl (fun _=>rfl) ?_);focus ((repeat' (first|(with_reducible first|exact aA|refine ax ?_ ?_|exact bP _|refine a9 ?_|exact bc _|exact bA _ _|refine bz ?_|exact aZ _)|exact ba hN rfl rfl|(refine bw hN rfl ?_;first|exact aF _|exact aG _)|exact a8 rfl rfl rfl));done))|(with_reducible first|exact aA|refine ax ?_ ?_|exact bP _|refine a9 ?_|exact bc _|exact bA _ _|refine bz ?_|exact aZ _)|exact ba hN rfl rfl|(refine bw hN rfl ?_;first|exact aF _|exact aG _)|exact a8 rfl rfl rfl|(simp only [bt,List.map_nil])|(with_reducible refine bN ?_)|(with_reducible refine And.intro ?_ ?_)|(refine ah ?_;omega)|(exact aU hN (by decide))))
 (refine dL hN [5,6] (by decide) (.inr rfl) (by first|exact cr rfl rfl|exact b8 hN rfl rfl rfl rfl|exact bR hN rfl rfl rfl rfl rfl|(simp (disch:=first|decide|omega|(simp only [List.length_cons,List.length_nil];omega)) only [bS,bV,bW,b7,go_sem,beq_self_eq_true,↓az,↓aj hN,am hN,reduceIte,reduceCtorEq,Nat.reduceAdd,Nat.reduceLT,Nat.reduceLeDiff,Nat.reduceEqDiff,Nat.reduceSub];rfl)|rfl) ?_ fun νs hνs=>?_;(repeat' (first|exact Gone.nil|(refine Gone.cons rfl rfl ?_ ?_)|(with_reducible refine cZ ?_)|(with_reducible refine cY ?_)|(with_reducible refine SVs.cons ?_ ?_)|(with_reducible exact SVs.nil)|(simp only [List.drop,List.take])|(simp (disch:=first|decide|omega) only [↓az,reduceIte,reduceCtorEq,Nat.reduceEqDiff])|(with_reducible exact fM _)|(with_reducible exact cW _)|(exact cX rfl rfl rfl)|(exact cx 0 (by simp) rfl rfl)|(exact cx 1 (by simp) rfl rfl)|(refine dK hN rfl (c7 hN (by decide)) ?_)|(with_reducible refine dJ ?_)|(with_reducible rfl)|(with_reducible refine fN ?_)|(with_reducible refine fO ?_)|(with_reducible refine fP ?_)|(with_reducible refine fo ?_)|(with_reducible refine fQ ?_)|(refine ah ?_;omega))))
 all_goals rfl
theorem lD {g : Pa} {s : St} (hg : PaOk g) (hO : StOk g s) (h0 : 0 ≤ s.at_) {v : Nat} (hv : v < g.prio.length) : gi (dk g s).won v < 0 ↔ Blw g s 40 v ∧ ¬ dj g s v:=by
 rw [jk hv]
 by_cases h : dj g s v
 · rw [if_pos h]
   have:=Int.tmod_nonneg 2 h0
   exact ⟨fun h'=>by omega,fun h'=>absurd h h'.2⟩
 · rw [if_neg h,hO.won0 hg hv]
   exact ⟨fun h'=>⟨⟨hv,h',(hO.opn hv h').2.2⟩,h⟩,fun h'=>h'.1.2.1⟩
theorem pA (g : Pa) (hg : PaOk g) (s : St) (hO : StOk g s) (h0 : 0 ≤ s.at_) (hn : cQ g s) (hu : ¬ 0 ≤ upV g s) : ay Try.prog 33 [paA g,stA s] [.arr 2 .yes (.I (dk g s).won),.arr 2 .may (.I (dk g s).region)] (fun ns=>.tup [.agg [.sl (ns.getD 0 0),.sl (ns.getD 1 0),.c (.int .i64 (dk g s).at_)],.c (.int .i64 3)]):=by
 have hle:=hg.ar.le
 have hl:=hg.len
 have hlr:=hO.lr
 have hlw:=hO.lw
 have ha : s.at_ ≤ 40:=by rcases hO.at' with h1|h1 <;> omega
 have h1:=fV g hg s hO h0
 have h2:=iN g hg s hO h0
 rw [bg hn] at h2
 have h3:=oI g hg s hO h0
 have hb:=gP s 40 (by omega) (by omega)
 have ht:=hO.tot 40 ha (by decide)
 rw [← jm hO hg] at ht
 have hml:=cH g.prio.length (Pul g s)
 have hat:=iZ (cf g) g.prio.length (ib hg) (mks s.won.length fun v=>gi s.won v < 0 ∧ gi s.region v ≤ 40) (mks g.prio.length (Pul g s)) ((cH _ _).trans hlw) hml (s.at_.tmod 2) ht
 have e0 : (fun v=>gb (mks g.prio.length (Pul g s)) v = true) = Pul g s:=funext fun v=>propext (cw.trans ⟨fun h=>h.2,fun h=>⟨(cz h).1,h⟩⟩)
 rw [jm hO hg,e0] at hat
 have e : mks g.prio.length (PG.Attr (gC (cf g) g.prio.length) (s.at_.tmod 2) (Blw g s 40) (Pul g s)) = mks g.prio.length (dj g s):=rfl
 rw [e] at hat
 have hcp:=ir s.won (by omega)
 have hlW : (dk g s).won.length = g.prio.length:=bK _ _
 have hrs:=jS g hg (dk g s).won hlW
 have e1 : tab g.prio.length (rsV g (dk g s).won) = (dk g s).region:=bp fun v hv=>by
  by_cases h : gi (dk g s).won v < 0
  · rw [lC h,if_pos ((lD hg hO h0 hv).1 h)]
  · rw [re h,if_neg fun h'=>h ((lD hg hO h0 hv).2 h')]
 have e2 : mxN (fun v=>gi (dk g s).won v < 0) (gi g.prio) g.prio.length = (dk g s).at_:=lu _ fun v hv=>lD hg hO h0 hv
 rw [e1,e2] at hrs
 have hmw:=cH g.prio.length (dj g s)
 (refine bv aE Try.func33 rfl rfl (by kernel_rfl) fun hp0 ν hX hN=>?_;simp only [co,Nat.reduceAdd])
 (repeat' (first|(with_reducible first|(apply hK;clear hK K)|refine stZ ?_|refine aQ rfl ?_|((first|apply ae|apply af);clear ae X af Y))|(with_reducible refine aT ?_;first|refine aR rfl ?_|refine aS rfl ?_)|(with_reducible refine bE ?_;refine bH hN ?_)|((with_reducible first|((first|refine aW ?_|refine bI ?_|refine aX ?_|refine bJ ?_);intro K hK)|(refine aC ?_;intro X Y ae af)|refine aD ?_);simp (disch:=first|decide|omega|(simp only [List.length_cons,List.length_nil];omega)) only [go_sem,↓aj hN,am hN,reduceIte,reduceCtorEq,Nat.reduceAdd,Nat.reduceLT,Nat.reduceLeDiff,Nat.reduceEqDiff,Nat.reduceSub])|(with_reducible refine And.intro (fun h=>?_) (fun h=>?_) <;> try (exfalso;omega))|(with_reducible refine aV aE hN ?_)|(with_reducible refine bi aE hN ?_)|(refine ji (nP g hg) ?_ rfl rfl ?_)|((first|refine bd (h1) ?_ rfl (fun _=>rfl) ?_|refine bd (h2) ?_ rfl (fun _=>rfl) ?_|refine bd (h3) ?_ rfl (fun _=>rfl) ?_|refine bd (hb) ?_ rfl (fun _=>rfl) ?_|refine bd (hcp) ?_ rfl (fun _=>rfl) ?_);focus ((repeat' (first|(with_reducible first|exact aA|refine ax ?_ ?_|exact bP _|refine a9 ?_|exact bc _|exact bA _ _|refine bz ?_|exact aZ _)|exact ba hN rfl rfl|(refine bw hN rfl ?_;first|exact aF _|exact aG _)|exact a8 rfl rfl rfl));done))|(refine bd (hat) ?_ rfl (fun _=>rfl) ?_;focus ((repeat' (first|(with_reducible first|exact aA|refine ax ?_ ?_|exact bP _|refine a9 ?_|exact bc _|exact bA _ _|refine bz ?_|exact aZ _)|exact ba hN rfl rfl|(refine bw hN rfl ?_;first|exact aF _|exact aG _)|exact a8 rfl rfl rfl));done))|(with_reducible first|exact aA|refine ax ?_ ?_|exact bP _|refine a9 ?_|exact bc _|exact bA _ _|refine bz ?_|exact aZ _)|exact ba hN rfl rfl|(refine bw hN rfl ?_;first|exact aF _|exact aG _)|exact a8 rfl rfl rfl|(simp only [bt,List.map_nil])|(with_reducible refine bN ?_)|(with_reducible refine And.intro ?_ ?_)|(refine ah ?_;omega)|(exact aU hN (by decide))))
 (refine bM (fun (k : Nat)=>(tmL [(11,.c (.int .i64 k)),(10,.sl (ν 7)),(9,.sl (ν 6)),(4,.ad (ν 2) 0),(3,.ad (ν 1) 0),(2,.ad (ν 0) 0)],hpL hp0 ν [.box [.c (.I g.ar.own),.c (.R g.ar.nxt),.c (.I g.prio)],stE s,.box [.c .nul,.c .nul,.c (.int .i64 0)],.dead,.dead,.dead,.arr 4 .yes (.B (mks g.prio.length (dj g s))),.arr 2 .yes (.I (tab g.prio.length fun v=>if v < k then gi (dk g s).won v else gi s.won v))])) (fun (k : Nat)=>k ≤ g.prio.length) (fun (k : Nat)=>g.prio.length - k) ⟨0,?_,bj hX hN [] ?_ ?_⟩ ?_;(repeat' (first|(with_reducible first|exact clZ|refine bm ?_ ?_|refine bn ?_ ?_|rfl|refine suZ ?_)|refine bo rfl ?_ ?_|exact aJ hN _ rfl rfl rfl|exact aK hN _ rfl rfl rfl|exact ap hN _ rfl rfl rfl (Or.inr rfl)|(refine aL hN _ rfl rfl (by first|exact Or.inr rfl|exact Or.inl rfl) ?_;first|exact aF _|exact aG _)|refine aq hN rfl ?_|refine au hN rfl rfl ?_|exact ao hN _ rfl rfl|exact aw hN rfl rfl rfl rfl|(with_reducible first|refine stZ ?_|refine aI ?_)));(try (any_goals (first|(with_reducible rfl)|(refine ah ?_;omega)))))
 · rw [← hlw];exact (bp fun v _=>if_neg (Nat.not_lt_zero v)).trans (dg _)
 intro k hk
 have htl:=bK g.prio.length fun v=>if v < k then gi (dk g s).won v else gi s.won v
 rcases Nat.lt_or_ge k g.prio.length with hkl|hkl
 · have hgk:=Lib.hid (cw (n:=g.prio.length) (v:=k) (p:=dj g s))
   have hww:=Lib.hid (jk (s:=s) hkl)
   (repeat' (first|(with_reducible first|(apply hK;clear hK K)|refine stZ ?_|refine aQ rfl ?_|((first|apply ae|apply af);clear ae X af Y))|(with_reducible refine aT ?_;first|refine aR rfl ?_|refine aS rfl ?_)|(with_reducible refine bE ?_;refine bH hN ?_)|((with_reducible first|((first|refine aW ?_|refine bI ?_|refine aX ?_|refine bJ ?_);intro K hK)|(refine aC ?_;intro X Y ae af)|refine aD ?_);simp (disch:=first|decide|omega|(simp only [List.length_cons,List.length_nil];omega)) only [go_sem,↓aj hN,am hN,reduceIte,reduceCtorEq,Nat.reduceAdd,Nat.reduceLT,Nat.reduceLeDiff,Nat.reduceEqDiff,Nat.reduceSub])|(with_reducible refine And.intro (fun h=>?_) (fun h=>?_) <;> try (exfalso;omega))|(with_reducible refine aV aE hN ?_)|(with_reducible refine bi aE hN ?_)|(with_reducible refine And.intro ?_ ?_)|(refine ah ?_;omega)|(exact aU hN (by decide))))
   · (refine ⟨k + 1,⟨?_,?_⟩,bj hX hN [] ?_ ?_⟩;(try any_goals dsimp only);(repeat' (first|(with_reducible first|exact clZ|refine bm ?_ ?_|refine bn ?_ ?_|rfl|refine suZ ?_)|refine bo rfl ?_ ?_|exact aJ hN _ rfl rfl rfl|exact aK hN _ rfl rfl rfl|exact ap hN _ rfl rfl rfl (Or.inr rfl)|(refine aL hN _ rfl rfl (by first|exact Or.inr rfl|exact Or.inl rfl) ?_;first|exact aF _|exact aG _)|refine aq hN rfl ?_|refine au hN rfl rfl ?_|exact ao hN _ rfl rfl|exact aw hN rfl rfl rfl rfl|(with_reducible first|refine stZ ?_|refine aI ?_)));(try (any_goals (first|(with_reducible rfl)|(refine ah ?_;omega)))))
     exact gE hkl (by rw [hww.out,if_pos (hgk.out.1 (by assumption)).2])
   · (refine ⟨k + 1,⟨?_,?_⟩,bj hX hN [] ?_ ?_⟩;(try any_goals dsimp only);(repeat' (first|(with_reducible first|exact clZ|refine bm ?_ ?_|refine bn ?_ ?_|rfl|refine suZ ?_)|refine bo rfl ?_ ?_|exact aJ hN _ rfl rfl rfl|exact aK hN _ rfl rfl rfl|exact ap hN _ rfl rfl rfl (Or.inr rfl)|(refine aL hN _ rfl rfl (by first|exact Or.inr rfl|exact Or.inl rfl) ?_;first|exact aF _|exact aG _)|refine aq hN rfl ?_|refine au hN rfl rfl ?_|exact ao hN _ rfl rfl|exact aw hN rfl rfl rfl rfl|(with_reducible first|refine stZ ?_|refine aI ?_)));(try (any_goals (first|(with_reducible rfl)|(refine ah ?_;omega)))))
     exact dy (by rw [hww.out,if_neg fun h'=>by rw [hgk.out.2 ⟨hkl,h'⟩] at h;cases h])
 obtain rfl : k = g.prio.length:=by omega
 have hr : (tab g.prio.length fun v=>if v < g.prio.length then gi (dk g s).won v else gi s.won v) = (dk g s).won:=bp fun v hv=>by rw [if_pos hv,jk hv]
 rw [hr]
 (repeat' (first|(with_reducible first|(apply hK;clear hK K)|refine stZ ?_|refine aQ rfl ?_|((first|apply ae|apply af);clear ae X af Y))|(with_reducible refine aT ?_;first|refine aR rfl ?_|refine aS rfl ?_)|(with_reducible refine bE ?_;refine bH hN ?_)|((with_reducible first|((first|refine aW ?_|refine bI ?_|refine aX ?_|refine bJ ?_);intro K hK)|(refine aC ?_;intro X Y ae af)|refine aD ?_);simp (disch:=first|decide|omega|(simp only [List.length_cons,List.length_nil];omega)) only [go_sem,↓aj hN,am hN,reduceIte,reduceCtorEq,Nat.reduceAdd,Nat.reduceLT,Nat.reduceLeDiff,Nat.reduceEqDiff,Nat.reduceSub])|(with_reducible refine And.intro (fun h=>?_) (fun h=>?_) <;> try (exfalso;omega))|(with_reducible refine aV aE hN ?_)|(with_reducible refine bi aE hN ?_)|(refine ml (hrs) hN 7 ?_ rfl rfl rfl ?_;focus ((repeat' (first|(with_reducible first|exact aA|refine ax ?_ ?_|exact bP _|refine a9 ?_|exact bc _|exact bA _ _|refine bz ?_|exact aZ _)|exact ba hN rfl rfl|(refine bw hN rfl ?_;first|exact aF _|exact aG _)|exact a8 rfl rfl rfl));done))|(with_reducible first|exact aA|refine ax ?_ ?_|exact bP _|refine a9 ?_|exact bc _|exact bA _ _|refine bz ?_|exact aZ _)|exact ba hN rfl rfl|(refine bw hN rfl ?_;first|exact aF _|exact aG _)|exact a8 rfl rfl rfl|(simp only [bt,List.map_nil])|(with_reducible refine bN ?_)|(simp (disch:=first|decide|omega|(simp only [List.length_cons,List.length_nil];omega)) only [bt,List.map_cons,List.map_nil,am hN,List.set_cons_zero,List.set_cons_succ])|(with_reducible refine And.intro ?_ ?_)|(refine ah ?_;omega)|(exact aU hN (by decide))))
 (refine dL hN [8,9] (by decide) (.inr rfl) (by first|exact cr rfl rfl|exact b8 hN rfl rfl rfl rfl|exact bR hN rfl rfl rfl rfl rfl|(simp (disch:=first|decide|omega|(simp only [List.length_cons,List.length_nil];omega)) only [bS,bV,bW,b7,go_sem,beq_self_eq_true,↓az,↓aj hN,am hN,reduceIte,reduceCtorEq,Nat.reduceAdd,Nat.reduceLT,Nat.reduceLeDiff,Nat.reduceEqDiff,Nat.reduceSub];rfl)|rfl) ?_ fun νs hνs=>?_;(repeat' (first|exact Gone.nil|(refine Gone.cons rfl rfl ?_ ?_)|(with_reducible refine cZ ?_)|(with_reducible refine cY ?_)|(with_reducible refine SVs.cons ?_ ?_)|(with_reducible exact SVs.nil)|(simp only [List.drop,List.take])|(simp (disch:=first|decide|omega) only [↓az,reduceIte,reduceCtorEq,Nat.reduceEqDiff])|(with_reducible exact fM _)|(with_reducible exact cW _)|(exact cX rfl rfl rfl)|(exact cx 0 (by simp) rfl rfl)|(exact cx 1 (by simp) rfl rfl)|(refine dK hN rfl (c7 hN (by decide)) ?_)|(with_reducible refine dJ ?_)|(with_reducible rfl)|(with_reducible refine fN ?_)|(with_reducible refine fO ?_)|(with_reducible refine fP ?_)|(with_reducible refine fo ?_)|(with_reducible refine fQ ?_)|(refine ah ?_;omega))))
 all_goals rfl
theorem pB (g : Pa) (hg : PaOk g) (s : St) (hO : StOk g s) (h0 : 0 ≤ s.at_) : ay Try.prog 33 [paA g,stA s] [.arr 2 .yes (.I (cL g s).1.won),.arr 2 .may (.I (cL g s).1.region)] (fun ns=>.tup [.agg [.sl (ns.getD 0 0),.sl (ns.getD 1 0),.c (.int .i64 (cL g s).1.at_)],.c (.int .i64 (cL g s).2)]):=by
 unfold cL
 by_cases h1 : cQ g s
 · rw [if_neg (fun h'=>h' h1)]
   by_cases h2 : 0 ≤ upV g s
   · rw [if_pos h2];exact nR g hg s hO h0 h1 h2
   · rw [if_neg h2];exact pA g hg s hO h0 h1 h2
 · rw [if_pos h1];exact nQ g hg s hO h0 h1
end Go.Proofs.Ytdkkhhfhdijfmaa
