/-
  Both sides' winners by improvement.
-/
import Derived.Test.YtiadchinhofieaaGreatZfIC
namespace Go.Proofs.YtiadchinhofieaaGreat
set_option linter.unusedVariables false
set_option linter.unusedSimpArgs false
open Go.RowKit
attribute [local irreducible] aO ck Aw Le
noncomputable def iwL (g : Pa) : List Int:=tab g.prio.length fun v=>gi g.prio (WW g (dL g) v).hd.toNat % 2
theorem vT {g : Pa} (hs : dr g) {v : Nat} (hv : v < g.prio.length) : (gi g.prio (WW g (dL g) v).hd.toNat).tmod 2 = gi g.prio (WW g (dL g) v).hd.toNat % 2 ∧ fP g.prio.length (WW g (dL g) v).hd:=by
 have h:=(gy hs (fh hs) hv).hd
 refine ⟨Int.tmod_eq_emod_of_nonneg (hs.1.prio _ ?_).1,h⟩
 unfold fP at h;omega
attribute [local go_sem] ir yT yU yV yZ y5 y6
set_option maxHeartbeats 1000000 in
theorem AE (g : Pa) (h : xr g) : aO Tryz.prog 11 [paA g] [.arr 2 .yes (.I (iwL g))] (fun ns=>.sl (ns.getD 0 0)):=by
 obtain ⟨hs,hr⟩:=h
 have hl:=hs.1.len
 have hle:=hs.2
 have c1:=ls g
 rw [aP hs] at c1
 have c2:=kS g hs.1
 rw [fj hr] at c2
 have c4:=kv g hs hr
 have c5:=ku g hs (dL g) (fh hs) hr
 have hat:=fun v hv=>vT hs (v:=v) hv
 have htl:=gz g.prio.length fun v=>wC (WW g (dL g) v)
 (refine bj ap Tryz.func11 rfl rfl (by kernel_rfl) fun hp0 ν hX hN=>?_;simp only [bU,Nat.reduceAdd])
 (repeat' (first|(with_reducible first|(apply hK;clear hK K)|refine stZ ?_|refine aD rfl ?_|((first|apply ae|apply af);clear ae X af Y))|(with_reducible refine aG ?_;first|refine aE rfl ?_|refine aF rfl ?_)|(with_reducible refine aX ?_;first|refine aL rfl rfl rfl rfl ?_|refine aW rfl rfl rfl ?_|refine bm rfl rfl rfl rfl ?_)|(with_reducible refine ba ?_;first|refine bh rfl rfl rfl rfl ?_|refine bw rfl rfl rfl ?_|refine bH rfl rfl rfl rfl ?_|refine bd hN ?_)|((first|(with_reducible first|((first|refine aJ ?_|refine bf ?_|refine aK ?_|refine bg ?_);intro K hK)|(refine am ?_;intro X Y ae af)|refine ao ?_)|(with_reducible refine aX ?_;refine aM rfl rfl fun X Y ae af=>?_)|(with_reducible refine ba ?_;refine bi rfl rfl fun X Y ae af=>?_));simp (disch:=first|decide|omega|(simp only [List.length_cons,List.length_nil];omega)) only [go_sem,↓aj hN,ak hN,reduceIte,reduceCtorEq,Nat.reduceAdd,Nat.reduceLT,Nat.reduceLeDiff,Nat.reduceEqDiff,Nat.reduceSub])|(with_reducible refine And.intro (fun h=>?_) (fun h=>?_) <;> try (exfalso;omega))|(with_reducible refine aI ap hN ?_)|(with_reducible refine aC ap hN ?_)|((first|refine bW (c1) ?_ rfl (fun _=>rfl) ?_|refine bW (c2) ?_ rfl (fun _=>rfl) ?_|refine bW (c4) ?_ rfl (fun _=>rfl) ?_);focus ((repeat' (first|(with_reducible first|exact bt|refine bc ?_ ?_|exact cm _|refine bF ?_|exact bB _|exact bT _ _|refine bS ?_|exact bz _)|exact bG hN rfl rfl|(refine bR hN rfl ?_;first|exact aU _|exact aV _)|exact bA rfl rfl rfl));done))|(refine lB (c5) hN 2 ?_ rfl rfl rfl ?_;focus ((repeat' (first|(with_reducible first|exact bt|refine bc ?_ ?_|exact cm _|refine bF ?_|exact bB _|exact bT _ _|refine bS ?_|exact bz _)|exact bG hN rfl rfl|(refine bR hN rfl ?_;first|exact aU _|exact aV _)|exact bA rfl rfl rfl));done))|(with_reducible first|exact bt|refine bc ?_ ?_|exact cm _|refine bF ?_|exact bB _|exact bT _ _|refine bS ?_|exact bz _)|exact bG hN rfl rfl|(refine bR hN rfl ?_;first|exact aU _|exact aV _)|exact bA rfl rfl rfl|(simp only [aZ,List.map_nil])|(with_reducible refine aY ?_)|(simp (disch:=first|decide|omega|(simp only [List.length_cons,List.length_nil];omega)) only [aZ,List.map_cons,List.map_nil,ak hN,List.set_cons_zero,List.set_cons_succ])|(with_reducible refine And.intro ?_ ?_)|(refine ah ?_;omega)|(exact aH hN (by decide))))
 (refine bN (fun (v : Nat)=>(tmL [(20,.c (.int .i64 v)),(19,.c (.int .i64 g.prio.length)),(18,.sl (ν 3)),(3,.sl (ν 1)),(1,.ad (ν 0) 0)],hpL hp0 ν [.box [.c (.I g.ar.own),.c (.R g.ar.nxt),.c (.I g.prio)],.arr 2 .yes (.I (tab v fun v=>gi g.prio (WW g (dL g) v).hd.toNat % 2)),.dead,.arr 45 .yes (.V 3 (cB g.prio.length fun v=>wC (WW g (dL g) v)))])) (fun (v : Nat)=>v ≤ g.prio.length) (fun (v : Nat)=>g.prio.length - v) ⟨0,?_,bu hX hN [] ?_ ?_⟩ ?_;(repeat' (first|(with_reducible first|exact clZ|refine bn ?_ ?_|refine bo ?_ ?_|rfl|refine suZ ?_)|refine bp rfl ?_ ?_|exact aR hN _ rfl rfl rfl|exact aS hN _ rfl rfl rfl|exact ay hN _ rfl rfl rfl (Or.inr rfl)|(refine aT hN _ rfl rfl (by first|exact Or.inr rfl|exact Or.inl rfl) ?_;first|exact aU _|exact aV _)|refine az hN rfl ?_|refine aA hN rfl rfl ?_|exact ax hN _ rfl rfl|exact au hN rfl rfl rfl rfl|(with_reducible first|refine stZ ?_|refine aQ ?_)));(try (any_goals (first|(with_reducible rfl)|(refine ah ?_;omega)))))
 all_goals try rfl
 intro v hv
 have hts:=gZ v fun v=>gi g.prio (WW g (dL g) v).hd.toNat % 2
 have htl2:=cr v fun v=>gi g.prio (WW g (dL g) v).hd.toNat % 2
 rcases Nat.lt_or_ge v g.prio.length with hvl|hvl
 · obtain ⟨a1,a2⟩:=hat v hvl
   unfold fP at a2
   (repeat' (first|(with_reducible first|(apply hK;clear hK K)|refine stZ ?_|refine aD rfl ?_|((first|apply ae|apply af);clear ae X af Y))|(with_reducible refine aG ?_;first|refine aE rfl ?_|refine aF rfl ?_)|(with_reducible refine aX ?_;first|refine aL rfl rfl rfl rfl ?_|refine aW rfl rfl rfl ?_|refine bm rfl rfl rfl rfl ?_)|(with_reducible refine ba ?_;first|refine bh rfl rfl rfl rfl ?_|refine bw rfl rfl rfl ?_|refine bH rfl rfl rfl rfl ?_|refine bd hN ?_)|((first|(with_reducible first|((first|refine aJ ?_|refine bf ?_|refine aK ?_|refine bg ?_);intro K hK)|(refine am ?_;intro X Y ae af)|refine ao ?_)|(with_reducible refine aX ?_;refine aM rfl rfl fun X Y ae af=>?_)|(with_reducible refine ba ?_;refine bi rfl rfl fun X Y ae af=>?_));simp (disch:=first|decide|omega|(simp only [List.length_cons,List.length_nil];omega)) only [go_sem,↓aj hN,ak hN,reduceIte,reduceCtorEq,Nat.reduceAdd,Nat.reduceLT,Nat.reduceLeDiff,Nat.reduceEqDiff,Nat.reduceSub])|(with_reducible refine And.intro (fun h=>?_) (fun h=>?_) <;> try (exfalso;omega))|(with_reducible refine aI ap hN ?_)|(with_reducible refine aC ap hN ?_)|(with_reducible refine And.intro ?_ ?_)|(refine ah ?_;omega)|(exact aH hN (by decide))))
   (refine ⟨v + 1,⟨?_,?_⟩,bu hX hN [(1,6)] ?_ ?_⟩;(try any_goals dsimp only);(repeat' (first|(with_reducible first|exact clZ|refine bn ?_ ?_|refine bo ?_ ?_|rfl|refine suZ ?_)|refine bp rfl ?_ ?_|exact aR hN _ rfl rfl rfl|exact aS hN _ rfl rfl rfl|exact ay hN _ rfl rfl rfl (Or.inr rfl)|(refine aT hN _ rfl rfl (by first|exact Or.inr rfl|exact Or.inl rfl) ?_;first|exact aU _|exact aV _)|refine az hN rfl ?_|refine aA hN rfl rfl ?_|exact ax hN _ rfl rfl|exact au hN rfl rfl rfl rfl|(with_reducible first|refine stZ ?_|refine aQ ?_)));(try (any_goals (first|(with_reducible rfl)|(refine ah ?_;omega)))))
   rw [hts,a1]
 obtain rfl : v = g.prio.length:=by omega
 (repeat' (first|(with_reducible first|(apply hK;clear hK K)|refine stZ ?_|refine aD rfl ?_|((first|apply ae|apply af);clear ae X af Y))|(with_reducible refine aG ?_;first|refine aE rfl ?_|refine aF rfl ?_)|(with_reducible refine aX ?_;first|refine aL rfl rfl rfl rfl ?_|refine aW rfl rfl rfl ?_|refine bm rfl rfl rfl rfl ?_)|(with_reducible refine ba ?_;first|refine bh rfl rfl rfl rfl ?_|refine bw rfl rfl rfl ?_|refine bH rfl rfl rfl rfl ?_|refine bd hN ?_)|((first|(with_reducible first|((first|refine aJ ?_|refine bf ?_|refine aK ?_|refine bg ?_);intro K hK)|(refine am ?_;intro X Y ae af)|refine ao ?_)|(with_reducible refine aX ?_;refine aM rfl rfl fun X Y ae af=>?_)|(with_reducible refine ba ?_;refine bi rfl rfl fun X Y ae af=>?_));simp (disch:=first|decide|omega|(simp only [List.length_cons,List.length_nil];omega)) only [go_sem,↓aj hN,ak hN,reduceIte,reduceCtorEq,Nat.reduceAdd,Nat.reduceLT,Nat.reduceLeDiff,Nat.reduceEqDiff,Nat.reduceSub])|(with_reducible refine And.intro (fun h=>?_) (fun h=>?_) <;> try (exfalso;omega))|(with_reducible refine aI ap hN ?_)|(with_reducible refine aC ap hN ?_)|(with_reducible refine And.intro ?_ ?_)|(refine ah ?_;omega)|(exact aH hN (by decide))))
 (refine c8 hN (i:=1) (.inr rfl) (by first|rfl|(simp (disch:=first|decide|omega|(simp only [List.length_cons,List.length_nil];omega)) only [bI,bJ,bK,bM,go_sem,beq_self_eq_true,↓aB,↓aj hN,ak hN,reduceIte,reduceCtorEq,Nat.reduceAdd,Nat.reduceLT,Nat.reduceLeDiff,Nat.reduceEqDiff,Nat.reduceSub];rfl)) rfl ?_ rfl)
 rfl
end Go.Proofs.YtiadchinhofieaaGreat
