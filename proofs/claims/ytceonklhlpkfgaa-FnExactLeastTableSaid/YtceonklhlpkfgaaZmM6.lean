/-
  Measures, the program: comparing from a priority on, what is asked for.
-/
import Derived.Test.YtceonklhlpkfgaaZmM5
namespace Go.Proofs.Ytceonklhlpkfgaa
set_option linter.unusedVariables false
set_option linter.unusedSimpArgs false
open Go.RowKit
attribute [local irreducible] aw cz Aw Le
theorem lZ {g : Pa} {m : List Int} {c k : Nat} (hm : cL g m) (h1 : ¬ gi m 0 = 1) (hc : c ≤ (au g).length) (hk : c ≤ k) : (tab ((au g).length + 1) fun i=>if 1 ≤ i ∧ i ≤ min k c then gi m i else 0) = MS.cut (au g).length c m:=by
 have hm0:=(hm.resolve_left fun e=>h1 (by rw [e];rfl)).2.1
 refine bX fun i hi=>?_
 by_cases e : i = 0
 · subst e;rw [if_neg (by omega),if_pos (Nat.zero_le _),hm0]
 · by_cases e2 : i ≤ c
   · rw [if_pos (by omega),if_pos e2]
   · rw [if_neg (by omega),if_neg e2]
theorem iU (g : Pa) (hg : PaOk g) (v : Nat) (hv : v < g.prio.length) (m : List Int) (hm : cL g m) : aw Try.prog 50 [paA g,.c (.int .i64 v),.c (.I m)] [.arr 2 .yes (.I (dY g v m))] (fun ns=>.sl (ns.getD 0 0)):=by
 have hp:=(cj hm).1
 have h42:=(cj hm).2
 have hK:=cM g
 have hpr:=hg.prio v hv
 have htm : (gi g.prio v).tmod 2 = gi g.prio v % 2:=Int.tmod_eq_emod_of_nonneg hpr.1
 have hle:=hg.ar.le
 have hln:=hg.len
 by_cases h1 : gi m 0 = 1
 · (refine bc aF Try.func50 rfl rfl (by kernel_rfl) fun hp0 ν hX hN=>?_;simp only [ct,Nat.reduceAdd])
   (repeat' (first|(with_reducible first|(apply hK;clear hK K)|refine stZ ?_|refine be rfl ?_|((first|apply ae|apply af);clear ae X af Y))|(with_reducible refine bh ?_;first|refine bf rfl ?_|refine bg rfl ?_)|(with_reducible refine cW ?_;refine cA hN ?_)|((with_reducible first|((first|refine bm ?_|refine cB ?_|refine bn ?_|refine cC ?_);intro K hK)|(refine aL ?_;intro X Y ae af)|refine aM ?_);simp (disch:=first|decide|omega|(simp only [List.length_cons,List.length_nil];omega)) only [go_sem,↓aj hN,am hN,reduceIte,reduceCtorEq,Nat.reduceAdd,Nat.reduceLT,Nat.reduceLeDiff,Nat.reduceEqDiff,Nat.reduceSub])|(with_reducible refine And.intro (fun h=>?_) (fun h=>?_) <;> try (exfalso;omega))|(with_reducible refine bj aF hN ?_)|(with_reducible refine bE aF hN ?_)|((first|refine aW (hD m hp) ?_ rfl (fun _=>rfl) ?_|refine aW (gt g hg) ?_ rfl (fun _=>rfl) ?_|refine aW (jB g hg) ?_ rfl (fun _=>rfl) ?_);focus ((repeat' (first|(with_reducible first|exact ay|refine aq ?_ ?_|exact bQ _|refine aI ?_|exact aK _|exact ba _ _|refine a8 ?_|exact aG _)|exact aJ hN rfl rfl|(refine aZ hN rfl ?_;first|exact aN _|exact aO _)|exact aH rfl rfl rfl));done))|(with_reducible first|exact ay|refine aq ?_ ?_|exact bQ _|refine aI ?_|exact aK _|exact ba _ _|refine a8 ?_|exact aG _)|exact aJ hN rfl rfl|(refine aZ hN rfl ?_;first|exact aN _|exact aO _)|exact aH rfl rfl rfl|(simp only [aD,List.map_nil])|(with_reducible refine bK ?_)|(with_reducible refine And.intro ?_ ?_)|(refine an ?_;omega)|(exact bi hN (by decide))))
   (refine cK hN (i:=1) (.inr rfl) (by first|rfl|(simp (disch:=first|decide|omega|(simp only [List.length_cons,List.length_nil];omega)) only [bF,bH,bJ,bP,go_sem,beq_self_eq_true,↓aB,↓aj hN,am hN,reduceIte,reduceCtorEq,Nat.reduceAdd,Nat.reduceLT,Nat.reduceLeDiff,Nat.reduceEqDiff,Nat.reduceSub];rfl)) rfl ?_ rfl)
   rw [dY,MS.ask,if_pos h1]
 · have hml:=(hm.resolve_left fun e=>h1 (by rw [e];rfl)).1
   have hm0:=(hm.resolve_left fun e=>h1 (by rw [e];rfl)).2.1
   have hc:=fS g (gi g.prio v)
   (refine bc aF Try.func50 rfl rfl (by kernel_rfl) fun hp0 ν hX hN=>?_;simp only [ct,Nat.reduceAdd])
   (repeat' (first|(with_reducible first|(apply hK;clear hK K)|refine stZ ?_|refine be rfl ?_|((first|apply ae|apply af);clear ae X af Y))|(with_reducible refine bh ?_;first|refine bf rfl ?_|refine bg rfl ?_)|(with_reducible refine cW ?_;refine cA hN ?_)|((with_reducible first|((first|refine bm ?_|refine cB ?_|refine bn ?_|refine cC ?_);intro K hK)|(refine aL ?_;intro X Y ae af)|refine aM ?_);simp (disch:=first|decide|omega|(simp only [List.length_cons,List.length_nil];omega)) only [go_sem,↓aj hN,am hN,reduceIte,reduceCtorEq,Nat.reduceAdd,Nat.reduceLT,Nat.reduceLeDiff,Nat.reduceEqDiff,Nat.reduceSub])|(with_reducible refine And.intro (fun h=>?_) (fun h=>?_) <;> try (exfalso;omega))|(with_reducible refine bj aF hN ?_)|(with_reducible refine bE aF hN ?_)|((first|refine aW (hD m hp) ?_ rfl (fun _=>rfl) ?_|refine aW (gt g hg) ?_ rfl (fun _=>rfl) ?_|refine aW (jB g hg) ?_ rfl (fun _=>rfl) ?_);focus ((repeat' (first|(with_reducible first|exact ay|refine aq ?_ ?_|exact bQ _|refine aI ?_|exact aK _|exact ba _ _|refine a8 ?_|exact aG _)|exact aJ hN rfl rfl|(refine aZ hN rfl ?_;first|exact aN _|exact aO _)|exact aH rfl rfl rfl));done))|(with_reducible first|exact ay|refine aq ?_ ?_|exact bQ _|refine aI ?_|exact aK _|exact ba _ _|refine a8 ?_|exact aG _)|exact aJ hN rfl rfl|(refine aZ hN rfl ?_;first|exact aN _|exact aO _)|exact aH rfl rfl rfl|(simp only [aD,List.map_nil])|(with_reducible refine bK ?_)|(with_reducible refine And.intro ?_ ?_)|(refine an ?_;omega)|(exact bi hN (by decide))))
   (refine cw (fun (k : Nat)=>(tmL [(28,.c (.int .i64 k)),(27,.c (.int .i64 (au g).length)),(26,.sl (ν 2)),(8,.sl (ν 1)),(9,.c (.int .i64 (min k (odC g (gi g.prio v)) : Nat))),(7,.c (.int .i64 (gi g.prio v))),(2,.c (.I m)),(1,.c (.int .i64 v)),(3,.ad (ν 0) 0)],hpL hp0 ν [.box [.c (.I g.ar.own),.c (.R g.ar.nxt),.c (.I g.prio)],.arr 2 .yes (.I (tab ((au g).length + 1) fun i=>if 1 ≤ i ∧ i ≤ min k (odC g (gi g.prio v)) then gi m i else 0)),.arr 2 .may (.I (au g))])) (fun (k : Nat)=>k ≤ (au g).length) (fun (k : Nat)=>(au g).length - k) ⟨0,?_,bT hX hN [] ?_ ?_⟩ ?_;(repeat' (first|(with_reducible first|exact clZ|refine bU ?_ ?_|refine bV ?_ ?_|rfl|refine suZ ?_)|refine bW rfl ?_ ?_|exact bz hN _ rfl rfl rfl|exact bA hN _ rfl rfl rfl|exact aS hN _ rfl rfl rfl (Or.inr rfl)|(refine bB hN _ rfl rfl (by first|exact Or.inr rfl|exact Or.inl rfl) ?_;first|exact aN _|exact aO _)|refine aT hN rfl ?_|refine aU hN rfl rfl ?_|exact aR hN _ rfl rfl|exact aV hN rfl rfl rfl rfl|(with_reducible first|refine stZ ?_|refine bw ?_)));(try (any_goals (first|(with_reducible rfl)|(refine an ?_;omega)))))
   · exact (gw (by simp;omega) fun i hi=>by rw [if_neg (by omega)];simp only [gi,List.getD_eq_getElem?_getD,List.getElem?_replicate];split <;> rfl).symm
   intro k hk
   have htl:=bM ((au g).length + 1) fun i=>if 1 ≤ i ∧ i ≤ min k (odC g (gi g.prio v)) then gi m i else 0
   (repeat' (first|(with_reducible first|(apply hK;clear hK K)|refine stZ ?_|refine be rfl ?_|((first|apply ae|apply af);clear ae X af Y))|(with_reducible refine bh ?_;first|refine bf rfl ?_|refine bg rfl ?_)|(with_reducible refine cW ?_;refine cA hN ?_)|((with_reducible first|((first|refine bm ?_|refine cB ?_|refine bn ?_|refine cC ?_);intro K hK)|(refine aL ?_;intro X Y ae af)|refine aM ?_);simp (disch:=first|decide|omega|(simp only [List.length_cons,List.length_nil];omega)) only [go_sem,↓aj hN,am hN,reduceIte,reduceCtorEq,Nat.reduceAdd,Nat.reduceLT,Nat.reduceLeDiff,Nat.reduceEqDiff,Nat.reduceSub])|(with_reducible refine And.intro (fun h=>?_) (fun h=>?_) <;> try (exfalso;omega))|(with_reducible refine bj aF hN ?_)|(with_reducible refine bE aF hN ?_)|((first|refine aW (hD m hp) ?_ rfl (fun _=>rfl) ?_|refine aW (gt g hg) ?_ rfl (fun _=>rfl) ?_|refine aW (jB g hg) ?_ rfl (fun _=>rfl) ?_);focus ((repeat' (first|(with_reducible first|exact ay|refine aq ?_ ?_|exact bQ _|refine aI ?_|exact aK _|exact ba _ _|refine a8 ?_|exact aG _)|exact aJ hN rfl rfl|(refine aZ hN rfl ?_;first|exact aN _|exact aO _)|exact aH rfl rfl rfl));done))|(with_reducible first|exact ay|refine aq ?_ ?_|exact bQ _|refine aI ?_|exact aK _|exact ba _ _|refine a8 ?_|exact aG _)|exact aJ hN rfl rfl|(refine aZ hN rfl ?_;first|exact aN _|exact aO _)|exact aH rfl rfl rfl|(simp only [aD,List.map_nil])|(with_reducible refine bK ?_)|(with_reducible refine And.intro ?_ ?_)|(refine an ?_;omega)|(exact bi hN (by decide))))
   · have hi:=(dz g (gi g.prio v) (i:=k) (by omega)).1 (by omega)
     (refine ⟨k + 1,⟨?_,?_⟩,bT hX hN [] ?_ ?_⟩;(try any_goals dsimp only);(repeat' (first|(with_reducible first|exact clZ|refine bU ?_ ?_|refine bV ?_ ?_|rfl|refine suZ ?_)|refine bW rfl ?_ ?_|exact bz hN _ rfl rfl rfl|exact bA hN _ rfl rfl rfl|exact aS hN _ rfl rfl rfl (Or.inr rfl)|(refine bB hN _ rfl rfl (by first|exact Or.inr rfl|exact Or.inl rfl) ?_;first|exact aN _|exact aO _)|refine aT hN rfl ?_|refine aU hN rfl rfl ?_|exact aR hN _ rfl rfl|exact aV hN rfl rfl rfl rfl|(with_reducible first|refine stZ ?_|refine bw ?_)));(try (any_goals (first|(with_reducible rfl)|(refine an ?_;omega)))))
     · show tab _ _ = (tab _ _).set (k + 1) (gi m (k + 1))
       rw [iZ (by omega)]
       exact bX fun i hi=>by grind
   · have hi : ¬ k < odC g (gi g.prio v):=fun h'=>absurd ((dz g (gi g.prio v) (i:=k) (by omega)).2 h') (by omega)
     (refine ⟨k + 1,⟨?_,?_⟩,bT hX hN [] ?_ ?_⟩;(try any_goals dsimp only);(repeat' (first|(with_reducible first|exact clZ|refine bU ?_ ?_|refine bV ?_ ?_|rfl|refine suZ ?_)|refine bW rfl ?_ ?_|exact bz hN _ rfl rfl rfl|exact bA hN _ rfl rfl rfl|exact aS hN _ rfl rfl rfl (Or.inr rfl)|(refine bB hN _ rfl rfl (by first|exact Or.inr rfl|exact Or.inl rfl) ?_;first|exact aN _|exact aO _)|refine aT hN rfl ?_|refine aU hN rfl rfl ?_|exact aR hN _ rfl rfl|exact aV hN rfl rfl rfl rfl|(with_reducible first|refine stZ ?_|refine bw ?_)));(try (any_goals (first|(with_reducible rfl)|(refine an ?_;omega)))))
     · exact bX fun i hi=>by grind
   · (refine cK hN (i:=1) (.inr rfl) (by first|rfl|(simp (disch:=first|decide|omega|(simp only [List.length_cons,List.length_nil];omega)) only [bF,bH,bJ,bP,go_sem,beq_self_eq_true,↓aB,↓aj hN,am hN,reduceIte,reduceCtorEq,Nat.reduceAdd,Nat.reduceLT,Nat.reduceLeDiff,Nat.reduceEqDiff,Nat.reduceSub];rfl)) rfl ?_ rfl)
     have hcut:=lZ hm h1 hc (show odC g (gi g.prio v) ≤ k by omega)
     rw [hcut,dY,MS.ask,if_neg h1,ap (by omega),sc]
   have hcut:=lZ hm h1 hc (show odC g (gi g.prio v) ≤ k by omega)
   have hask : MS.inc (bd g).mx (odC g (gi g.prio v)) (MS.cut (au g).length (odC g (gi g.prio v)) m) = dY g v m:=by
    have h0 : (gi g.prio v).tmod 2 ≠ 0:=by simpa using (by assumption : ((gi g.prio v).tmod 2 == 0) = false)
    rw [dY,MS.ask,if_neg h1,aE (by omega),r9]
   have hcl:=MS.cut_len (au g).length (odC g (gi g.prio v)) m
   have hcn:=fun j=>MS.ok_nn (MS.cut_ok (K:=(bd g).K) hc (cX hg).mx0 (g9.1 hm) h1) j
   (refine cw (fun (y : Nat × List Int)=>(tmL [(13,.c (.int .i64 y.1)),(12,.sl (ν 3)),(8,.sl (ν 1))],hpL hp0 ν [.dead,.arr 2 .yes (.I y.2),.dead,.arr 2 .may (.I (tab (au g).length fun i=>dD g (gi (au g) i)))])) (fun (y : Nat × List Int)=>y.1 ≤ odC g (gi g.prio v) ∧ y.2.length = (au g).length + 1 ∧ (∀ j,0 ≤ gi y.2 j) ∧ MS.inc (bd g).mx y.1 y.2 = dY g v m) (fun (y : Nat × List Int)=>y.1) ⟨(odC g (gi g.prio v),MS.cut (au g).length (odC g (gi g.prio v)) m),?_,bT hX hN [] ?_ ?_⟩ ?_;(repeat' (first|(with_reducible first|exact clZ|refine bU ?_ ?_|refine bV ?_ ?_|rfl|refine suZ ?_)|refine bW rfl ?_ ?_|exact bz hN _ rfl rfl rfl|exact bA hN _ rfl rfl rfl|exact aS hN _ rfl rfl rfl (Or.inr rfl)|(refine bB hN _ rfl rfl (by first|exact Or.inr rfl|exact Or.inl rfl) ?_;first|exact aN _|exact aO _)|refine aT hN rfl ?_|refine aU hN rfl rfl ?_|exact aR hN _ rfl rfl|exact aV hN rfl rfl rfl rfl|(with_reducible first|refine stZ ?_|refine bw ?_)));(try (any_goals (first|(with_reducible rfl)|(refine an ?_;omega)))))
   · exact ⟨Nat.le_refl _,hcl,hcn,hask⟩
   · exact hcut.symm
   rintro ⟨i,out⟩ ⟨hi,hl,hn,he⟩
   dsimp only at hi hl hn he ⊢
   have hout:=hn i
   have hmy:=jA g (gi (au g) ((i : Int) - 1).toNat)
   (repeat' (first|(with_reducible first|(apply hK;clear hK K)|refine stZ ?_|refine be rfl ?_|((first|apply ae|apply af);clear ae X af Y))|(with_reducible refine bh ?_;first|refine bf rfl ?_|refine bg rfl ?_)|(with_reducible refine cW ?_;refine cA hN ?_)|((with_reducible first|((first|refine bm ?_|refine cB ?_|refine bn ?_|refine cC ?_);intro K hK)|(refine aL ?_;intro X Y ae af)|refine aM ?_);simp (disch:=first|decide|omega|(simp only [List.length_cons,List.length_nil];omega)) only [go_sem,↓aj hN,am hN,reduceIte,reduceCtorEq,Nat.reduceAdd,Nat.reduceLT,Nat.reduceLeDiff,Nat.reduceEqDiff,Nat.reduceSub])|(with_reducible refine And.intro (fun h=>?_) (fun h=>?_) <;> try (exfalso;omega))|(with_reducible refine bj aF hN ?_)|(with_reducible refine bE aF hN ?_)|(with_reducible refine And.intro ?_ ?_)|(refine an ?_;omega)|(exact bi hN (by decide))))
   · have hmo : gi (au g) ((i : Int) - 1).toNat = gi (au g) (i - 1):=by rw [show ((i : Int) - 1).toNat = i - 1 by omega]
     have hlt : gi out i < dD g (gi (au g) (i - 1)):=by rw [← hmo];assumption
     (refine cK hN (i:=1) (.inr rfl) (by first|rfl|(simp (disch:=first|decide|omega|(simp only [List.length_cons,List.length_nil];omega)) only [bF,bH,bJ,bP,go_sem,beq_self_eq_true,↓aB,↓aj hN,am hN,reduceIte,reduceCtorEq,Nat.reduceAdd,Nat.reduceLT,Nat.reduceLeDiff,Nat.reduceEqDiff,Nat.reduceSub];rfl)) rfl ?_ rfl)
     rw [← he]
     obtain ⟨t,rfl⟩ : ∃ t,i = t + 1:=⟨i - 1,by omega⟩
     exact congrArg C.I (if_pos hlt : MS.inc (bd g).mx (t + 1) out = _).symm
   · have hmo : gi (au g) ((i : Int) - 1).toNat = gi (au g) (i - 1):=by rw [show ((i : Int) - 1).toNat = i - 1 by omega]
     have hlt : ¬ gi out i < dD g (gi (au g) (i - 1)):=by rw [← hmo];assumption
     obtain ⟨t,rfl⟩ : ∃ t,i = t + 1:=⟨i - 1,by omega⟩
     (refine ⟨(t,out.set (t + 1) 0),⟨?_,?_⟩,bT hX hN [] ?_ ?_⟩;(try any_goals dsimp only);(repeat' (first|(with_reducible first|exact clZ|refine bU ?_ ?_|refine bV ?_ ?_|rfl|refine suZ ?_)|refine bW rfl ?_ ?_|exact bz hN _ rfl rfl rfl|exact bA hN _ rfl rfl rfl|exact aS hN _ rfl rfl rfl (Or.inr rfl)|(refine bB hN _ rfl rfl (by first|exact Or.inr rfl|exact Or.inl rfl) ?_;first|exact aN _|exact aO _)|refine aT hN rfl ?_|refine aU hN rfl rfl ?_|exact aR hN _ rfl rfl|exact aV hN rfl rfl rfl rfl|(with_reducible first|refine stZ ?_|refine bw ?_)));(try (any_goals (first|(with_reducible rfl)|(refine an ?_;omega)))))
     refine ⟨by omega,by rw [List.length_set];exact hl,fun j=>?_,?_⟩
     · rw [fE (by omega)]
       split
       · exact Int.le_refl _
       · exact hn j
     · rw [← he]
       exact (if_neg hlt : MS.inc (bd g).mx (t + 1) out = _).symm
   · obtain rfl : i = 0:=by omega
     (refine cK hN (i:=4) (.inr rfl) (by first|rfl|(simp (disch:=first|decide|omega|(simp only [List.length_cons,List.length_nil];omega)) only [bF,bH,bJ,bP,go_sem,beq_self_eq_true,↓aB,↓aj hN,am hN,reduceIte,reduceCtorEq,Nat.reduceAdd,Nat.reduceLT,Nat.reduceLeDiff,Nat.reduceEqDiff,Nat.reduceSub];rfl)) rfl ?_ rfl)
     exact congrArg C.I he
end Go.Proofs.Ytceonklhlpkfgaa
