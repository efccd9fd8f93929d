/-
  Measures, the program: comparing from a priority on, what is asked for.
-/
import Derived.Test.YtceonklhlpkfgaaZlM5
namespace Go.Proofs.Ytceonklhlpkfgaa
set_option linter.unusedVariables false
set_option linter.unusedSimpArgs false
open Go.RowKit
attribute [local irreducible] ay cM Aw Le
theorem l9 {g : Pa} {m : List Int} {c k : Nat} (hm : bJ g m) (h1 : ¬ gi m 0 = 1) (hc : c ≤ (ax g).length) (hk : c ≤ k) : (tab ((ax g).length + 1) fun i=>if 1 ≤ i ∧ i ≤ min k c then gi m i else 0) = MS.cut (ax g).length c m:=by
 have hm0:=(hm.resolve_left fun e=>h1 (by rw [e];rfl)).2.1
 refine ca fun i hi=>?_
 by_cases e : i = 0
 · subst e;rw [if_neg (by omega),if_pos (Nat.zero_le _),hm0]
 · by_cases e2 : i ≤ c
   · rw [if_pos (by omega),if_pos e2]
   · rw [if_neg (by omega),if_neg e2]
theorem mY (g : Pa) (hg : PaOk g) (v : Nat) (hv : v < g.prio.length) (m : List Int) (hm : bJ g m) : ay Try.prog 50 [paA g,.c (.int .i64 v),.c (.I m)] [.arr 2 .yes (.I (d5 g v m))] (fun ns=>.sl (ns.getD 0 0)):=by
 have hp:=(cf hm).1
 have h42:=(cf hm).2
 have hK:=cO g
 have hpr:=hg.prio v hv
 have htm : (gi g.prio v).tmod 2 = gi g.prio v % 2:=Int.tmod_eq_emod_of_nonneg hpr.1
 have hle:=hg.ar.le
 have hln:=hg.len
 by_cases h1 : gi m 0 = 1
 · (refine aV aL Try.func50 rfl rfl (by kernel_rfl) fun hp0 ν hX hN=>?_;simp only [ch,Nat.reduceAdd])
   (repeat' (first|(with_reducible first|(apply hK;clear hK K)|refine stZ ?_|refine aY rfl ?_|((first|apply ae|apply af);clear ae X af Y))|(with_reducible refine ba ?_;first|refine aZ rfl ?_|refine a8 rfl ?_)|(with_reducible refine cL ?_;refine cI hN ?_)|((with_reducible first|((first|refine be ?_|refine cJ ?_|refine bf ?_|refine cK ?_);intro K hK)|(refine aM ?_;intro X Y ae af)|refine aN ?_);simp (disch:=first|decide|omega|(simp only [List.length_cons,List.length_nil];omega)) only [go_sem,↓ak hN,an hN,reduceIte,reduceCtorEq,Nat.reduceAdd,Nat.reduceLT,Nat.reduceLeDiff,Nat.reduceEqDiff,Nat.reduceSub])|(with_reducible refine And.intro (fun h=>?_) (fun h=>?_) <;> try (exfalso;omega))|(with_reducible refine bd aL hN ?_)|(with_reducible refine bI aL hN ?_)|((first|refine aF (hU m hp) ?_ rfl (fun _=>rfl) ?_|refine aF (jE g hg) ?_ rfl (fun _=>rfl) ?_|refine aF (jF g hg) ?_ rfl (fun _=>rfl) ?_);focus ((repeat' (first|(with_reducible first|exact aw|refine aq ?_ ?_|exact bD _|refine aI ?_|exact aK _|exact aS _ _|refine aR ?_|exact aG _)|exact aJ hN rfl rfl|(refine aQ hN rfl ?_;first|exact aT _|exact aU _)|exact aH rfl rfl rfl));done))|(with_reducible first|exact aw|refine aq ?_ ?_|exact bD _|refine aI ?_|exact aK _|exact aS _ _|refine aR ?_|exact aG _)|exact aJ hN rfl rfl|(refine aQ hN rfl ?_;first|exact aT _|exact aU _)|exact aH rfl rfl rfl|(simp only [aE,List.map_nil])|(with_reducible refine bB ?_)|(with_reducible refine And.intro ?_ ?_)|(refine ap ?_;omega)|(exact bc hN (by decide))))
   (refine ct hN (i:=1) (.inr rfl) (by first|rfl|(simp (disch:=first|decide|omega|(simp only [List.length_cons,List.length_nil];omega)) only [bm,bq,bC,bF,go_sem,beq_self_eq_true,↓az,↓ak hN,an hN,reduceIte,reduceCtorEq,Nat.reduceAdd,Nat.reduceLT,Nat.reduceLeDiff,Nat.reduceEqDiff,Nat.reduceSub];rfl)) rfl ?_ rfl)
   rw [d5,MS.ask,if_pos h1]
 · have hml:=(hm.resolve_left fun e=>h1 (by rw [e];rfl)).1
   have hm0:=(hm.resolve_left fun e=>h1 (by rw [e];rfl)).2.1
   have hc:=fT g (gi g.prio v)
   (refine aV aL Try.func50 rfl rfl (by kernel_rfl) fun hp0 ν hX hN=>?_;simp only [ch,Nat.reduceAdd])
   (repeat' (first|(with_reducible first|(apply hK;clear hK K)|refine stZ ?_|refine aY rfl ?_|((first|apply ae|apply af);clear ae X af Y))|(with_reducible refine ba ?_;first|refine aZ rfl ?_|refine a8 rfl ?_)|(with_reducible refine cL ?_;refine cI hN ?_)|((with_reducible first|((first|refine be ?_|refine cJ ?_|refine bf ?_|refine cK ?_);intro K hK)|(refine aM ?_;intro X Y ae af)|refine aN ?_);simp (disch:=first|decide|omega|(simp only [List.length_cons,List.length_nil];omega)) only [go_sem,↓ak hN,an hN,reduceIte,reduceCtorEq,Nat.reduceAdd,Nat.reduceLT,Nat.reduceLeDiff,Nat.reduceEqDiff,Nat.reduceSub])|(with_reducible refine And.intro (fun h=>?_) (fun h=>?_) <;> try (exfalso;omega))|(with_reducible refine bd aL hN ?_)|(with_reducible refine bI aL hN ?_)|((first|refine aF (hU m hp) ?_ rfl (fun _=>rfl) ?_|refine aF (jE g hg) ?_ rfl (fun _=>rfl) ?_|refine aF (jF g hg) ?_ rfl (fun _=>rfl) ?_);focus ((repeat' (first|(with_reducible first|exact aw|refine aq ?_ ?_|exact bD _|refine aI ?_|exact aK _|exact aS _ _|refine aR ?_|exact aG _)|exact aJ hN rfl rfl|(refine aQ hN rfl ?_;first|exact aT _|exact aU _)|exact aH rfl rfl rfl));done))|(with_reducible first|exact aw|refine aq ?_ ?_|exact bD _|refine aI ?_|exact aK _|exact aS _ _|refine aR ?_|exact aG _)|exact aJ hN rfl rfl|(refine aQ hN rfl ?_;first|exact aT _|exact aU _)|exact aH rfl rfl rfl|(simp only [aE,List.map_nil])|(with_reducible refine bB ?_)|(with_reducible refine And.intro ?_ ?_)|(refine ap ?_;omega)|(exact bc hN (by decide))))
   (refine dw (fun (k : Nat)=>(tmL [(28,.c (.int .i64 k)),(27,.c (.int .i64 (ax g).length)),(26,.sl (ν 2)),(8,.sl (ν 1)),(9,.c (.int .i64 (min k (odC g (gi g.prio v)) : Nat))),(7,.c (.int .i64 (gi g.prio v))),(2,.c (.I m)),(1,.c (.int .i64 v)),(3,.ad (ν 0) 0)],hpL hp0 ν [.box [.c (.I g.ar.own),.c (.R g.ar.nxt),.c (.I g.prio)],.arr 2 .yes (.I (tab ((ax g).length + 1) fun i=>if 1 ≤ i ∧ i ≤ min k (odC g (gi g.prio v)) then gi m i else 0)),.arr 2 .may (.I (ax g))])) (fun (k : Nat)=>k ≤ (ax g).length) (fun (k : Nat)=>(ax g).length - k) ⟨0,?_,cS hX hN [] ?_ ?_⟩ ?_;(repeat' (first|(with_reducible first|exact clZ|refine cT ?_ ?_|refine cU ?_ ?_|rfl|refine suZ ?_)|refine cV rfl ?_ ?_|exact bU hN _ rfl rfl rfl|exact bV hN _ rfl rfl rfl|exact bu hN _ rfl rfl rfl (Or.inr rfl)|(refine bW hN _ rfl rfl (by first|exact Or.inr rfl|exact Or.inl rfl) ?_;first|exact aT _|exact aU _)|refine bv hN rfl ?_|refine bw hN rfl rfl ?_|exact br hN _ rfl rfl|exact bz hN rfl rfl rfl rfl|(with_reducible first|refine stZ ?_|refine bT ?_)));(try (any_goals (first|(with_reducible rfl)|(refine ap ?_;omega)))))
   · exact (gt (by simp;omega) fun i hi=>by rw [if_neg (by omega)];simp only [gi,List.getD_eq_getElem?_getD,List.getElem?_replicate];split <;> rfl).symm
   intro k hk
   have htl:=bO ((ax g).length + 1) fun i=>if 1 ≤ i ∧ i ≤ min k (odC g (gi g.prio v)) then gi m i else 0
   (repeat' (first|(with_reducible first|(apply hK;clear hK K)|refine stZ ?_|refine aY rfl ?_|((first|apply ae|apply af);clear ae X af Y))|(with_reducible refine ba ?_;first|refine aZ rfl ?_|refine a8 rfl ?_)|(with_reducible refine cL ?_;refine cI hN ?_)|((with_reducible first|((first|refine be ?_|refine cJ ?_|refine bf ?_|refine cK ?_);intro K hK)|(refine aM ?_;intro X Y ae af)|refine aN ?_);simp (disch:=first|decide|omega|(simp only [List.length_cons,List.length_nil];omega)) only [go_sem,↓ak hN,an hN,reduceIte,reduceCtorEq,Nat.reduceAdd,Nat.reduceLT,Nat.reduceLeDiff,Nat.reduceEqDiff,Nat.reduceSub])|(with_reducible refine And.intro (fun h=>?_) (fun h=>?_) <;> try (exfalso;omega))|(with_reducible refine bd aL hN ?_)|(with_reducible refine bI aL hN ?_)|((first|refine aF (hU m hp) ?_ rfl (fun _=>rfl) ?_|refine aF (jE g hg) ?_ rfl (fun _=>rfl) ?_|refine aF (jF g hg) ?_ rfl (fun _=>rfl) ?_);focus ((repeat' (first|(with_reducible first|exact aw|refine aq ?_ ?_|exact bD _|refine aI ?_|exact aK _|exact aS _ _|refine aR ?_|exact aG _)|exact aJ hN rfl rfl|(refine aQ hN rfl ?_;first|exact aT _|exact aU _)|exact aH rfl rfl rfl));done))|(with_reducible first|exact aw|refine aq ?_ ?_|exact bD _|refine aI ?_|exact aK _|exact aS _ _|refine aR ?_|exact aG _)|exact aJ hN rfl rfl|(refine aQ hN rfl ?_;first|exact aT _|exact aU _)|exact aH rfl rfl rfl|(simp only [aE,List.map_nil])|(with_reducible refine bB ?_)|(with_reducible refine And.intro ?_ ?_)|(refine ap ?_;omega)|(exact bc hN (by decide))))
   · have hi:=(dB g (gi g.prio v) (i:=k) (by omega)).1 (by omega)
     (refine ⟨k + 1,⟨?_,?_⟩,cS hX hN [] ?_ ?_⟩;(try any_goals dsimp only);(repeat' (first|(with_reducible first|exact clZ|refine cT ?_ ?_|refine cU ?_ ?_|rfl|refine suZ ?_)|refine cV rfl ?_ ?_|exact bU hN _ rfl rfl rfl|exact bV hN _ rfl rfl rfl|exact bu hN _ rfl rfl rfl (Or.inr rfl)|(refine bW hN _ rfl rfl (by first|exact Or.inr rfl|exact Or.inl rfl) ?_;first|exact aT _|exact aU _)|refine bv hN rfl ?_|refine bw hN rfl rfl ?_|exact br hN _ rfl rfl|exact bz hN rfl rfl rfl rfl|(with_reducible first|refine stZ ?_|refine bT ?_)));(try (any_goals (first|(with_reducible rfl)|(refine ap ?_;omega)))))
     · show tab _ _ = (tab _ _).set (k + 1) (gi m (k + 1))
       rw [i7 (by omega)]
       exact ca fun i hi=>by grind
   · have hi : ¬ k < odC g (gi g.prio v):=fun h'=>absurd ((dB g (gi g.prio v) (i:=k) (by omega)).2 h') (by omega)
     (refine ⟨k + 1,⟨?_,?_⟩,cS hX hN [] ?_ ?_⟩;(try any_goals dsimp only);(repeat' (first|(with_reducible first|exact clZ|refine cT ?_ ?_|refine cU ?_ ?_|rfl|refine suZ ?_)|refine cV rfl ?_ ?_|exact bU hN _ rfl rfl rfl|exact bV hN _ rfl rfl rfl|exact bu hN _ rfl rfl rfl (Or.inr rfl)|(refine bW hN _ rfl rfl (by first|exact Or.inr rfl|exact Or.inl rfl) ?_;first|exact aT _|exact aU _)|refine bv hN rfl ?_|refine bw hN rfl rfl ?_|exact br hN _ rfl rfl|exact bz hN rfl rfl rfl rfl|(with_reducible first|refine stZ ?_|refine bT ?_)));(try (any_goals (first|(with_reducible rfl)|(refine ap ?_;omega)))))
     · exact ca fun i hi=>by grind
   · (refine ct hN (i:=1) (.inr rfl) (by first|rfl|(simp (disch:=first|decide|omega|(simp only [List.length_cons,List.length_nil];omega)) only [bm,bq,bC,bF,go_sem,beq_self_eq_true,↓az,↓ak hN,an hN,reduceIte,reduceCtorEq,Nat.reduceAdd,Nat.reduceLT,Nat.reduceLeDiff,Nat.reduceEqDiff,Nat.reduceSub];rfl)) rfl ?_ rfl)
     have hcut:=l9 hm h1 hc (show odC g (gi g.prio v) ≤ k by omega)
     rw [hcut,d5,MS.ask,if_neg h1,am (by omega),r7]
   have hcut:=l9 hm h1 hc (show odC g (gi g.prio v) ≤ k by omega)
   have hask : MS.inc (cy g).mx (odC g (gi g.prio v)) (MS.cut (ax g).length (odC g (gi g.prio v)) m) = d5 g v m:=by
    have h0 : (gi g.prio v).tmod 2 ≠ 0:=by simpa using (by assumption : ((gi g.prio v).tmod 2 == 0) = false)
    rw [d5,MS.ask,if_neg h1,aA (by omega),rZ]
   have hcl:=MS.cut_len (ax g).length (odC g (gi g.prio v)) m
   have hcn:=fun j=>MS.ok_nn (MS.cut_ok (K:=(cy g).K) hc (hH hg).mx0 (hM.1 hm) h1) j
   (refine dw (fun (y : Nat × List Int)=>(tmL [(13,.c (.int .i64 y.1)),(12,.sl (ν 3)),(8,.sl (ν 1))],hpL hp0 ν [.dead,.arr 2 .yes (.I y.2),.dead,.arr 2 .may (.I (tab (ax g).length fun i=>di g (gi (ax g) i)))])) (fun (y : Nat × List Int)=>y.1 ≤ odC g (gi g.prio v) ∧ y.2.length = (ax g).length + 1 ∧ (∀ j,0 ≤ gi y.2 j) ∧ MS.inc (cy g).mx y.1 y.2 = d5 g v m) (fun (y : Nat × List Int)=>y.1) ⟨(odC g (gi g.prio v),MS.cut (ax g).length (odC g (gi g.prio v)) m),?_,cS hX hN [] ?_ ?_⟩ ?_;(repeat' (first|(with_reducible first|exact clZ|refine cT ?_ ?_|refine cU ?_ ?_|rfl|refine suZ ?_)|refine cV rfl ?_ ?_|exact bU hN _ rfl rfl rfl|exact bV hN _ rfl rfl rfl|exact bu hN _ rfl rfl rfl (Or.inr rfl)|(refine bW hN _ rfl rfl (by first|exact Or.inr rfl|exact Or.inl rfl) ?_;first|exact aT _|exact aU _)|refine bv hN rfl ?_|refine bw hN rfl rfl ?_|exact br hN _ rfl rfl|exact bz hN rfl rfl rfl rfl|(with_reducible first|refine stZ ?_|refine bT ?_)));(try (any_goals (first|(with_reducible rfl)|(refine ap ?_;omega)))))
   · exact ⟨Nat.le_refl _,hcl,hcn,hask⟩
   · exact hcut.symm
   rintro ⟨i,out⟩ ⟨hi,hl,hn,he⟩
   dsimp only at hi hl hn he ⊢
   have hout:=hn i
   have hmy:=l6 g (gi (ax g) ((i : Int) - 1).toNat)
   (repeat' (first|(with_reducible first|(apply hK;clear hK K)|refine stZ ?_|refine aY rfl ?_|((first|apply ae|apply af);clear ae X af Y))|(with_reducible refine ba ?_;first|refine aZ rfl ?_|refine a8 rfl ?_)|(with_reducible refine cL ?_;refine cI hN ?_)|((with_reducible first|((first|refine be ?_|refine cJ ?_|refine bf ?_|refine cK ?_);intro K hK)|(refine aM ?_;intro X Y ae af)|refine aN ?_);simp (disch:=first|decide|omega|(simp only [List.length_cons,List.length_nil];omega)) only [go_sem,↓ak hN,an hN,reduceIte,reduceCtorEq,Nat.reduceAdd,Nat.reduceLT,Nat.reduceLeDiff,Nat.reduceEqDiff,Nat.reduceSub])|(with_reducible refine And.intro (fun h=>?_) (fun h=>?_) <;> try (exfalso;omega))|(with_reducible refine bd aL hN ?_)|(with_reducible refine bI aL hN ?_)|(with_reducible refine And.intro ?_ ?_)|(refine ap ?_;omega)|(exact bc hN (by decide))))
   · have hmo : gi (ax g) ((i : Int) - 1).toNat = gi (ax g) (i - 1):=by rw [show ((i : Int) - 1).toNat = i - 1 by omega]
     have hlt : gi out i < di g (gi (ax g) (i - 1)):=by rw [← hmo];assumption
     (refine ct hN (i:=1) (.inr rfl) (by first|rfl|(simp (disch:=first|decide|omega|(simp only [List.length_cons,List.length_nil];omega)) only [bm,bq,bC,bF,go_sem,beq_self_eq_true,↓az,↓ak hN,an hN,reduceIte,reduceCtorEq,Nat.reduceAdd,Nat.reduceLT,Nat.reduceLeDiff,Nat.reduceEqDiff,Nat.reduceSub];rfl)) rfl ?_ rfl)
     rw [← he]
     obtain ⟨t,rfl⟩ : ∃ t,i = t + 1:=⟨i - 1,by omega⟩
     exact congrArg C.I (if_pos hlt : MS.inc (cy g).mx (t + 1) out = _).symm
   · have hmo : gi (ax g) ((i : Int) - 1).toNat = gi (ax g) (i - 1):=by rw [show ((i : Int) - 1).toNat = i - 1 by omega]
     have hlt : ¬ gi out i < di g (gi (ax g) (i - 1)):=by rw [← hmo];assumption
     obtain ⟨t,rfl⟩ : ∃ t,i = t + 1:=⟨i - 1,by omega⟩
     (refine ⟨(t,out.set (t + 1) 0),⟨?_,?_⟩,cS hX hN [] ?_ ?_⟩;(try any_goals dsimp only);(repeat' (first|(with_reducible first|exact clZ|refine cT ?_ ?_|refine cU ?_ ?_|rfl|refine suZ ?_)|refine cV rfl ?_ ?_|exact bU hN _ rfl rfl rfl|exact bV hN _ rfl rfl rfl|exact bu hN _ rfl rfl rfl (Or.inr rfl)|(refine bW hN _ rfl rfl (by first|exact Or.inr rfl|exact Or.inl rfl) ?_;first|exact aT _|exact aU _)|refine bv hN rfl ?_|refine bw hN rfl rfl ?_|exact br hN _ rfl rfl|exact bz hN rfl rfl rfl rfl|(with_reducible first|refine stZ ?_|refine bT ?_)));(try (any_goals (first|(with_reducible rfl)|(refine ap ?_;omega)))))
     refine ⟨by omega,by rw [List.length_set];exact hl,fun j=>?_,?_⟩
     · rw [fJ (by omega)]
       split
       · exact Int.le_refl _
       · exact hn j
     · rw [← he]
       exact (if_neg hlt : MS.inc (cy g).mx (t + 1) out = _).symm
   · obtain rfl : i = 0:=by omega
     (refine ct hN (i:=4) (.inr rfl) (by first|rfl|(simp (disch:=first|decide|omega|(simp only [List.length_cons,List.length_nil];omega)) only [bm,bq,bC,bF,go_sem,beq_self_eq_true,↓az,↓ak hN,an hN,reduceIte,reduceCtorEq,Nat.reduceAdd,Nat.reduceLT,Nat.reduceLeDiff,Nat.reduceEqDiff,Nat.reduceSub];rfl)) rfl ?_ rfl)
     exact congrArg C.I he
end Go.Proofs.Ytceonklhlpkfgaa
