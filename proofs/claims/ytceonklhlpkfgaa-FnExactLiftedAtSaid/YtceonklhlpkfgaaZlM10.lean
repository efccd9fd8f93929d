/-
  Measures, the reference: comparing, what is asked for.
-/
import Derived.Test.YtceonklhlpkfgaaZlM9
namespace Go.Proofs.Ytceonklhlpkfgaa
set_option linter.unusedVariables false
set_option linter.unusedSimpArgs false
open Go.RowKit
attribute [local irreducible] ay cM Aw Le
theorem oE {a b : List Int} {c i : Nat} (hi : i ≤ c) (he : ∀ j,j < i → gi a j = gi b j) (hn : ¬ gi a i = gi b i) : MS.dif c a b ↔ gi a i < gi b i:=by
 constructor
 · rintro ⟨t,h1,h2,h3⟩
   rcases Nat.lt_trichotomy t i with h|h|h
   · have:=he t h;omega
   · subst h;exact h3
   · exact absurd (h2 i h) hn
 · exact fun h=>⟨i,hi,he,h⟩
theorem ia {a b : List Int} {c : Nat} (he : ∀ j,j ≤ c → gi a j = gi b j) : ¬ MS.dif c a b:=fun ⟨t,h1,h2,h3⟩=>by have:=he t h1;omega
theorem oF {g : Pa} {a b : List Int} (ha : bJ g a) (hb : bJ g b) (h : gi a 0 = gi b 0) : a.length = b.length:=by
 rcases ha with rfl|ha <;> rcases hb with rfl|hb
 · rfl
 · exact absurd (show (1 : Int) = 0 from h.trans hb.2.1) (by decide)
 · exact absurd (show (0 : Int) = 1 from ha.2.1.symm.trans h) (by decide)
 · omega
theorem kx {g : Pa} {a : List Int} (ha : bJ g a) : a.length = 1 ∧ a = [1] ∨ a.length = (ax g).length + 1:=ha.imp (fun h=>⟨by rw [h];rfl,h⟩) fun h=>h.1
theorem fk (m : List Int) (h : 0 < m.length) : ay Try.prog 58 [.c (.I m)] [] (fun _=>.c (.bool (tf (gi m 0 = 1)))):=by
 (refine aV aL Try.func58 rfl rfl (by kernel_rfl) fun hp0 ν hX hN=>?_;simp only [ch,Nat.reduceAdd])
 (repeat' (first|(with_reducible first|(apply hK;clear hK K)|refine stZ ?_|refine aY rfl ?_|((first|apply ae|apply af);clear ae X af Y))|(with_reducible refine ba ?_;first|refine aZ rfl ?_|refine a8 rfl ?_)|((with_reducible first|((first|refine be ?_|refine bf ?_);intro K hK)|(refine aM ?_;intro X Y ae af)|refine aN ?_);simp (disch:=first|decide|omega|(simp only [List.length_cons,List.length_nil];omega)) only [go_sem,↓ak hN,an hN,reduceIte,reduceCtorEq,Nat.reduceAdd,Nat.reduceLT,Nat.reduceLeDiff,Nat.reduceEqDiff,Nat.reduceSub])|(with_reducible refine And.intro (fun h=>?_) (fun h=>?_) <;> try (exfalso;omega))|(with_reducible refine bd aL hN ?_)|(with_reducible refine And.intro ?_ ?_)|(refine ap ?_;omega)|(exact bc hN (by decide))))
 (refine bX (.inr rfl) (by first|rfl|(simp (disch:=first|decide|omega|(simp only [List.length_cons,List.length_nil];omega)) only [bm,bq,bC,bF,go_sem,beq_self_eq_true,↓az,↓ak hN,an hN,reduceIte,reduceCtorEq,Nat.reduceAdd,Nat.reduceLT,Nat.reduceLeDiff,Nat.reduceEqDiff,Nat.reduceSub];rfl)) ?_)
 exact congrArg C.bool (jH _ _)
theorem ky : ay Try.prog 59 [] [.arr 2 .yes (.I [1])] (fun ns=>.sl (ns.getD 0 0)):=by
 (refine aV aL Try.func59 rfl rfl (by kernel_rfl) fun hp0 ν hX hN=>?_;simp only [ch,Nat.reduceAdd])
 (repeat' (first|(with_reducible first|(apply hK;clear hK K)|refine stZ ?_|refine aY rfl ?_|((first|apply ae|apply af);clear ae X af Y))|(with_reducible refine ba ?_;first|refine aZ rfl ?_|refine a8 rfl ?_)|((with_reducible first|((first|refine be ?_|refine bf ?_);intro K hK)|(refine aM ?_;intro X Y ae af)|refine aN ?_);simp (disch:=first|decide|omega|(simp only [List.length_cons,List.length_nil];omega)) only [go_sem,↓ak hN,an hN,reduceIte,reduceCtorEq,Nat.reduceAdd,Nat.reduceLT,Nat.reduceLeDiff,Nat.reduceEqDiff,Nat.reduceSub])|(with_reducible refine And.intro (fun h=>?_) (fun h=>?_) <;> try (exfalso;omega))|(with_reducible refine bd aL hN ?_)|(with_reducible refine And.intro ?_ ?_)|(refine ap ?_;omega)|(exact bc hN (by decide))))
 (refine ct hN (i:=0) (.inr rfl) (by first|rfl|(simp (disch:=first|decide|omega|(simp only [List.length_cons,List.length_nil];omega)) only [bm,bq,bC,bF,go_sem,beq_self_eq_true,↓az,↓ak hN,an hN,reduceIte,reduceCtorEq,Nat.reduceAdd,Nat.reduceLT,Nat.reduceLeDiff,Nat.reduceEqDiff,Nat.reduceSub];rfl)) rfl ?_ rfl)
 rfl
theorem oG (g : Pa) (a b : List Int) (ha : bJ g a) (hb : bJ g b) (p : Int) : ay Try.prog 25 [.c (.I (ax g)),.c (.I a),.c (.I b),.c (.int .i64 p)] [] (fun _=>.c (.bool (tf (MS.dif (odC g p) a b)))):=by
 have hp:=(cf ha).1
 have h42:=(cf ha).2
 have hp2:=(cf hb).1
 have hK:=cO g
 have hcK:=fT g p
 by_cases h0 : gi a 0 = gi b 0
 · have hlen:=oF ha hb h0
   (refine aV aL Try.func25 rfl rfl (by kernel_rfl) fun hp0 ν hX hN=>?_;simp only [ch,Nat.reduceAdd])
   (repeat' (first|(with_reducible first|(apply hK;clear hK K)|refine stZ ?_|refine aY rfl ?_|((first|apply ae|apply af);clear ae X af Y))|(with_reducible refine ba ?_;first|refine aZ rfl ?_|refine a8 rfl ?_)|(with_reducible refine b9 ?_;first|refine bG rfl rfl rfl rfl ?_|refine bZ rfl rfl rfl ?_|refine cH rfl rfl rfl rfl ?_)|(with_reducible refine cL ?_;first|refine dk rfl rfl rfl rfl ?_|refine dZ rfl rfl rfl ?_|refine fF rfl rfl rfl rfl ?_|refine cI hN ?_)|((first|(with_reducible first|((first|refine be ?_|refine cJ ?_|refine bf ?_|refine cK ?_);intro K hK)|(refine aM ?_;intro X Y ae af)|refine aN ?_)|(with_reducible refine b9 ?_;refine bH rfl rfl fun X Y ae af=>?_)|(with_reducible refine cL ?_;refine dl rfl rfl fun X Y ae af=>?_));simp (disch:=first|decide|omega|(simp only [List.length_cons,List.length_nil];omega)) only [go_sem,↓ak hN,an hN,reduceIte,reduceCtorEq,Nat.reduceAdd,Nat.reduceLT,Nat.reduceLeDiff,Nat.reduceEqDiff,Nat.reduceSub])|(with_reducible refine And.intro (fun h=>?_) (fun h=>?_) <;> try (exfalso;omega))|(with_reducible refine bd aL hN ?_)|(with_reducible refine bI aL hN ?_)|(with_reducible refine And.intro ?_ ?_)|(refine ap ?_;omega)|(exact bc hN (by decide))))
   · exact absurd h0 (by assumption)
   (refine dw (fun (k : Nat)=>(tmL [(9,.c (.int .i64 (k + 1))),(0,.c (.I (ax g))),(1,.c (.I a)),(2,.c (.I b)),(3,.c (.int .i64 p))],hpL hp0 ν [])) (fun (k : Nat)=>k + 1 ≤ a.length ∧ k ≤ odC g p ∧ ∀ j,j < k + 1 → gi a j = gi b j) (fun (k : Nat)=>a.length - k) ⟨0,?_,cS hX hN [] ?_ ?_⟩ ?_;(repeat' (first|(with_reducible first|exact clZ|refine cT ?_ ?_|refine cU ?_ ?_|rfl|refine suZ ?_)|refine cV rfl ?_ ?_|exact bU hN _ rfl rfl rfl|exact bV hN _ rfl rfl rfl|exact bu hN _ rfl rfl rfl (Or.inr rfl)|(refine bW hN _ rfl rfl (by first|exact Or.inr rfl|exact Or.inl rfl) ?_;first|exact aT _|exact aU _)|refine bv hN rfl ?_|refine bw hN rfl rfl ?_|exact br hN _ rfl rfl|exact bz hN rfl rfl rfl rfl|(with_reducible first|refine stZ ?_|refine bT ?_)));(try (any_goals (first|(with_reducible rfl)|(refine ap ?_;omega)))))
   · refine ⟨by omega,Nat.zero_le _,fun j hj=>?_⟩
     rw [show j = 0 by omega];exact h0
   rintro k ⟨hk,hc,ho⟩
   have hae : a.length = 1 ∨ a.length = (ax g).length + 1:=(kx ha).imp_left fun h=>h.1
   have hkk : ((k : Int) + 1 - 1).toNat = k:=by omega
   (repeat' (first|(with_reducible first|(apply hK;clear hK K)|refine stZ ?_|refine aY rfl ?_|((first|apply ae|apply af);clear ae X af Y))|(with_reducible refine ba ?_;first|refine aZ rfl ?_|refine a8 rfl ?_)|(with_reducible refine b9 ?_;first|refine bG rfl rfl rfl rfl ?_|refine bZ rfl rfl rfl ?_|refine cH rfl rfl rfl rfl ?_)|(with_reducible refine cL ?_;first|refine dk rfl rfl rfl rfl ?_|refine dZ rfl rfl rfl ?_|refine fF rfl rfl rfl rfl ?_|refine cI hN ?_)|((first|(with_reducible first|((first|refine be ?_|refine cJ ?_|refine bf ?_|refine cK ?_);intro K hK)|(refine aM ?_;intro X Y ae af)|refine aN ?_)|(with_reducible refine b9 ?_;refine bH rfl rfl fun X Y ae af=>?_)|(with_reducible refine cL ?_;refine dl rfl rfl fun X Y ae af=>?_));simp (disch:=first|decide|omega|(simp only [List.length_cons,List.length_nil];omega)) only [go_sem,↓ak hN,an hN,reduceIte,reduceCtorEq,Nat.reduceAdd,Nat.reduceLT,Nat.reduceLeDiff,Nat.reduceEqDiff,Nat.reduceSub])|(with_reducible refine And.intro (fun h=>?_) (fun h=>?_) <;> try (exfalso;omega))|(with_reducible refine bd aL hN ?_)|(with_reducible refine bI aL hN ?_)|(with_reducible refine And.intro ?_ ?_)|(refine ap ?_;omega)|(exact bc hN (by decide))))
   · have h1 : p ≤ gi (ax g) ((k : Int) + 1 - 1).toNat:=by assumption
     rw [hkk] at h1
     have h2:=(dB g p (i:=k) (by omega)).1 h1
     (refine bX (.inr rfl) (by first|rfl|(simp (disch:=first|decide|omega|(simp only [List.length_cons,List.length_nil];omega)) only [bm,bq,bC,bF,go_sem,beq_self_eq_true,↓az,↓ak hN,an hN,reduceIte,reduceCtorEq,Nat.reduceAdd,Nat.reduceLT,Nat.reduceLeDiff,Nat.reduceEqDiff,Nat.reduceSub];rfl)) ?_)
     exact congrArg C.bool (jC (oE (i:=k + 1) (by omega) ho (by assumption)).symm)
   · have h1 : p ≤ gi (ax g) ((k : Int) + 1 - 1).toNat:=by assumption
     rw [hkk] at h1
     have h2:=(dB g p (i:=k) (by omega)).1 h1
     have h3 : gi a (k + 1) = gi b (k + 1):=g9 (by assumption)
     (refine ⟨k + 1,⟨?_,?_⟩,cS hX hN [] ?_ ?_⟩;(try any_goals dsimp only);(repeat' (first|(with_reducible first|exact clZ|refine cT ?_ ?_|refine cU ?_ ?_|rfl|refine suZ ?_)|refine cV rfl ?_ ?_|exact bU hN _ rfl rfl rfl|exact bV hN _ rfl rfl rfl|exact bu hN _ rfl rfl rfl (Or.inr rfl)|(refine bW hN _ rfl rfl (by first|exact Or.inr rfl|exact Or.inl rfl) ?_;first|exact aT _|exact aU _)|refine bv hN rfl ?_|refine bw hN rfl rfl ?_|exact br hN _ rfl rfl|exact bz hN rfl rfl rfl rfl|(with_reducible first|refine stZ ?_|refine bT ?_)));(try (any_goals (first|(with_reducible rfl)|(refine ap ?_;omega)))))
     exact ⟨by omega,by omega,g8 ho h3⟩
   · have h1 : ¬ p ≤ gi (ax g) ((k : Int) + 1 - 1).toNat:=by assumption
     rw [hkk] at h1
     have h2 : ¬ k < odC g p:=fun h=>h1 ((dB g p (i:=k) (by omega)).2 h)
     (refine bX (.inr rfl) (by first|rfl|(simp (disch:=first|decide|omega|(simp only [List.length_cons,List.length_nil];omega)) only [bm,bq,bC,bF,go_sem,beq_self_eq_true,↓az,↓ak hN,an hN,reduceIte,reduceCtorEq,Nat.reduceAdd,Nat.reduceLT,Nat.reduceLeDiff,Nat.reduceEqDiff,Nat.reduceSub];rfl)) ?_)
     exact congrArg C.bool (am (ia fun j hj=>ho j (by omega))).symm
   · (refine bX (.inr rfl) (by first|rfl|(simp (disch:=first|decide|omega|(simp only [List.length_cons,List.length_nil];omega)) only [bm,bq,bC,bF,go_sem,beq_self_eq_true,↓az,↓ak hN,an hN,reduceIte,reduceCtorEq,Nat.reduceAdd,Nat.reduceLT,Nat.reduceLeDiff,Nat.reduceEqDiff,Nat.reduceSub];rfl)) ?_)
     refine congrArg C.bool (am ?_).symm
     rcases kx ha with ⟨h1,h2⟩|h1
     · have hb1 : b = [1]:=(MS.Ok.lost (hM.1 hb)).1 (by rw [← h0,h2];rfl)
       rw [h2,hb1]
       exact ia fun j hj=>rfl
     · exact ia fun j hj=>ho j (by omega)
 · (refine aV aL Try.func25 rfl rfl (by kernel_rfl) fun hp0 ν hX hN=>?_;simp only [ch,Nat.reduceAdd])
   (repeat' (first|(with_reducible first|(apply hK;clear hK K)|refine stZ ?_|refine aY rfl ?_|((first|apply ae|apply af);clear ae X af Y))|(with_reducible refine ba ?_;first|refine aZ rfl ?_|refine a8 rfl ?_)|(with_reducible refine b9 ?_;first|refine bG rfl rfl rfl rfl ?_|refine bZ rfl rfl rfl ?_|refine cH rfl rfl rfl rfl ?_)|(with_reducible refine cL ?_;first|refine dk rfl rfl rfl rfl ?_|refine dZ rfl rfl rfl ?_|refine fF rfl rfl rfl rfl ?_|refine cI hN ?_)|((first|(with_reducible first|((first|refine be ?_|refine cJ ?_|refine bf ?_|refine cK ?_);intro K hK)|(refine aM ?_;intro X Y ae af)|refine aN ?_)|(with_reducible refine b9 ?_;refine bH rfl rfl fun X Y ae af=>?_)|(with_reducible refine cL ?_;refine dl rfl rfl fun X Y ae af=>?_));simp (disch:=first|decide|omega|(simp only [List.length_cons,List.length_nil];omega)) only [go_sem,↓ak hN,an hN,reduceIte,reduceCtorEq,Nat.reduceAdd,Nat.reduceLT,Nat.reduceLeDiff,Nat.reduceEqDiff,Nat.reduceSub])|(with_reducible refine And.intro (fun h=>?_) (fun h=>?_) <;> try (exfalso;omega))|(with_reducible refine bd aL hN ?_)|(with_reducible refine bI aL hN ?_)|(with_reducible refine And.intro ?_ ?_)|(refine ap ?_;omega)|(exact bc hN (by decide))))
   · (refine bX (.inr rfl) (by first|rfl|(simp (disch:=first|decide|omega|(simp only [List.length_cons,List.length_nil];omega)) only [bm,bq,bC,bF,go_sem,beq_self_eq_true,↓az,↓ak hN,an hN,reduceIte,reduceCtorEq,Nat.reduceAdd,Nat.reduceLT,Nat.reduceLeDiff,Nat.reduceEqDiff,Nat.reduceSub];rfl)) ?_)
     exact congrArg C.bool (jC (oE (i:=0) (Nat.zero_le _) (fun j hj=>absurd hj (Nat.not_lt_zero _)) h0).symm)
   · exact absurd (g9 (by assumption)) h0
theorem i4 (g : Pa) (a b : List Int) (ha : bJ g a) (hb : bJ g b) : ay Try.prog 25 [.c (.I (ax g)),.c (.I a),.c (.I b),.c (.int .i64 0)] [] (fun _=>.c (.bool (tf (MS.lx a b)))):=by
 have h:=oG g a b ha hb 0
 rw [pH g (by decide)] at h
 rw [show tf (MS.lx a b) = tf (MS.dif (ax g).length a b) from jM (MS.lx_ok (hM.1 ha) (hM.1 hb))]
 exact h
theorem kz {g : Pa} {m : List Int} {c k : Nat} (hc : c ≤ (ax g).length) (hk : k = (ax g).length) : (tab ((ax g).length + 1) fun i=>if i ≤ min k c ∨ k < i then gi m i else 0) = MS.cut (ax g).length c m:=by
 refine ca fun i hi=>?_
 by_cases e2 : i ≤ c
 · rw [if_pos (by omega),if_pos e2]
 · rw [if_neg (by omega),if_neg e2]
theorem i5 (g : Pa) (hg : PaOk g) (v : Nat) (hv : v < g.prio.length) (m : List Int) (hm : bJ g m) : ay Try.prog 45 [paA g,.c (.I (ax g)),.c (.int .i64 v),.c (.I m)] [.arr 2 .yes (.I (d5 g v m))] (fun ns=>.sl (ns.getD 0 0)):=by
 have hp:=(cf hm).1
 have h42:=(cf hm).2
 have hK:=cO g
 have hpr:=hg.prio v hv
 have htm : (gi g.prio v).tmod 2 = gi g.prio v % 2:=Int.tmod_eq_emod_of_nonneg hpr.1
 have hle:=hg.ar.le
 have hln:=hg.len
 by_cases h1 : gi m 0 = 1
 · (refine aV aL Try.func45 rfl rfl (by kernel_rfl) fun hp0 ν hX hN=>?_;simp only [ch,Nat.reduceAdd])
   (repeat' (first|(with_reducible first|(apply hK;clear hK K)|refine stZ ?_|refine aY rfl ?_|((first|apply ae|apply af);clear ae X af Y))|(with_reducible refine ba ?_;first|refine aZ rfl ?_|refine a8 rfl ?_)|(with_reducible refine cL ?_;refine cI hN ?_)|((with_reducible first|((first|refine be ?_|refine cJ ?_|refine bf ?_|refine cK ?_);intro K hK)|(refine aM ?_;intro X Y ae af)|refine aN ?_);simp (disch:=first|decide|omega|(simp only [List.length_cons,List.length_nil];omega)) only [go_sem,↓ak hN,an hN,reduceIte,reduceCtorEq,Nat.reduceAdd,Nat.reduceLT,Nat.reduceLeDiff,Nat.reduceEqDiff,Nat.reduceSub])|(with_reducible refine And.intro (fun h=>?_) (fun h=>?_) <;> try (exfalso;omega))|(with_reducible refine bd aL hN ?_)|(with_reducible refine bI aL hN ?_)|((first|refine aF (fk m hp) ?_ rfl (fun _=>rfl) ?_|refine aF (ky) ?_ rfl (fun _=>rfl) ?_);focus ((repeat' (first|(with_reducible first|exact aw|refine aq ?_ ?_|exact bD _|refine aI ?_|exact aK _|exact aS _ _|refine aR ?_|exact aG _)|exact aJ hN rfl rfl|(refine aQ hN rfl ?_;first|exact aT _|exact aU _)|exact aH rfl rfl rfl));done))|(with_reducible first|exact aw|refine aq ?_ ?_|exact bD _|refine aI ?_|exact aK _|exact aS _ _|refine aR ?_|exact aG _)|exact aJ hN rfl rfl|(refine aQ hN rfl ?_;first|exact aT _|exact aU _)|exact aH rfl rfl rfl|(simp only [aE,List.map_nil])|(with_reducible refine bB ?_)|(with_reducible refine And.intro ?_ ?_)|(refine ap ?_;omega)|(exact bc hN (by decide))))
   (refine ct hN (i:=1) (.inr rfl) (by first|rfl|(simp (disch:=first|decide|omega|(simp only [List.length_cons,List.length_nil];omega)) only [bm,bq,bC,bF,go_sem,beq_self_eq_true,↓az,↓ak hN,an hN,reduceIte,reduceCtorEq,Nat.reduceAdd,Nat.reduceLT,Nat.reduceLeDiff,Nat.reduceEqDiff,Nat.reduceSub];rfl)) rfl ?_ rfl)
   rw [d5,MS.ask,if_pos h1]
 · have hml:=(hm.resolve_left fun e=>h1 (by rw [e];rfl)).1
   have hm0:=(hm.resolve_left fun e=>h1 (by rw [e];rfl)).2.1
   have hc:=fT g (gi g.prio v)
   (refine aV aL Try.func45 rfl rfl (by kernel_rfl) fun hp0 ν hX hN=>?_;simp only [ch,Nat.reduceAdd])
   (repeat' (first|(with_reducible first|(apply hK;clear hK K)|refine stZ ?_|refine aY rfl ?_|((first|apply ae|apply af);clear ae X af Y))|(with_reducible refine ba ?_;first|refine aZ rfl ?_|refine a8 rfl ?_)|(with_reducible refine cL ?_;refine cI hN ?_)|((with_reducible first|((first|refine be ?_|refine cJ ?_|refine bf ?_|refine cK ?_);intro K hK)|(refine aM ?_;intro X Y ae af)|refine aN ?_);simp (disch:=first|decide|omega|(simp only [List.length_cons,List.length_nil];omega)) only [go_sem,↓ak hN,an hN,reduceIte,reduceCtorEq,Nat.reduceAdd,Nat.reduceLT,Nat.reduceLeDiff,Nat.reduceEqDiff,Nat.reduceSub])|(with_reducible refine And.intro (fun h=>?_) (fun h=>?_) <;> try (exfalso;omega))|(with_reducible refine bd aL hN ?_)|(with_reducible refine bI aL hN ?_)|((first|refine aF (fk m hp) ?_ rfl (fun _=>rfl) ?_|refine aF (hD m (by omega)) ?_ rfl (fun _=>rfl) ?_);focus ((repeat' (first|(with_reducible first|exact aw|refine aq ?_ ?_|exact bD _|refine aI ?_|exact aK _|exact aS _ _|refine aR ?_|exact aG _)|exact aJ hN rfl rfl|(refine aQ hN rfl ?_;first|exact aT _|exact aU _)|exact aH rfl rfl rfl));done))|(with_reducible first|exact aw|refine aq ?_ ?_|exact bD _|refine aI ?_|exact aK _|exact aS _ _|refine aR ?_|exact aG _)|exact aJ hN rfl rfl|(refine aQ hN rfl ?_;first|exact aT _|exact aU _)|exact aH rfl rfl rfl|(simp only [aE,List.map_nil])|(with_reducible refine bB ?_)|(with_reducible refine And.intro ?_ ?_)|(refine ap ?_;omega)|(exact bc hN (by decide))))
   (refine dw (fun (k : Nat)=>(tmL [(12,.c (.int .i64 k)),(10,.sl (ν 1)),(11,.c (.int .i64 (min k (odC g (gi g.prio v)) : Nat))),(9,.c (.int .i64 (gi g.prio v))),(1,.c (.I (ax g))),(2,.c (.int .i64 v)),(4,.ad (ν 0) 0)],hpL hp0 ν [.box [.c (.I g.ar.own),.c (.R g.ar.nxt),.c (.I g.prio)],.arr 2 .yes (.I (tab ((ax g).length + 1) fun i=>if i ≤ min k (odC g (gi g.prio v)) ∨ k < i then gi m i else 0))])) (fun (k : Nat)=>k ≤ (ax g).length) (fun (k : Nat)=>(ax g).length - k) ⟨0,?_,cS hX hN [] ?_ ?_⟩ ?_;(repeat' (first|(with_reducible first|exact clZ|refine cT ?_ ?_|refine cU ?_ ?_|rfl|refine suZ ?_)|refine cV rfl ?_ ?_|exact bU hN _ rfl rfl rfl|exact bV hN _ rfl rfl rfl|exact bu hN _ rfl rfl rfl (Or.inr rfl)|(refine bW hN _ rfl rfl (by first|exact Or.inr rfl|exact Or.inl rfl) ?_;first|exact aT _|exact aU _)|refine bv hN rfl ?_|refine bw hN rfl rfl ?_|exact br hN _ rfl rfl|exact bz hN rfl rfl rfl rfl|(with_reducible first|refine stZ ?_|refine bT ?_)));(try (any_goals (first|(with_reducible rfl)|(refine ap ?_;omega)))))
   · exact (gt (by omega) fun i hi=>by rw [if_pos (by omega)]).symm
   intro k hk
   have htl:=bO ((ax g).length + 1) fun i=>if i ≤ min k (odC g (gi g.prio v)) ∨ k < i then gi m i else 0
   (repeat' (first|(with_reducible first|(apply hK;clear hK K)|refine stZ ?_|refine aY rfl ?_|((first|apply ae|apply af);clear ae X af Y))|(with_reducible refine ba ?_;first|refine aZ rfl ?_|refine a8 rfl ?_)|(with_reducible refine cL ?_;refine cI hN ?_)|((with_reducible first|((first|refine be ?_|refine cJ ?_|refine bf ?_|refine cK ?_);intro K hK)|(refine aM ?_;intro X Y ae af)|refine aN ?_);simp (disch:=first|decide|omega|(simp only [List.length_cons,List.length_nil];omega)) only [go_sem,↓ak hN,an hN,reduceIte,reduceCtorEq,Nat.reduceAdd,Nat.reduceLT,Nat.reduceLeDiff,Nat.reduceEqDiff,Nat.reduceSub])|(with_reducible refine And.intro (fun h=>?_) (fun h=>?_) <;> try (exfalso;omega))|(with_reducible refine bd aL hN ?_)|(with_reducible refine bI aL hN ?_)|((first|refine aF (fk m hp) ?_ rfl (fun _=>rfl) ?_|refine aF (hD m (by omega)) ?_ rfl (fun _=>rfl) ?_);focus ((repeat' (first|(with_reducible first|exact aw|refine aq ?_ ?_|exact bD _|refine aI ?_|exact aK _|exact aS _ _|refine aR ?_|exact aG _)|exact aJ hN rfl rfl|(refine aQ hN rfl ?_;first|exact aT _|exact aU _)|exact aH rfl rfl rfl));done))|(with_reducible first|exact aw|refine aq ?_ ?_|exact bD _|refine aI ?_|exact aK _|exact aS _ _|refine aR ?_|exact aG _)|exact aJ hN rfl rfl|(refine aQ hN rfl ?_;first|exact aT _|exact aU _)|exact aH rfl rfl rfl|(simp only [aE,List.map_nil])|(with_reducible refine bB ?_)|(with_reducible refine And.intro ?_ ?_)|(refine ap ?_;omega)|(exact bc hN (by decide))))
   · have hi : ¬ k < odC g (gi g.prio v):=fun h'=>absurd ((dB g (gi g.prio v) (i:=k) (by omega)).2 h') (by omega)
     (refine ⟨k + 1,⟨?_,?_⟩,cS hX hN [] ?_ ?_⟩;(try any_goals dsimp only);(repeat' (first|(with_reducible first|exact clZ|refine cT ?_ ?_|refine cU ?_ ?_|rfl|refine suZ ?_)|refine cV rfl ?_ ?_|exact bU hN _ rfl rfl rfl|exact bV hN _ rfl rfl rfl|exact bu hN _ rfl rfl rfl (Or.inr rfl)|(refine bW hN _ rfl rfl (by first|exact Or.inr rfl|exact Or.inl rfl) ?_;first|exact aT _|exact aU _)|refine bv hN rfl ?_|refine bw hN rfl rfl ?_|exact br hN _ rfl rfl|exact bz hN rfl rfl rfl rfl|(with_reducible first|refine stZ ?_|refine bT ?_)));(try (any_goals (first|(with_reducible rfl)|(refine ap ?_;omega)))))
     · show tab _ _ = (tab _ _).set (k + 1) 0
       rw [i7 (by omega)]
       exact ca fun i hi=>by grind
   · have hi:=(dB g (gi g.prio v) (i:=k) (by omega)).1 (by omega)
     (refine ⟨k + 1,⟨?_,?_⟩,cS hX hN [] ?_ ?_⟩;(try any_goals dsimp only);(repeat' (first|(with_reducible first|exact clZ|refine cT ?_ ?_|refine cU ?_ ?_|rfl|refine suZ ?_)|refine cV rfl ?_ ?_|exact bU hN _ rfl rfl rfl|exact bV hN _ rfl rfl rfl|exact bu hN _ rfl rfl rfl (Or.inr rfl)|(refine bW hN _ rfl rfl (by first|exact Or.inr rfl|exact Or.inl rfl) ?_;first|exact aT _|exact aU _)|refine bv hN rfl ?_|refine bw hN rfl rfl ?_|exact br hN _ rfl rfl|exact bz hN rfl rfl rfl rfl|(with_reducible first|refine stZ ?_|refine bT ?_)));(try (any_goals (first|(with_reducible rfl)|(refine ap ?_;omega)))))
     · exact ca fun i hi=>by grind
   · (refine ct hN (i:=1) (.inr rfl) (by first|rfl|(simp (disch:=first|decide|omega|(simp only [List.length_cons,List.length_nil];omega)) only [bm,bq,bC,bF,go_sem,beq_self_eq_true,↓az,↓ak hN,an hN,reduceIte,reduceCtorEq,Nat.reduceAdd,Nat.reduceLT,Nat.reduceLeDiff,Nat.reduceEqDiff,Nat.reduceSub];rfl)) rfl ?_ rfl)
     have hcut:=kz (m:=m) hc (show k = (ax g).length by omega)
     rw [hcut,d5,MS.ask,if_neg h1,am (by omega),r7]
   have hcut:=kz (m:=m) hc (show k = (ax g).length by omega)
   have hask : MS.inc (cy g).mx (odC g (gi g.prio v)) (MS.cut (ax g).length (odC g (gi g.prio v)) m) = d5 g v m:=by
    have h0 : (gi g.prio v).tmod 2 ≠ 0:=by simpa using (by assumption : ((gi g.prio v).tmod 2 == 0) = false)
    rw [d5,MS.ask,if_neg h1,aA (by omega),rZ]
   have hcl:=MS.cut_len (ax g).length (odC g (gi g.prio v)) m
   have hcn:=fun j=>MS.ok_nn (MS.cut_ok (K:=(cy g).K) hc (hH hg).mx0 (hM.1 hm) h1) j
   (refine dw (fun (y : Nat × List Int)=>(tmL [(13,.c (.int .i64 y.1)),(10,.sl (ν 1)),(1,.c (.I (ax g))),(4,.ad (ν 0) 0)],hpL hp0 ν [.box [.c (.I g.ar.own),.c (.R g.ar.nxt),.c (.I g.prio)],.arr 2 .yes (.I y.2)])) (fun (y : Nat × List Int)=>y.1 ≤ odC g (gi g.prio v) ∧ y.2.length = (ax g).length + 1 ∧ (∀ j,0 ≤ gi y.2 j) ∧ MS.inc (cy g).mx y.1 y.2 = d5 g v m) (fun (y : Nat × List Int)=>y.1) ⟨(odC g (gi g.prio v),MS.cut (ax g).length (odC g (gi g.prio v)) m),?_,cS hX hN [] ?_ ?_⟩ ?_;(repeat' (first|(with_reducible first|exact clZ|refine cT ?_ ?_|refine cU ?_ ?_|rfl|refine suZ ?_)|refine cV rfl ?_ ?_|exact bU hN _ rfl rfl rfl|exact bV hN _ rfl rfl rfl|exact bu hN _ rfl rfl rfl (Or.inr rfl)|(refine bW hN _ rfl rfl (by first|exact Or.inr rfl|exact Or.inl rfl) ?_;first|exact aT _|exact aU _)|refine bv hN rfl ?_|refine bw hN rfl rfl ?_|exact br hN _ rfl rfl|exact bz hN rfl rfl rfl rfl|(with_reducible first|refine stZ ?_|refine bT ?_)));(try (any_goals (first|(with_reducible rfl)|(refine ap ?_;omega)))))
   · exact ⟨Nat.le_refl _,hcl,hcn,hask⟩
   · exact hcut.symm
   rintro ⟨i,out⟩ ⟨hi,hl,hn,he⟩
   dsimp only at hi hl hn he ⊢
   have hout:=hn i
   have hmy:=l6 g (gi (ax g) ((i : Int) - 1).toNat)
   (repeat' (first|(with_reducible first|(apply hK;clear hK K)|refine stZ ?_|refine aY rfl ?_|((first|apply ae|apply af);clear ae X af Y))|(with_reducible refine ba ?_;first|refine aZ rfl ?_|refine a8 rfl ?_)|(with_reducible refine cL ?_;refine cI hN ?_)|((with_reducible first|((first|refine be ?_|refine cJ ?_|refine bf ?_|refine cK ?_);intro K hK)|(refine aM ?_;intro X Y ae af)|refine aN ?_);simp (disch:=first|decide|omega|(simp only [List.length_cons,List.length_nil];omega)) only [go_sem,↓ak hN,an hN,reduceIte,reduceCtorEq,Nat.reduceAdd,Nat.reduceLT,Nat.reduceLeDiff,Nat.reduceEqDiff,Nat.reduceSub])|(with_reducible refine And.intro (fun h=>?_) (fun h=>?_) <;> try (exfalso;omega))|(with_reducible refine bd aL hN ?_)|(with_reducible refine bI aL hN ?_)|((first|refine aF (pI g (gi (ax g) ((i : Int) - 1).toNat)) ?_ rfl (fun _=>rfl) ?_|refine aF (ky) ?_ rfl (fun _=>rfl) ?_);focus ((repeat' (first|(with_reducible first|exact aw|refine aq ?_ ?_|exact bD _|refine aI ?_|exact aK _|exact aS _ _|refine aR ?_|exact aG _)|exact aJ hN rfl rfl|(refine aQ hN rfl ?_;first|exact aT _|exact aU _)|exact aH rfl rfl rfl));done))|(with_reducible first|exact aw|refine aq ?_ ?_|exact bD _|refine aI ?_|exact aK _|exact aS _ _|refine aR ?_|exact aG _)|exact aJ hN rfl rfl|(refine aQ hN rfl ?_;first|exact aT _|exact aU _)|exact aH rfl rfl rfl|(simp only [aE,List.map_nil])|(with_reducible refine bB ?_)|(with_reducible refine And.intro ?_ ?_)|(refine ap ?_;omega)|(exact bc hN (by decide))))
   · have hmo : gi (ax g) ((i : Int) - 1).toNat = gi (ax g) (i - 1):=by rw [show ((i : Int) - 1).toNat = i - 1 by omega]
     have hlt : gi out i < di g (gi (ax g) (i - 1)):=by rw [← hmo];assumption
     (refine ct hN (i:=1) (.inr rfl) (by first|rfl|(simp (disch:=first|decide|omega|(simp only [List.length_cons,List.length_nil];omega)) only [bm,bq,bC,bF,go_sem,beq_self_eq_true,↓az,↓ak hN,an hN,reduceIte,reduceCtorEq,Nat.reduceAdd,Nat.reduceLT,Nat.reduceLeDiff,Nat.reduceEqDiff,Nat.reduceSub];rfl)) rfl ?_ rfl)
     rw [← he]
     obtain ⟨t,rfl⟩ : ∃ t,i = t + 1:=⟨i - 1,by omega⟩
     exact congrArg C.I (if_pos hlt : MS.inc (cy g).mx (t + 1) out = _).symm
   · have hmo : gi (ax g) ((i : Int) - 1).toNat = gi (ax g) (i - 1):=by rw [show ((i : Int) - 1).toNat = i - 1 by omega]
     have hlt : ¬ gi out i < di g (gi (ax g) (i - 1)):=by rw [← hmo];assumption
     obtain ⟨t,rfl⟩ : ∃ t,i = t + 1:=⟨i - 1,by omega⟩
     (refine ⟨(t,out.set (t + 1) 0),⟨?_,?_⟩,cS hX hN [] ?_ ?_⟩;(try any_goals dsimp only);(repeat' (first|(with_reducible first|exact clZ|refine cT ?_ ?_|refine cU ?_ ?_|rfl|refine suZ ?_)|refine cV rfl ?_ ?_|exact bU hN _ rfl rfl rfl|exact bV hN _ rfl rfl rfl|exact bu hN _ rfl rfl rfl (Or.inr rfl)|(refine bW hN _ rfl rfl (by first|exact Or.inr rfl|exact Or.inl rfl) ?_;first|exact aT _|exact aU _)|refine bv hN rfl ?_|refine bw hN rfl rfl ?_|exact br hN _ rfl rfl|exact bz hN rfl rfl rfl rfl|(with_reducible first|refine stZ ?_|refine bT ?_)));(try (any_goals (first|(with_reducible rfl)|(refine ap ?_;omega)))))
     refine ⟨by omega,by rw [List.length_set];exact hl,fun j=>?_,?_⟩
     · rw [fJ (by omega)]
       split
       · exact Int.le_refl _
       · exact hn j
     · rw [← he]
       exact (if_neg hlt : MS.inc (cy g).mx (t + 1) out = _).symm
   · obtain rfl : i = 0:=by omega
     (refine ct hN (i:=2) (.inr rfl) (by first|rfl|(simp (disch:=first|decide|omega|(simp only [List.length_cons,List.length_nil];omega)) only [bm,bq,bC,bF,go_sem,beq_self_eq_true,↓az,↓ak hN,an hN,reduceIte,reduceCtorEq,Nat.reduceAdd,Nat.reduceLT,Nat.reduceLeDiff,Nat.reduceEqDiff,Nat.reduceSub];rfl)) rfl ?_ rfl)
     exact congrArg C.I he
theorem oH {mn : Bool} {L : Nat → List Int} {k : Nat} (hk : 0 < k) (hc : tf (MS.lx (L k) (MS.bst mn L k)) = mn ∧ ¬ L k = MS.bst mn L k) : MS.bst mn L (k + 1) = L k:=by
 cases mn
 · refine oy ?_
   rcases MS.lx_total (L k) (MS.bst false L k) with h|h|h
   · exact absurd hc.1 (by rw [aA h];decide)
   · exact absurd h hc.2
   · exact h
 · exact ox (pR.1 hc.1)
theorem kA {mn : Bool} {L : Nat → List Int} {k : Nat} (hk : 0 < k) (hc : ¬ (tf (MS.lx (L k) (MS.bst mn L k)) = mn ∧ ¬ L k = MS.bst mn L k)) : MS.bst mn L (k + 1) = MS.bst mn L k:=by
 cases mn
 · exact oA hk fun h=>hc ⟨am (MS.lx_asymm h),fun e=>MS.lx_ne h e.symm⟩
 · exact oz hk fun h=>hc ⟨aA h,MS.lx_ne h⟩
set_option maxHeartbeats 1000000 in
theorem oI (g : Pa) (hg : PaOk g) (t : List (List Int)) (ht : dg g t) (v : Nat) (hv : v < g.prio.length) : ay Try.prog 24 [paA g,.c (.I (ax g)),.c (.R t),.c (.int .i64 v)] [.arr 2 .yes (.I (gg g t v))] (fun ns=>.sl (ns.getD 0 0)):=by
 have hle:=hg.ar.le
 have hln:=hg.len
 have hnl:=hg.ar.len
 have htl:=ht.len
 have hvt:=(hg.ar.vert v (by omega)).2.2
 obtain ⟨hv1,hv2,_⟩:=hvt
 have hok:=fun i (h : i < (gr g.ar.nxt v).length)=>l7 hg (v:=v) (ht.row (v:=(gi (gr g.ar.nxt v) i).toNat) (by have:=pO hg hv h;omega))
 have hbk : ∀ k,0 < k → k ≤ (gr g.ar.nxt v).length → bJ g (MS.bst (tf (gi g.ar.own v = 0)) ((cy g).asks t v) k):=fun k h0 h=>by
  obtain ⟨j,h1,h2⟩:=MS.bst_mem (tf (gi g.ar.own v = 0)) ((cy g).asks t v) k h0
  rw [h2];exact hok j (by omega)
 (refine aV aL Try.func24 rfl rfl (by kernel_rfl) fun hp0 ν hX hN=>?_;simp only [ch,Nat.reduceAdd])
 (repeat' (first|(with_reducible first|(apply hK;clear hK K)|refine stZ ?_|refine aY rfl ?_|((first|apply ae|apply af);clear ae X af Y))|(with_reducible refine ba ?_;first|refine aZ rfl ?_|refine a8 rfl ?_)|(with_reducible refine b9 ?_;first|refine bG rfl rfl rfl rfl ?_|refine bZ rfl rfl rfl ?_|refine cH rfl rfl rfl rfl ?_)|(with_reducible refine cL ?_;first|refine dk rfl rfl rfl rfl ?_|refine dZ rfl rfl rfl ?_|refine fF rfl rfl rfl rfl ?_|refine cI hN ?_)|((first|(with_reducible first|((first|refine be ?_|refine cJ ?_|refine bf ?_|refine cK ?_);intro K hK)|(refine aM ?_;intro X Y ae af)|refine aN ?_)|(with_reducible refine b9 ?_;refine bH rfl rfl fun X Y ae af=>?_)|(with_reducible refine cL ?_;refine dl rfl rfl fun X Y ae af=>?_));simp (disch:=first|decide|omega|(simp only [List.length_cons,List.length_nil];omega)) only [go_sem,↓ak hN,an hN,reduceIte,reduceCtorEq,Nat.reduceAdd,Nat.reduceLT,Nat.reduceLeDiff,Nat.reduceEqDiff,Nat.reduceSub])|(with_reducible refine And.intro (fun h=>?_) (fun h=>?_) <;> try (exfalso;omega))|(with_reducible refine bd aL hN ?_)|(with_reducible refine bI aL hN ?_)|(with_reducible refine And.intro ?_ ?_)|(refine ap ?_;omega)|(exact bc hN (by decide))))
 (refine dw (fun (k : Nat)=>(tmL [(10,.c (.int .i64 k)),(9,.sl (ν 1)),(1,.c (.I (ax g))),(2,.c (.R t)),(3,.c (.int .i64 v)),(4,.ad (ν 0) 0)],hpL hp0 ν [.box [.c (.I g.ar.own),.c (.R g.ar.nxt),.c (.I g.prio)],.arr 2 .yes (.I (MS.bst (tf (gi g.ar.own v = 0)) ((cy g).asks t v) k))])) (fun (k : Nat)=>k ≤ (gr g.ar.nxt v).length) (fun (k : Nat)=>(gr g.ar.nxt v).length - k) ⟨0,?_,cS hX hN [] ?_ ?_⟩ ?_;(repeat' (first|(with_reducible first|exact clZ|refine cT ?_ ?_|refine cU ?_ ?_|rfl|refine suZ ?_)|refine cV rfl ?_ ?_|exact bU hN _ rfl rfl rfl|exact bV hN _ rfl rfl rfl|exact bu hN _ rfl rfl rfl (Or.inr rfl)|(refine bW hN _ rfl rfl (by first|exact Or.inr rfl|exact Or.inl rfl) ?_;first|exact aT _|exact aU _)|refine bv hN rfl ?_|refine bw hN rfl rfl ?_|exact br hN _ rfl rfl|exact bz hN rfl rfl rfl rfl|(with_reducible first|refine stZ ?_|refine bT ?_)));(try (any_goals (first|(with_reducible rfl)|(refine ap ?_;omega)))))
 · rfl
 intro k hk
 have hn:=fun h=>pO hg hv (i:=k) h
 have hx:=fun h=>hok k h
 have hx2:=fun h=>(cf (hok k h)).2
 rcases Nat.eq_zero_or_pos k with rfl|hk0
 · (repeat' (first|(with_reducible first|(apply hK;clear hK K)|refine stZ ?_|refine aY rfl ?_|((first|apply ae|apply af);clear ae X af Y))|(with_reducible refine ba ?_;first|refine aZ rfl ?_|refine a8 rfl ?_)|(with_reducible refine b9 ?_;first|refine bG rfl rfl rfl rfl ?_|refine bZ rfl rfl rfl ?_|refine cH rfl rfl rfl rfl ?_)|(with_reducible refine cL ?_;first|refine dk rfl rfl rfl rfl ?_|refine dZ rfl rfl rfl ?_|refine fF rfl rfl rfl rfl ?_|refine cI hN ?_)|((first|(with_reducible first|((first|refine be ?_|refine cJ ?_|refine bf ?_|refine cK ?_);intro K hK)|(refine aM ?_;intro X Y ae af)|refine aN ?_)|(with_reducible refine b9 ?_;refine bH rfl rfl fun X Y ae af=>?_)|(with_reducible refine cL ?_;refine dl rfl rfl fun X Y ae af=>?_));simp (disch:=first|decide|omega|(simp only [List.length_cons,List.length_nil];omega)) only [go_sem,↓ak hN,an hN,reduceIte,reduceCtorEq,Nat.reduceAdd,Nat.reduceLT,Nat.reduceLeDiff,Nat.reduceEqDiff,Nat.reduceSub])|(with_reducible refine And.intro (fun h=>?_) (fun h=>?_) <;> try (exfalso;omega))|(with_reducible refine bd aL hN ?_)|(with_reducible refine bI aL hN ?_)|(refine aF (i5 g hg v hv (gr t (gi (gr g.ar.nxt v) 0).toNat) (ht.row (by have:=hn (by omega);omega))) ?_ rfl (fun _=>rfl) ?_;focus ((repeat' (first|(with_reducible first|exact aw|refine aq ?_ ?_|exact bD _|refine aI ?_|exact aK _|exact aS _ _|refine aR ?_|exact aG _)|exact aJ hN rfl rfl|(refine aQ hN rfl ?_;first|exact aT _|exact aU _)|exact aH rfl rfl rfl));done))|(with_reducible first|exact aw|refine aq ?_ ?_|exact bD _|refine aI ?_|exact aK _|exact aS _ _|refine aR ?_|exact aG _)|exact aJ hN rfl rfl|(refine aQ hN rfl ?_;first|exact aT _|exact aU _)|exact aH rfl rfl rfl|(simp only [aE,List.map_nil])|(with_reducible refine bB ?_)|(with_reducible refine And.intro ?_ ?_)|(refine ap ?_;omega)|(exact bc hN (by decide))))
   (refine ⟨1,⟨?_,?_⟩,cS hX hN [(1,2)] ?_ ?_⟩;(try any_goals dsimp only);(repeat' (first|(with_reducible first|exact clZ|refine cT ?_ ?_|refine cU ?_ ?_|rfl|refine suZ ?_)|refine cV rfl ?_ ?_|exact bU hN _ rfl rfl rfl|exact bV hN _ rfl rfl rfl|exact bu hN _ rfl rfl rfl (Or.inr rfl)|(refine bW hN _ rfl rfl (by first|exact Or.inr rfl|exact Or.inl rfl) ?_;first|exact aT _|exact aU _)|refine bv hN rfl ?_|refine bw hN rfl rfl ?_|exact br hN _ rfl rfl|exact bz hN rfl rfl rfl rfl|(with_reducible first|refine stZ ?_|refine bT ?_)));(try (any_goals (first|(with_reducible rfl)|(refine ap ?_;omega)))))
   exact (MS.bst_yes (.inl rfl) : MS.bst _ ((cy g).asks t v) (0 + 1) = _)
 · have hb:=hbk k hk0 hk
   (repeat' (first|(with_reducible first|(apply hK;clear hK K)|refine stZ ?_|refine aY rfl ?_|((first|apply ae|apply af);clear ae X af Y))|(with_reducible refine ba ?_;first|refine aZ rfl ?_|refine a8 rfl ?_)|(with_reducible refine b9 ?_;first|refine bG rfl rfl rfl rfl ?_|refine bZ rfl rfl rfl ?_|refine cH rfl rfl rfl rfl ?_)|(with_reducible refine cL ?_;first|refine dk rfl rfl rfl rfl ?_|refine dZ rfl rfl rfl ?_|refine fF rfl rfl rfl rfl ?_|refine cI hN ?_)|((first|(with_reducible first|((first|refine be ?_|refine cJ ?_|refine bf ?_|refine cK ?_);intro K hK)|(refine aM ?_;intro X Y ae af)|refine aN ?_)|(with_reducible refine b9 ?_;refine bH rfl rfl fun X Y ae af=>?_)|(with_reducible refine cL ?_;refine dl rfl rfl fun X Y ae af=>?_));simp (disch:=first|decide|omega|(simp only [List.length_cons,List.length_nil];omega)) only [go_sem,↓ak hN,an hN,reduceIte,reduceCtorEq,Nat.reduceAdd,Nat.reduceLT,Nat.reduceLeDiff,Nat.reduceEqDiff,Nat.reduceSub])|(with_reducible refine And.intro (fun h=>?_) (fun h=>?_) <;> try (exfalso;omega))|(with_reducible refine bd aL hN ?_)|(with_reducible refine bI aL hN ?_)|((first|refine aF (i5 g hg v hv (gr t (gi (gr g.ar.nxt v) k).toNat) (ht.row (by have:=hn (by omega);omega))) ?_ rfl (fun _=>rfl) ?_|refine aF (i4 g (d5 g v (gr t (gi (gr g.ar.nxt v) k).toNat)) (MS.bst (tf (gi g.ar.own v = 0)) ((cy g).asks t v) k) (hx (by omega)) hb) ?_ rfl (fun _=>rfl) ?_|refine aF (ov (d5 g v (gr t (gi (gr g.ar.nxt v) k).toNat)) (MS.bst (tf (gi g.ar.own v = 0)) ((cy g).asks t v) k) (by have:=hx2 (by omega);omega)) ?_ rfl (fun _=>rfl) ?_);focus ((repeat' (first|(with_reducible first|exact aw|refine aq ?_ ?_|exact bD _|refine aI ?_|exact aK _|exact aS _ _|refine aR ?_|exact aG _)|exact aJ hN rfl rfl|(refine aQ hN rfl ?_;first|exact aT _|exact aU _)|exact aH rfl rfl rfl));done))|(with_reducible first|exact aw|refine aq ?_ ?_|exact bD _|refine aI ?_|exact aK _|exact aS _ _|refine aR ?_|exact aG _)|exact aJ hN rfl rfl|(refine aQ hN rfl ?_;first|exact aT _|exact aU _)|exact aH rfl rfl rfl|(simp only [aE,List.map_nil])|(with_reducible refine bB ?_)|(with_reducible refine And.intro ?_ ?_)|(refine ap ?_;omega)|(exact bc hN (by decide))))
   · have h1 : tf (MS.lx ((cy g).asks t v k) (MS.bst (tf (gi g.ar.own v = 0)) ((cy g).asks t v) k)) = tf (gi g.ar.own v = 0):=(show _ = (gi g.ar.own v == 0) by assumption).trans (jH _ _)
     have h2 : ¬ (cy g).asks t v k = MS.bst (tf (gi g.ar.own v = 0)) ((cy g).asks t v) k:=by assumption
     (refine ⟨k + 1,⟨?_,?_⟩,cS hX hN [(1,2)] ?_ ?_⟩;(try any_goals dsimp only);(repeat' (first|(with_reducible first|exact clZ|refine cT ?_ ?_|refine cU ?_ ?_|rfl|refine suZ ?_)|refine cV rfl ?_ ?_|exact bU hN _ rfl rfl rfl|exact bV hN _ rfl rfl rfl|exact bu hN _ rfl rfl rfl (Or.inr rfl)|(refine bW hN _ rfl rfl (by first|exact Or.inr rfl|exact Or.inl rfl) ?_;first|exact aT _|exact aU _)|refine bv hN rfl ?_|refine bw hN rfl rfl ?_|exact br hN _ rfl rfl|exact bz hN rfl rfl rfl rfl|(with_reducible first|refine stZ ?_|refine bT ?_)));(try (any_goals (first|(with_reducible rfl)|(refine ap ?_;omega)))))
     exact oH hk0 ⟨h1,h2⟩
   · have h2 : (cy g).asks t v k = MS.bst (tf (gi g.ar.own v = 0)) ((cy g).asks t v) k:=by assumption
     (refine ⟨k + 1,⟨?_,?_⟩,cS hX hN [] ?_ ?_⟩;(try any_goals dsimp only);(repeat' (first|(with_reducible first|exact clZ|refine cT ?_ ?_|refine cU ?_ ?_|rfl|refine suZ ?_)|refine cV rfl ?_ ?_|exact bU hN _ rfl rfl rfl|exact bV hN _ rfl rfl rfl|exact bu hN _ rfl rfl rfl (Or.inr rfl)|(refine bW hN _ rfl rfl (by first|exact Or.inr rfl|exact Or.inl rfl) ?_;first|exact aT _|exact aU _)|refine bv hN rfl ?_|refine bw hN rfl rfl ?_|exact br hN _ rfl rfl|exact bz hN rfl rfl rfl rfl|(with_reducible first|refine stZ ?_|refine bT ?_)));(try (any_goals (first|(with_reducible rfl)|(refine ap ?_;omega)))))
     exact kA hk0 fun h=>h.2 h2
   · have h1 : (tf (MS.lx ((cy g).asks t v k) (MS.bst (tf (gi g.ar.own v = 0)) ((cy g).asks t v) k)) == tf (gi g.ar.own v = 0)) = false:=by
      have h' : (tf (MS.lx ((cy g).asks t v k) (MS.bst (tf (gi g.ar.own v = 0)) ((cy g).asks t v) k)) == (gi g.ar.own v == 0)) = false:=by assumption
      rw [jH (gi g.ar.own v) 0] at h';exact h'
     (refine ⟨k + 1,⟨?_,?_⟩,cS hX hN [] ?_ ?_⟩;(try any_goals dsimp only);(repeat' (first|(with_reducible first|exact clZ|refine cT ?_ ?_|refine cU ?_ ?_|rfl|refine suZ ?_)|refine cV rfl ?_ ?_|exact bU hN _ rfl rfl rfl|exact bV hN _ rfl rfl rfl|exact bu hN _ rfl rfl rfl (Or.inr rfl)|(refine bW hN _ rfl rfl (by first|exact Or.inr rfl|exact Or.inl rfl) ?_;first|exact aT _|exact aU _)|refine bv hN rfl ?_|refine bw hN rfl rfl ?_|exact br hN _ rfl rfl|exact bz hN rfl rfl rfl rfl|(with_reducible first|refine stZ ?_|refine bT ?_)));(try (any_goals (first|(with_reducible rfl)|(refine ap ?_;omega)))))
     exact kA hk0 fun h=>absurd h.1 (by simpa using h1)
   · (refine ct hN (i:=1) (.inr rfl) (by first|rfl|(simp (disch:=first|decide|omega|(simp only [List.length_cons,List.length_nil];omega)) only [bm,bq,bC,bF,go_sem,beq_self_eq_true,↓az,↓ak hN,an hN,reduceIte,reduceCtorEq,Nat.reduceAdd,Nat.reduceLT,Nat.reduceLeDiff,Nat.reduceEqDiff,Nat.reduceSub];rfl)) rfl ?_ rfl)
     rw [show k = (gr g.ar.nxt v).length by omega];rfl
end Go.Proofs.Ytceonklhlpkfgaa
