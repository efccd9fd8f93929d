/-
  Measures, the reference: comparing, what is asked for.
-/
import Derived.Test.YtceonklhlpkfgaaZmM9
namespace Go.Proofs.Ytceonklhlpkfgaa
set_option linter.unusedVariables false
set_option linter.unusedSimpArgs false
open Go.RowKit
attribute [local irreducible] aw cz Aw Le
theorem oG {a b : List Int} {c i : Nat} (hi : i ≤ c) (he : ∀ j,j < i → gi a j = gi b j) (hn : ¬ gi a i = gi b i) : MS.dif c a b ↔ gi a i < gi b i:=by
 constructor
 · rintro ⟨t,h1,h2,h3⟩
   rcases Nat.lt_trichotomy t i with h|h|h
   · have:=he t h;omega
   · subst h;exact h3
   · exact absurd (h2 i h) hn
 · exact fun h=>⟨i,hi,he,h⟩
theorem hZ {a b : List Int} {c : Nat} (he : ∀ j,j ≤ c → gi a j = gi b j) : ¬ MS.dif c a b:=fun ⟨t,h1,h2,h3⟩=>by have:=he t h1;omega
theorem oH {g : Pa} {a b : List Int} (ha : cL g a) (hb : cL g b) (h : gi a 0 = gi b 0) : a.length = b.length:=by
 rcases ha with rfl|ha <;> rcases hb with rfl|hb
 · rfl
 · exact absurd (show (1 : Int) = 0 from h.trans hb.2.1) (by decide)
 · exact absurd (show (0 : Int) = 1 from ha.2.1.symm.trans h) (by decide)
 · omega
theorem kv {g : Pa} {a : List Int} (ha : cL g a) : a.length = 1 ∧ a = [1] ∨ a.length = (au g).length + 1:=ha.imp (fun h=>⟨by rw [h];rfl,h⟩) fun h=>h.1
theorem fe (m : List Int) (h : 0 < m.length) : aw Try.prog 58 [.c (.I m)] [] (fun _=>.c (.bool (tf (gi m 0 = 1)))):=by
 (refine bc aF Try.func58 rfl rfl (by kernel_rfl) fun hp0 ν hX hN=>?_;simp only [ct,Nat.reduceAdd])
 (repeat' (first|(with_reducible first|(apply hK;clear hK K)|refine stZ ?_|refine be rfl ?_|((first|apply ae|apply af);clear ae X af Y))|(with_reducible refine bh ?_;first|refine bf rfl ?_|refine bg rfl ?_)|((with_reducible first|((first|refine bm ?_|refine bn ?_);intro K hK)|(refine aL ?_;intro X Y ae af)|refine aM ?_);simp (disch:=first|decide|omega|(simp only [List.length_cons,List.length_nil];omega)) only [go_sem,↓aj hN,am hN,reduceIte,reduceCtorEq,Nat.reduceAdd,Nat.reduceLT,Nat.reduceLeDiff,Nat.reduceEqDiff,Nat.reduceSub])|(with_reducible refine And.intro (fun h=>?_) (fun h=>?_) <;> try (exfalso;omega))|(with_reducible refine bj aF hN ?_)|(with_reducible refine And.intro ?_ ?_)|(refine an ?_;omega)|(exact bi hN (by decide))))
 (refine ce (.inr rfl) (by first|rfl|(simp (disch:=first|decide|omega|(simp only [List.length_cons,List.length_nil];omega)) only [bF,bH,bJ,bP,go_sem,beq_self_eq_true,↓aB,↓aj hN,am hN,reduceIte,reduceCtorEq,Nat.reduceAdd,Nat.reduceLT,Nat.reduceLeDiff,Nat.reduceEqDiff,Nat.reduceSub];rfl)) ?_)
 exact congrArg C.bool (jC _ _)
theorem kw : aw Try.prog 59 [] [.arr 2 .yes (.I [1])] (fun ns=>.sl (ns.getD 0 0)):=by
 (refine bc aF Try.func59 rfl rfl (by kernel_rfl) fun hp0 ν hX hN=>?_;simp only [ct,Nat.reduceAdd])
 (repeat' (first|(with_reducible first|(apply hK;clear hK K)|refine stZ ?_|refine be rfl ?_|((first|apply ae|apply af);clear ae X af Y))|(with_reducible refine bh ?_;first|refine bf rfl ?_|refine bg rfl ?_)|((with_reducible first|((first|refine bm ?_|refine bn ?_);intro K hK)|(refine aL ?_;intro X Y ae af)|refine aM ?_);simp (disch:=first|decide|omega|(simp only [List.length_cons,List.length_nil];omega)) only [go_sem,↓aj hN,am hN,reduceIte,reduceCtorEq,Nat.reduceAdd,Nat.reduceLT,Nat.reduceLeDiff,Nat.reduceEqDiff,Nat.reduceSub])|(with_reducible refine And.intro (fun h=>?_) (fun h=>?_) <;> try (exfalso;omega))|(with_reducible refine bj aF hN ?_)|(with_reducible refine And.intro ?_ ?_)|(refine an ?_;omega)|(exact bi hN (by decide))))
 (refine cK hN (i:=0) (.inr rfl) (by first|rfl|(simp (disch:=first|decide|omega|(simp only [List.length_cons,List.length_nil];omega)) only [bF,bH,bJ,bP,go_sem,beq_self_eq_true,↓aB,↓aj hN,am hN,reduceIte,reduceCtorEq,Nat.reduceAdd,Nat.reduceLT,Nat.reduceLeDiff,Nat.reduceEqDiff,Nat.reduceSub];rfl)) rfl ?_ rfl)
 rfl
theorem oI (g : Pa) (a b : List Int) (ha : cL g a) (hb : cL g b) (p : Int) : aw Try.prog 25 [.c (.I (au g)),.c (.I a),.c (.I b),.c (.int .i64 p)] [] (fun _=>.c (.bool (tf (MS.dif (odC g p) a b)))):=by
 have hp:=(cj ha).1
 have h42:=(cj ha).2
 have hp2:=(cj hb).1
 have hK:=cM g
 have hcK:=fS g p
 by_cases h0 : gi a 0 = gi b 0
 · have hlen:=oH ha hb h0
   (refine bc aF Try.func25 rfl rfl (by kernel_rfl) fun hp0 ν hX hN=>?_;simp only [ct,Nat.reduceAdd])
   (repeat' (first|(with_reducible first|(apply hK;clear hK K)|refine stZ ?_|refine be rfl ?_|((first|apply ae|apply af);clear ae X af Y))|(with_reducible refine bh ?_;first|refine bf rfl ?_|refine bg rfl ?_)|(with_reducible refine eV ?_;first|refine dx rfl rfl rfl rfl ?_|refine er rfl rfl rfl ?_|refine ga rfl rfl rfl rfl ?_)|(with_reducible refine cW ?_;first|refine eP rfl rfl rfl rfl ?_|refine fR rfl rfl rfl ?_|refine iS rfl rfl rfl rfl ?_|refine cA hN ?_)|((first|(with_reducible first|((first|refine bm ?_|refine cB ?_|refine bn ?_|refine cC ?_);intro K hK)|(refine aL ?_;intro X Y ae af)|refine aM ?_)|(with_reducible refine eV ?_;refine dy rfl rfl fun X Y ae af=>?_)|(with_reducible refine cW ?_;refine eQ rfl rfl fun X Y ae af=>?_));simp (disch:=first|decide|omega|(simp only [List.length_cons,List.length_nil];omega)) only [go_sem,↓aj hN,am hN,reduceIte,reduceCtorEq,Nat.reduceAdd,Nat.reduceLT,Nat.reduceLeDiff,Nat.reduceEqDiff,Nat.reduceSub])|(with_reducible refine And.intro (fun h=>?_) (fun h=>?_) <;> try (exfalso;omega))|(with_reducible refine bj aF hN ?_)|(with_reducible refine bE aF hN ?_)|(with_reducible refine And.intro ?_ ?_)|(refine an ?_;omega)|(exact bi hN (by decide))))
   · exact absurd h0 (by assumption)
   (refine cw (fun (k : Nat)=>(tmL [(9,.c (.int .i64 (k + 1))),(0,.c (.I (au g))),(1,.c (.I a)),(2,.c (.I b)),(3,.c (.int .i64 p))],hpL hp0 ν [])) (fun (k : Nat)=>k + 1 ≤ a.length ∧ k ≤ odC g p ∧ ∀ j,j < k + 1 → gi a j = gi b j) (fun (k : Nat)=>a.length - k) ⟨0,?_,bT hX hN [] ?_ ?_⟩ ?_;(repeat' (first|(with_reducible first|exact clZ|refine bU ?_ ?_|refine bV ?_ ?_|rfl|refine suZ ?_)|refine bW rfl ?_ ?_|exact bz hN _ rfl rfl rfl|exact bA hN _ rfl rfl rfl|exact aS hN _ rfl rfl rfl (Or.inr rfl)|(refine bB hN _ rfl rfl (by first|exact Or.inr rfl|exact Or.inl rfl) ?_;first|exact aN _|exact aO _)|refine aT hN rfl ?_|refine aU hN rfl rfl ?_|exact aR hN _ rfl rfl|exact aV hN rfl rfl rfl rfl|(with_reducible first|refine stZ ?_|refine bw ?_)));(try (any_goals (first|(with_reducible rfl)|(refine an ?_;omega)))))
   · refine ⟨by omega,Nat.zero_le _,fun j hj=>?_⟩
     rw [show j = 0 by omega];exact h0
   rintro k ⟨hk,hc,ho⟩
   have hae : a.length = 1 ∨ a.length = (au g).length + 1:=(kv ha).imp_left fun h=>h.1
   have hkk : ((k : Int) + 1 - 1).toNat = k:=by omega
   (repeat' (first|(with_reducible first|(apply hK;clear hK K)|refine stZ ?_|refine be rfl ?_|((first|apply ae|apply af);clear ae X af Y))|(with_reducible refine bh ?_;first|refine bf rfl ?_|refine bg rfl ?_)|(with_reducible refine eV ?_;first|refine dx rfl rfl rfl rfl ?_|refine er rfl rfl rfl ?_|refine ga rfl rfl rfl rfl ?_)|(with_reducible refine cW ?_;first|refine eP rfl rfl rfl rfl ?_|refine fR rfl rfl rfl ?_|refine iS rfl rfl rfl rfl ?_|refine cA hN ?_)|((first|(with_reducible first|((first|refine bm ?_|refine cB ?_|refine bn ?_|refine cC ?_);intro K hK)|(refine aL ?_;intro X Y ae af)|refine aM ?_)|(with_reducible refine eV ?_;refine dy rfl rfl fun X Y ae af=>?_)|(with_reducible refine cW ?_;refine eQ rfl rfl fun X Y ae af=>?_));simp (disch:=first|decide|omega|(simp only [List.length_cons,List.length_nil];omega)) only [go_sem,↓aj hN,am hN,reduceIte,reduceCtorEq,Nat.reduceAdd,Nat.reduceLT,Nat.reduceLeDiff,Nat.reduceEqDiff,Nat.reduceSub])|(with_reducible refine And.intro (fun h=>?_) (fun h=>?_) <;> try (exfalso;omega))|(with_reducible refine bj aF hN ?_)|(with_reducible refine bE aF hN ?_)|(with_reducible refine And.intro ?_ ?_)|(refine an ?_;omega)|(exact bi hN (by decide))))
   · have h1 : p ≤ gi (au g) ((k : Int) + 1 - 1).toNat:=by assumption
     rw [hkk] at h1
     have h2:=(dz g p (i:=k) (by omega)).1 h1
     (refine ce (.inr rfl) (by first|rfl|(simp (disch:=first|decide|omega|(simp only [List.length_cons,List.length_nil];omega)) only [bF,bH,bJ,bP,go_sem,beq_self_eq_true,↓aB,↓aj hN,am hN,reduceIte,reduceCtorEq,Nat.reduceAdd,Nat.reduceLT,Nat.reduceLeDiff,Nat.reduceEqDiff,Nat.reduceSub];rfl)) ?_)
     exact congrArg C.bool (li (oG (i:=k + 1) (by omega) ho (by assumption)).symm)
   · have h1 : p ≤ gi (au g) ((k : Int) + 1 - 1).toNat:=by assumption
     rw [hkk] at h1
     have h2:=(dz g p (i:=k) (by omega)).1 h1
     have h3 : gi a (k + 1) = gi b (k + 1):=g8 (by assumption)
     (refine ⟨k + 1,⟨?_,?_⟩,bT hX hN [] ?_ ?_⟩;(try any_goals dsimp only);(repeat' (first|(with_reducible first|exact clZ|refine bU ?_ ?_|refine bV ?_ ?_|rfl|refine suZ ?_)|refine bW rfl ?_ ?_|exact bz hN _ rfl rfl rfl|exact bA hN _ rfl rfl rfl|exact aS hN _ rfl rfl rfl (Or.inr rfl)|(refine bB hN _ rfl rfl (by first|exact Or.inr rfl|exact Or.inl rfl) ?_;first|exact aN _|exact aO _)|refine aT hN rfl ?_|refine aU hN rfl rfl ?_|exact aR hN _ rfl rfl|exact aV hN rfl rfl rfl rfl|(with_reducible first|refine stZ ?_|refine bw ?_)));(try (any_goals (first|(with_reducible rfl)|(refine an ?_;omega)))))
     exact ⟨by omega,by omega,g7 ho h3⟩
   · have h1 : ¬ p ≤ gi (au g) ((k : Int) + 1 - 1).toNat:=by assumption
     rw [hkk] at h1
     have h2 : ¬ k < odC g p:=fun h=>h1 ((dz g p (i:=k) (by omega)).2 h)
     (refine ce (.inr rfl) (by first|rfl|(simp (disch:=first|decide|omega|(simp only [List.length_cons,List.length_nil];omega)) only [bF,bH,bJ,bP,go_sem,beq_self_eq_true,↓aB,↓aj hN,am hN,reduceIte,reduceCtorEq,Nat.reduceAdd,Nat.reduceLT,Nat.reduceLeDiff,Nat.reduceEqDiff,Nat.reduceSub];rfl)) ?_)
     exact congrArg C.bool (ap (hZ fun j hj=>ho j (by omega))).symm
   · (refine ce (.inr rfl) (by first|rfl|(simp (disch:=first|decide|omega|(simp only [List.length_cons,List.length_nil];omega)) only [bF,bH,bJ,bP,go_sem,beq_self_eq_true,↓aB,↓aj hN,am hN,reduceIte,reduceCtorEq,Nat.reduceAdd,Nat.reduceLT,Nat.reduceLeDiff,Nat.reduceEqDiff,Nat.reduceSub];rfl)) ?_)
     refine congrArg C.bool (ap ?_).symm
     rcases kv ha with ⟨h1,h2⟩|h1
     · have hb1 : b = [1]:=(MS.Ok.lost (g9.1 hb)).1 (by rw [← h0,h2];rfl)
       rw [h2,hb1]
       exact hZ fun j hj=>rfl
     · exact hZ fun j hj=>ho j (by omega)
 · (refine bc aF Try.func25 rfl rfl (by kernel_rfl) fun hp0 ν hX hN=>?_;simp only [ct,Nat.reduceAdd])
   (repeat' (first|(with_reducible first|(apply hK;clear hK K)|refine stZ ?_|refine be rfl ?_|((first|apply ae|apply af);clear ae X af Y))|(with_reducible refine bh ?_;first|refine bf rfl ?_|refine bg rfl ?_)|(with_reducible refine eV ?_;first|refine dx rfl rfl rfl rfl ?_|refine er rfl rfl rfl ?_|refine ga rfl rfl rfl rfl ?_)|(with_reducible refine cW ?_;first|refine eP rfl rfl rfl rfl ?_|refine fR rfl rfl rfl ?_|refine iS rfl rfl rfl rfl ?_|refine cA hN ?_)|((first|(with_reducible first|((first|refine bm ?_|refine cB ?_|refine bn ?_|refine cC ?_);intro K hK)|(refine aL ?_;intro X Y ae af)|refine aM ?_)|(with_reducible refine eV ?_;refine dy rfl rfl fun X Y ae af=>?_)|(with_reducible refine cW ?_;refine eQ rfl rfl fun X Y ae af=>?_));simp (disch:=first|decide|omega|(simp only [List.length_cons,List.length_nil];omega)) only [go_sem,↓aj hN,am hN,reduceIte,reduceCtorEq,Nat.reduceAdd,Nat.reduceLT,Nat.reduceLeDiff,Nat.reduceEqDiff,Nat.reduceSub])|(with_reducible refine And.intro (fun h=>?_) (fun h=>?_) <;> try (exfalso;omega))|(with_reducible refine bj aF hN ?_)|(with_reducible refine bE aF hN ?_)|(with_reducible refine And.intro ?_ ?_)|(refine an ?_;omega)|(exact bi hN (by decide))))
   · (refine ce (.inr rfl) (by first|rfl|(simp (disch:=first|decide|omega|(simp only [List.length_cons,List.length_nil];omega)) only [bF,bH,bJ,bP,go_sem,beq_self_eq_true,↓aB,↓aj hN,am hN,reduceIte,reduceCtorEq,Nat.reduceAdd,Nat.reduceLT,Nat.reduceLeDiff,Nat.reduceEqDiff,Nat.reduceSub];rfl)) ?_)
     exact congrArg C.bool (li (oG (i:=0) (Nat.zero_le _) (fun j hj=>absurd hj (Nat.not_lt_zero _)) h0).symm)
   · exact absurd (g8 (by assumption)) h0
theorem iV (g : Pa) (a b : List Int) (ha : cL g a) (hb : cL g b) : aw Try.prog 25 [.c (.I (au g)),.c (.I a),.c (.I b),.c (.int .i64 0)] [] (fun _=>.c (.bool (tf (MS.lx a b)))):=by
 have h:=oI g a b ha hb 0
 rw [pJ g (by decide)] at h
 rw [show tf (MS.lx a b) = tf (MS.dif (au g).length a b) from jJ (MS.lx_ok (g9.1 ha) (g9.1 hb))]
 exact h
theorem kx {g : Pa} {m : List Int} {c k : Nat} (hc : c ≤ (au g).length) (hk : k = (au g).length) : (tab ((au g).length + 1) fun i=>if i ≤ min k c ∨ k < i then gi m i else 0) = MS.cut (au g).length c m:=by
 refine bX fun i hi=>?_
 by_cases e2 : i ≤ c
 · rw [if_pos (by omega),if_pos e2]
 · rw [if_neg (by omega),if_neg e2]
theorem iW (g : Pa) (hg : PaOk g) (v : Nat) (hv : v < g.prio.length) (m : List Int) (hm : cL g m) : aw Try.prog 45 [paA g,.c (.I (au g)),.c (.int .i64 v),.c (.I m)] [.arr 2 .yes (.I (dY g v m))] (fun ns=>.sl (ns.getD 0 0)):=by
 have hp:=(cj hm).1
 have h42:=(cj hm).2
 have hK:=cM g
 have hpr:=hg.prio v hv
 have htm : (gi g.prio v).tmod 2 = gi g.prio v % 2:=Int.tmod_eq_emod_of_nonneg hpr.1
 have hle:=hg.ar.le
 have hln:=hg.len
 by_cases h1 : gi m 0 = 1
 · (refine bc aF Try.func45 rfl rfl (by kernel_rfl) fun hp0 ν hX hN=>?_;simp only [ct,Nat.reduceAdd])
   (repeat' (first|(with_reducible first|(apply hK;clear hK K)|refine stZ ?_|refine be rfl ?_|((first|apply ae|apply af);clear ae X af Y))|(with_reducible refine bh ?_;first|refine bf rfl ?_|refine bg rfl ?_)|(with_reducible refine cW ?_;refine cA hN ?_)|((with_reducible first|((first|refine bm ?_|refine cB ?_|refine bn ?_|refine cC ?_);intro K hK)|(refine aL ?_;intro X Y ae af)|refine aM ?_);simp (disch:=first|decide|omega|(simp only [List.length_cons,List.length_nil];omega)) only [go_sem,↓aj hN,am hN,reduceIte,reduceCtorEq,Nat.reduceAdd,Nat.reduceLT,Nat.reduceLeDiff,Nat.reduceEqDiff,Nat.reduceSub])|(with_reducible refine And.intro (fun h=>?_) (fun h=>?_) <;> try (exfalso;omega))|(with_reducible refine bj aF hN ?_)|(with_reducible refine bE aF hN ?_)|((first|refine aW (fe m hp) ?_ rfl (fun _=>rfl) ?_|refine aW (kw) ?_ rfl (fun _=>rfl) ?_);focus ((repeat' (first|(with_reducible first|exact ay|refine aq ?_ ?_|exact bQ _|refine aI ?_|exact aK _|exact ba _ _|refine a8 ?_|exact aG _)|exact aJ hN rfl rfl|(refine aZ hN rfl ?_;first|exact aN _|exact aO _)|exact aH rfl rfl rfl));done))|(with_reducible first|exact ay|refine aq ?_ ?_|exact bQ _|refine aI ?_|exact aK _|exact ba _ _|refine a8 ?_|exact aG _)|exact aJ hN rfl rfl|(refine aZ hN rfl ?_;first|exact aN _|exact aO _)|exact aH rfl rfl rfl|(simp only [aD,List.map_nil])|(with_reducible refine bK ?_)|(with_reducible refine And.intro ?_ ?_)|(refine an ?_;omega)|(exact bi hN (by decide))))
   (refine cK hN (i:=1) (.inr rfl) (by first|rfl|(simp (disch:=first|decide|omega|(simp only [List.length_cons,List.length_nil];omega)) only [bF,bH,bJ,bP,go_sem,beq_self_eq_true,↓aB,↓aj hN,am hN,reduceIte,reduceCtorEq,Nat.reduceAdd,Nat.reduceLT,Nat.reduceLeDiff,Nat.reduceEqDiff,Nat.reduceSub];rfl)) rfl ?_ rfl)
   rw [dY,MS.ask,if_pos h1]
 · have hml:=(hm.resolve_left fun e=>h1 (by rw [e];rfl)).1
   have hm0:=(hm.resolve_left fun e=>h1 (by rw [e];rfl)).2.1
   have hc:=fS g (gi g.prio v)
   (refine bc aF Try.func45 rfl rfl (by kernel_rfl) fun hp0 ν hX hN=>?_;simp only [ct,Nat.reduceAdd])
   (repeat' (first|(with_reducible first|(apply hK;clear hK K)|refine stZ ?_|refine be rfl ?_|((first|apply ae|apply af);clear ae X af Y))|(with_reducible refine bh ?_;first|refine bf rfl ?_|refine bg rfl ?_)|(with_reducible refine cW ?_;refine cA hN ?_)|((with_reducible first|((first|refine bm ?_|refine cB ?_|refine bn ?_|refine cC ?_);intro K hK)|(refine aL ?_;intro X Y ae af)|refine aM ?_);simp (disch:=first|decide|omega|(simp only [List.length_cons,List.length_nil];omega)) only [go_sem,↓aj hN,am hN,reduceIte,reduceCtorEq,Nat.reduceAdd,Nat.reduceLT,Nat.reduceLeDiff,Nat.reduceEqDiff,Nat.reduceSub])|(with_reducible refine And.intro (fun h=>?_) (fun h=>?_) <;> try (exfalso;omega))|(with_reducible refine bj aF hN ?_)|(with_reducible refine bE aF hN ?_)|((first|refine aW (fe m hp) ?_ rfl (fun _=>rfl) ?_|refine aW (kq m (by omega)) ?_ rfl (fun _=>rfl) ?_);focus ((repeat' (first|(with_reducible first|exact ay|refine aq ?_ ?_|exact bQ _|refine aI ?_|exact aK _|exact ba _ _|refine a8 ?_|exact aG _)|exact aJ hN rfl rfl|(refine aZ hN rfl ?_;first|exact aN _|exact aO _)|exact aH rfl rfl rfl));done))|(with_reducible first|exact ay|refine aq ?_ ?_|exact bQ _|refine aI ?_|exact aK _|exact ba _ _|refine a8 ?_|exact aG _)|exact aJ hN rfl rfl|(refine aZ hN rfl ?_;first|exact aN _|exact aO _)|exact aH rfl rfl rfl|(simp only [aD,List.map_nil])|(with_reducible refine bK ?_)|(with_reducible refine And.intro ?_ ?_)|(refine an ?_;omega)|(exact bi hN (by decide))))
   (refine cw (fun (k : Nat)=>(tmL [(12,.c (.int .i64 k)),(10,.sl (ν 1)),(11,.c (.int .i64 (min k (odC g (gi g.prio v)) : Nat))),(9,.c (.int .i64 (gi g.prio v))),(1,.c (.I (au g))),(2,.c (.int .i64 v)),(4,.ad (ν 0) 0)],hpL hp0 ν [.box [.c (.I g.ar.own),.c (.R g.ar.nxt),.c (.I g.prio)],.arr 2 .yes (.I (tab ((au g).length + 1) fun i=>if i ≤ min k (odC g (gi g.prio v)) ∨ k < i then gi m i else 0))])) (fun (k : Nat)=>k ≤ (au g).length) (fun (k : Nat)=>(au g).length - k) ⟨0,?_,bT hX hN [] ?_ ?_⟩ ?_;(repeat' (first|(with_reducible first|exact clZ|refine bU ?_ ?_|refine bV ?_ ?_|rfl|refine suZ ?_)|refine bW rfl ?_ ?_|exact bz hN _ rfl rfl rfl|exact bA hN _ rfl rfl rfl|exact aS hN _ rfl rfl rfl (Or.inr rfl)|(refine bB hN _ rfl rfl (by first|exact Or.inr rfl|exact Or.inl rfl) ?_;first|exact aN _|exact aO _)|refine aT hN rfl ?_|refine aU hN rfl rfl ?_|exact aR hN _ rfl rfl|exact aV hN rfl rfl rfl rfl|(with_reducible first|refine stZ ?_|refine bw ?_)));(try (any_goals (first|(with_reducible rfl)|(refine an ?_;omega)))))
   · exact (gw (by omega) fun i hi=>by rw [if_pos (by omega)]).symm
   intro k hk
   have htl:=bM ((au g).length + 1) fun i=>if i ≤ min k (odC g (gi g.prio v)) ∨ k < i then gi m i else 0
   (repeat' (first|(with_reducible first|(apply hK;clear hK K)|refine stZ ?_|refine be rfl ?_|((first|apply ae|apply af);clear ae X af Y))|(with_reducible refine bh ?_;first|refine bf rfl ?_|refine bg rfl ?_)|(with_reducible refine cW ?_;refine cA hN ?_)|((with_reducible first|((first|refine bm ?_|refine cB ?_|refine bn ?_|refine cC ?_);intro K hK)|(refine aL ?_;intro X Y ae af)|refine aM ?_);simp (disch:=first|decide|omega|(simp only [List.length_cons,List.length_nil];omega)) only [go_sem,↓aj hN,am hN,reduceIte,reduceCtorEq,Nat.reduceAdd,Nat.reduceLT,Nat.reduceLeDiff,Nat.reduceEqDiff,Nat.reduceSub])|(with_reducible refine And.intro (fun h=>?_) (fun h=>?_) <;> try (exfalso;omega))|(with_reducible refine bj aF hN ?_)|(with_reducible refine bE aF hN ?_)|((first|refine aW (fe m hp) ?_ rfl (fun _=>rfl) ?_|refine aW (kq m (by omega)) ?_ rfl (fun _=>rfl) ?_);focus ((repeat' (first|(with_reducible first|exact ay|refine aq ?_ ?_|exact bQ _|refine aI ?_|exact aK _|exact ba _ _|refine a8 ?_|exact aG _)|exact aJ hN rfl rfl|(refine aZ hN rfl ?_;first|exact aN _|exact aO _)|exact aH rfl rfl rfl));done))|(with_reducible first|exact ay|refine aq ?_ ?_|exact bQ _|refine aI ?_|exact aK _|exact ba _ _|refine a8 ?_|exact aG _)|exact aJ hN rfl rfl|(refine aZ hN rfl ?_;first|exact aN _|exact aO _)|exact aH rfl rfl rfl|(simp only [aD,List.map_nil])|(with_reducible refine bK ?_)|(with_reducible refine And.intro ?_ ?_)|(refine an ?_;omega)|(exact bi hN (by decide))))
   · have hi : ¬ k < odC g (gi g.prio v):=fun h'=>absurd ((dz g (gi g.prio v) (i:=k) (by omega)).2 h') (by omega)
     (refine ⟨k + 1,⟨?_,?_⟩,bT hX hN [] ?_ ?_⟩;(try any_goals dsimp only);(repeat' (first|(with_reducible first|exact clZ|refine bU ?_ ?_|refine bV ?_ ?_|rfl|refine suZ ?_)|refine bW rfl ?_ ?_|exact bz hN _ rfl rfl rfl|exact bA hN _ rfl rfl rfl|exact aS hN _ rfl rfl rfl (Or.inr rfl)|(refine bB hN _ rfl rfl (by first|exact Or.inr rfl|exact Or.inl rfl) ?_;first|exact aN _|exact aO _)|refine aT hN rfl ?_|refine aU hN rfl rfl ?_|exact aR hN _ rfl rfl|exact aV hN rfl rfl rfl rfl|(with_reducible first|refine stZ ?_|refine bw ?_)));(try (any_goals (first|(with_reducible rfl)|(refine an ?_;omega)))))
     · show tab _ _ = (tab _ _).set (k + 1) 0
       rw [iZ (by omega)]
       exact bX fun i hi=>by grind
   · have hi:=(dz g (gi g.prio v) (i:=k) (by omega)).1 (by omega)
     (refine ⟨k + 1,⟨?_,?_⟩,bT hX hN [] ?_ ?_⟩;(try any_goals dsimp only);(repeat' (first|(with_reducible first|exact clZ|refine bU ?_ ?_|refine bV ?_ ?_|rfl|refine suZ ?_)|refine bW rfl ?_ ?_|exact bz hN _ rfl rfl rfl|exact bA hN _ rfl rfl rfl|exact aS hN _ rfl rfl rfl (Or.inr rfl)|(refine bB hN _ rfl rfl (by first|exact Or.inr rfl|exact Or.inl rfl) ?_;first|exact aN _|exact aO _)|refine aT hN rfl ?_|refine aU hN rfl rfl ?_|exact aR hN _ rfl rfl|exact aV hN rfl rfl rfl rfl|(with_reducible first|refine stZ ?_|refine bw ?_)));(try (any_goals (first|(with_reducible rfl)|(refine an ?_;omega)))))
     · exact bX fun i hi=>by grind
   · (refine cK hN (i:=1) (.inr rfl) (by first|rfl|(simp (disch:=first|decide|omega|(simp only [List.length_cons,List.length_nil];omega)) only [bF,bH,bJ,bP,go_sem,beq_self_eq_true,↓aB,↓aj hN,am hN,reduceIte,reduceCtorEq,Nat.reduceAdd,Nat.reduceLT,Nat.reduceLeDiff,Nat.reduceEqDiff,Nat.reduceSub];rfl)) rfl ?_ rfl)
     have hcut:=kx (m:=m) hc (show k = (au g).length by omega)
     rw [hcut,dY,MS.ask,if_neg h1,ap (by omega),sc]
   have hcut:=kx (m:=m) hc (show k = (au g).length by omega)
   have hask : MS.inc (bd g).mx (odC g (gi g.prio v)) (MS.cut (au g).length (odC g (gi g.prio v)) m) = dY g v m:=by
    have h0 : (gi g.prio v).tmod 2 ≠ 0:=by simpa using (by assumption : ((gi g.prio v).tmod 2 == 0) = false)
    rw [dY,MS.ask,if_neg h1,aE (by omega),r9]
   have hcl:=MS.cut_len (au g).length (odC g (gi g.prio v)) m
   have hcn:=fun j=>MS.ok_nn (MS.cut_ok (K:=(bd g).K) hc (cX hg).mx0 (g9.1 hm) h1) j
   (refine cw (fun (y : Nat × List Int)=>(tmL [(13,.c (.int .i64 y.1)),(10,.sl (ν 1)),(1,.c (.I (au g))),(4,.ad (ν 0) 0)],hpL hp0 ν [.box [.c (.I g.ar.own),.c (.R g.ar.nxt),.c (.I g.prio)],.arr 2 .yes (.I y.2)])) (fun (y : Nat × List Int)=>y.1 ≤ odC g (gi g.prio v) ∧ y.2.length = (au g).length + 1 ∧ (∀ j,0 ≤ gi y.2 j) ∧ MS.inc (bd g).mx y.1 y.2 = dY g v m) (fun (y : Nat × List Int)=>y.1) ⟨(odC g (gi g.prio v),MS.cut (au g).length (odC g (gi g.prio v)) m),?_,bT hX hN [] ?_ ?_⟩ ?_;(repeat' (first|(with_reducible first|exact clZ|refine bU ?_ ?_|refine bV ?_ ?_|rfl|refine suZ ?_)|refine bW rfl ?_ ?_|exact bz hN _ rfl rfl rfl|exact bA hN _ rfl rfl rfl|exact aS hN _ rfl rfl rfl (Or.inr rfl)|(refine bB hN _ rfl rfl (by first|exact Or.inr rfl|exact Or.inl rfl) ?_;first|exact aN _|exact aO _)|refine aT hN rfl ?_|refine aU hN rfl rfl ?_|exact aR hN _ rfl rfl|exact aV hN rfl rfl rfl rfl|(with_reducible first|refine stZ ?_|refine bw ?_)));(try (any_goals (first|(with_reducible rfl)|(refine an ?_;omega)))))
   · exact ⟨Nat.le_refl _,hcl,hcn,hask⟩
   · exact hcut.symm
   rintro ⟨i,out⟩ ⟨hi,hl,hn,he⟩
   dsimp only at hi hl hn he ⊢
   have hout:=hn i
   have hmy:=jA g (gi (au g) ((i : Int) - 1).toNat)
   (repeat' (first|(with_reducible first|(apply hK;clear hK K)|refine stZ ?_|refine be rfl ?_|((first|apply ae|apply af);clear ae X af Y))|(with_reducible refine bh ?_;first|refine bf rfl ?_|refine bg rfl ?_)|(with_reducible refine cW ?_;refine cA hN ?_)|((with_reducible first|((first|refine bm ?_|refine cB ?_|refine bn ?_|refine cC ?_);intro K hK)|(refine aL ?_;intro X Y ae af)|refine aM ?_);simp (disch:=first|decide|omega|(simp only [List.length_cons,List.length_nil];omega)) only [go_sem,↓aj hN,am hN,reduceIte,reduceCtorEq,Nat.reduceAdd,Nat.reduceLT,Nat.reduceLeDiff,Nat.reduceEqDiff,Nat.reduceSub])|(with_reducible refine And.intro (fun h=>?_) (fun h=>?_) <;> try (exfalso;omega))|(with_reducible refine bj aF hN ?_)|(with_reducible refine bE aF hN ?_)|((first|refine aW (pL g (gi (au g) ((i : Int) - 1).toNat)) ?_ rfl (fun _=>rfl) ?_|refine aW (kw) ?_ rfl (fun _=>rfl) ?_);focus ((repeat' (first|(with_reducible first|exact ay|refine aq ?_ ?_|exact bQ _|refine aI ?_|exact aK _|exact ba _ _|refine a8 ?_|exact aG _)|exact aJ hN rfl rfl|(refine aZ hN rfl ?_;first|exact aN _|exact aO _)|exact aH rfl rfl rfl));done))|(with_reducible first|exact ay|refine aq ?_ ?_|exact bQ _|refine aI ?_|exact aK _|exact ba _ _|refine a8 ?_|exact aG _)|exact aJ hN rfl rfl|(refine aZ hN rfl ?_;first|exact aN _|exact aO _)|exact aH rfl rfl rfl|(simp only [aD,List.map_nil])|(with_reducible refine bK ?_)|(with_reducible refine And.intro ?_ ?_)|(refine an ?_;omega)|(exact bi hN (by decide))))
   · have hmo : gi (au g) ((i : Int) - 1).toNat = gi (au g) (i - 1):=by rw [show ((i : Int) - 1).toNat = i - 1 by omega]
     have hlt : gi out i < dD g (gi (au g) (i - 1)):=by rw [← hmo];assumption
     (refine cK hN (i:=1) (.inr rfl) (by first|rfl|(simp (disch:=first|decide|omega|(simp only [List.length_cons,List.length_nil];omega)) only [bF,bH,bJ,bP,go_sem,beq_self_eq_true,↓aB,↓aj hN,am hN,reduceIte,reduceCtorEq,Nat.reduceAdd,Nat.reduceLT,Nat.reduceLeDiff,Nat.reduceEqDiff,Nat.reduceSub];rfl)) rfl ?_ rfl)
     rw [← he]
     obtain ⟨t,rfl⟩ : ∃ t,i = t + 1:=⟨i - 1,by omega⟩
     exact congrArg C.I (if_pos hlt : MS.inc (bd g).mx (t + 1) out = _).symm
   · have hmo : gi (au g) ((i : Int) - 1).toNat = gi (au g) (i - 1):=by rw [show ((i : Int) - 1).toNat = i - 1 by omega]
     have hlt : ¬ gi out i < dD g (gi (au g) (i - 1)):=by rw [← hmo];assumption
     obtain ⟨t,rfl⟩ : ∃ t,i = t + 1:=⟨i - 1,by omega⟩
     (refine ⟨(t,out.set (t + 1) 0),⟨?_,?_⟩,bT hX hN [] ?_ ?_⟩;(try any_goals dsimp only);(repeat' (first|(with_reducible first|exact clZ|refine bU ?_ ?_|refine bV ?_ ?_|rfl|refine suZ ?_)|refine bW rfl ?_ ?_|exact bz hN _ rfl rfl rfl|exact bA hN _ rfl rfl rfl|exact aS hN _ rfl rfl rfl (Or.inr rfl)|(refine bB hN _ rfl rfl (by first|exact Or.inr rfl|exact Or.inl rfl) ?_;first|exact aN _|exact aO _)|refine aT hN rfl ?_|refine aU hN rfl rfl ?_|exact aR hN _ rfl rfl|exact aV hN rfl rfl rfl rfl|(with_reducible first|refine stZ ?_|refine bw ?_)));(try (any_goals (first|(with_reducible rfl)|(refine an ?_;omega)))))
     refine ⟨by omega,by rw [List.length_set];exact hl,fun j=>?_,?_⟩
     · rw [fE (by omega)]
       split
       · exact Int.le_refl _
       · exact hn j
     · rw [← he]
       exact (if_neg hlt : MS.inc (bd g).mx (t + 1) out = _).symm
   · obtain rfl : i = 0:=by omega
     (refine cK hN (i:=2) (.inr rfl) (by first|rfl|(simp (disch:=first|decide|omega|(simp only [List.length_cons,List.length_nil];omega)) only [bF,bH,bJ,bP,go_sem,beq_self_eq_true,↓aB,↓aj hN,am hN,reduceIte,reduceCtorEq,Nat.reduceAdd,Nat.reduceLT,Nat.reduceLeDiff,Nat.reduceEqDiff,Nat.reduceSub];rfl)) rfl ?_ rfl)
     exact congrArg C.I he
theorem oJ {mn : Bool} {L : Nat → List Int} {k : Nat} (hk : 0 < k) (hc : tf (MS.lx (L k) (MS.bst mn L k)) = mn ∧ ¬ L k = MS.bst mn L k) : MS.bst mn L (k + 1) = L k:=by
 cases mn
 · refine lp ?_
   rcases MS.lx_total (L k) (MS.bst false L k) with h|h|h
   · exact absurd hc.1 (by rw [aE h];decide)
   · exact absurd h hc.2
   · exact h
 · exact ln (pU.1 hc.1)
theorem ky {mn : Bool} {L : Nat → List Int} {k : Nat} (hk : 0 < k) (hc : ¬ (tf (MS.lx (L k) (MS.bst mn L k)) = mn ∧ ¬ L k = MS.bst mn L k)) : MS.bst mn L (k + 1) = MS.bst mn L k:=by
 cases mn
 · exact lr hk fun h=>hc ⟨ap (MS.lx_asymm h),fun e=>MS.lx_ne h e.symm⟩
 · exact lq hk fun h=>hc ⟨aE h,MS.lx_ne h⟩
set_option maxHeartbeats 1000000 in
theorem oK (g : Pa) (hg : PaOk g) (t : List (List Int)) (ht : dc g t) (v : Nat) (hv : v < g.prio.length) : aw Try.prog 24 [paA g,.c (.I (au g)),.c (.R t),.c (.int .i64 v)] [.arr 2 .yes (.I (hH g t v))] (fun ns=>.sl (ns.getD 0 0)):=by
 have hle:=hg.ar.le
 have hln:=hg.len
 have hnl:=hg.ar.len
 have htl:=ht.len
 have hvt:=(hg.ar.vert v (by omega)).2.2
 obtain ⟨hv1,hv2,_⟩:=hvt
 have hok:=fun i (h : i < (gr g.ar.nxt v).length)=>lY hg (v:=v) (ht.row (v:=(gi (gr g.ar.nxt v) i).toNat) (by have:=oz hg hv h;omega))
 have hbk : ∀ k,0 < k → k ≤ (gr g.ar.nxt v).length → cL g (MS.bst (tf (gi g.ar.own v = 0)) ((bd g).asks t v) k):=fun k h0 h=>by
  obtain ⟨j,h1,h2⟩:=MS.bst_mem (tf (gi g.ar.own v = 0)) ((bd g).asks t v) k h0
  rw [h2];exact hok j (by omega)
 (refine bc aF Try.func24 rfl rfl (by kernel_rfl) fun hp0 ν hX hN=>?_;simp only [ct,Nat.reduceAdd])
 (repeat' (first|(with_reducible first|(apply hK;clear hK K)|refine stZ ?_|refine be rfl ?_|((first|apply ae|apply af);clear ae X af Y))|(with_reducible refine bh ?_;first|refine bf rfl ?_|refine bg rfl ?_)|(with_reducible refine eV ?_;first|refine dx rfl rfl rfl rfl ?_|refine er rfl rfl rfl ?_|refine ga rfl rfl rfl rfl ?_)|(with_reducible refine cW ?_;first|refine eP rfl rfl rfl rfl ?_|refine fR rfl rfl rfl ?_|refine iS rfl rfl rfl rfl ?_|refine cA hN ?_)|((first|(with_reducible first|((first|refine bm ?_|refine cB ?_|refine bn ?_|refine cC ?_);intro K hK)|(refine aL ?_;intro X Y ae af)|refine aM ?_)|(with_reducible refine eV ?_;refine dy rfl rfl fun X Y ae af=>?_)|(with_reducible refine cW ?_;refine eQ rfl rfl fun X Y ae af=>?_));simp (disch:=first|decide|omega|(simp only [List.length_cons,List.length_nil];omega)) only [go_sem,↓aj hN,am hN,reduceIte,reduceCtorEq,Nat.reduceAdd,Nat.reduceLT,Nat.reduceLeDiff,Nat.reduceEqDiff,Nat.reduceSub])|(with_reducible refine And.intro (fun h=>?_) (fun h=>?_) <;> try (exfalso;omega))|(with_reducible refine bj aF hN ?_)|(with_reducible refine bE aF hN ?_)|(with_reducible refine And.intro ?_ ?_)|(refine an ?_;omega)|(exact bi hN (by decide))))
 (refine cw (fun (k : Nat)=>(tmL [(10,.c (.int .i64 k)),(9,.sl (ν 1)),(1,.c (.I (au g))),(2,.c (.R t)),(3,.c (.int .i64 v)),(4,.ad (ν 0) 0)],hpL hp0 ν [.box [.c (.I g.ar.own),.c (.R g.ar.nxt),.c (.I g.prio)],.arr 2 .yes (.I (MS.bst (tf (gi g.ar.own v = 0)) ((bd g).asks t v) k))])) (fun (k : Nat)=>k ≤ (gr g.ar.nxt v).length) (fun (k : Nat)=>(gr g.ar.nxt v).length - k) ⟨0,?_,bT hX hN [] ?_ ?_⟩ ?_;(repeat' (first|(with_reducible first|exact clZ|refine bU ?_ ?_|refine bV ?_ ?_|rfl|refine suZ ?_)|refine bW rfl ?_ ?_|exact bz hN _ rfl rfl rfl|exact bA hN _ rfl rfl rfl|exact aS hN _ rfl rfl rfl (Or.inr rfl)|(refine bB hN _ rfl rfl (by first|exact Or.inr rfl|exact Or.inl rfl) ?_;first|exact aN _|exact aO _)|refine aT hN rfl ?_|refine aU hN rfl rfl ?_|exact aR hN _ rfl rfl|exact aV hN rfl rfl rfl rfl|(with_reducible first|refine stZ ?_|refine bw ?_)));(try (any_goals (first|(with_reducible rfl)|(refine an ?_;omega)))))
 · rfl
 intro k hk
 have hn:=fun h=>oz hg hv (i:=k) h
 have hx:=fun h=>hok k h
 have hx2:=fun h=>(cj (hok k h)).2
 rcases Nat.eq_zero_or_pos k with rfl|hk0
 · (repeat' (first|(with_reducible first|(apply hK;clear hK K)|refine stZ ?_|refine be rfl ?_|((first|apply ae|apply af);clear ae X af Y))|(with_reducible refine bh ?_;first|refine bf rfl ?_|refine bg rfl ?_)|(with_reducible refine eV ?_;first|refine dx rfl rfl rfl rfl ?_|refine er rfl rfl rfl ?_|refine ga rfl rfl rfl rfl ?_)|(with_reducible refine cW ?_;first|refine eP rfl rfl rfl rfl ?_|refine fR rfl rfl rfl ?_|refine iS rfl rfl rfl rfl ?_|refine cA hN ?_)|((first|(with_reducible first|((first|refine bm ?_|refine cB ?_|refine bn ?_|refine cC ?_);intro K hK)|(refine aL ?_;intro X Y ae af)|refine aM ?_)|(with_reducible refine eV ?_;refine dy rfl rfl fun X Y ae af=>?_)|(with_reducible refine cW ?_;refine eQ rfl rfl fun X Y ae af=>?_));simp (disch:=first|decide|omega|(simp only [List.length_cons,List.length_nil];omega)) only [go_sem,↓aj hN,am hN,reduceIte,reduceCtorEq,Nat.reduceAdd,Nat.reduceLT,Nat.reduceLeDiff,Nat.reduceEqDiff,Nat.reduceSub])|(with_reducible refine And.intro (fun h=>?_) (fun h=>?_) <;> try (exfalso;omega))|(with_reducible refine bj aF hN ?_)|(with_reducible refine bE aF hN ?_)|(refine aW (iW g hg v hv (gr t (gi (gr g.ar.nxt v) 0).toNat) (ht.row (by have:=hn (by omega);omega))) ?_ rfl (fun _=>rfl) ?_;focus ((repeat' (first|(with_reducible first|exact ay|refine aq ?_ ?_|exact bQ _|refine aI ?_|exact aK _|exact ba _ _|refine a8 ?_|exact aG _)|exact aJ hN rfl rfl|(refine aZ hN rfl ?_;first|exact aN _|exact aO _)|exact aH rfl rfl rfl));done))|(with_reducible first|exact ay|refine aq ?_ ?_|exact bQ _|refine aI ?_|exact aK _|exact ba _ _|refine a8 ?_|exact aG _)|exact aJ hN rfl rfl|(refine aZ hN rfl ?_;first|exact aN _|exact aO _)|exact aH rfl rfl rfl|(simp only [aD,List.map_nil])|(with_reducible refine bK ?_)|(with_reducible refine And.intro ?_ ?_)|(refine an ?_;omega)|(exact bi hN (by decide))))
   (refine ⟨1,⟨?_,?_⟩,bT hX hN [(1,2)] ?_ ?_⟩;(try any_goals dsimp only);(repeat' (first|(with_reducible first|exact clZ|refine bU ?_ ?_|refine bV ?_ ?_|rfl|refine suZ ?_)|refine bW rfl ?_ ?_|exact bz hN _ rfl rfl rfl|exact bA hN _ rfl rfl rfl|exact aS hN _ rfl rfl rfl (Or.inr rfl)|(refine bB hN _ rfl rfl (by first|exact Or.inr rfl|exact Or.inl rfl) ?_;first|exact aN _|exact aO _)|refine aT hN rfl ?_|refine aU hN rfl rfl ?_|exact aR hN _ rfl rfl|exact aV hN rfl rfl rfl rfl|(with_reducible first|refine stZ ?_|refine bw ?_)));(try (any_goals (first|(with_reducible rfl)|(refine an ?_;omega)))))
   exact (MS.bst_yes (.inl rfl) : MS.bst _ ((bd g).asks t v) (0 + 1) = _)
 · have hb:=hbk k hk0 hk
   (repeat' (first|(with_reducible first|(apply hK;clear hK K)|refine stZ ?_|refine be rfl ?_|((first|apply ae|apply af);clear ae X af Y))|(with_reducible refine bh ?_;first|refine bf rfl ?_|refine bg rfl ?_)|(with_reducible refine eV ?_;first|refine dx rfl rfl rfl rfl ?_|refine er rfl rfl rfl ?_|refine ga rfl rfl rfl rfl ?_)|(with_reducible refine cW ?_;first|refine eP rfl rfl rfl rfl ?_|refine fR rfl rfl rfl ?_|refine iS rfl rfl rfl rfl ?_|refine cA hN ?_)|((first|(with_reducible first|((first|refine bm ?_|refine cB ?_|refine bn ?_|refine cC ?_);intro K hK)|(refine aL ?_;intro X Y ae af)|refine aM ?_)|(with_reducible refine eV ?_;refine dy rfl rfl fun X Y ae af=>?_)|(with_reducible refine cW ?_;refine eQ rfl rfl fun X Y ae af=>?_));simp (disch:=first|decide|omega|(simp only [List.length_cons,List.length_nil];omega)) only [go_sem,↓aj hN,am hN,reduceIte,reduceCtorEq,Nat.reduceAdd,Nat.reduceLT,Nat.reduceLeDiff,Nat.reduceEqDiff,Nat.reduceSub])|(with_reducible refine And.intro (fun h=>?_) (fun h=>?_) <;> try (exfalso;omega))|(with_reducible refine bj aF hN ?_)|(with_reducible refine bE aF hN ?_)|((first|refine aW (iW g hg v hv (gr t (gi (gr g.ar.nxt v) k).toNat) (ht.row (by have:=hn (by omega);omega))) ?_ rfl (fun _=>rfl) ?_|refine aW (iV g (dY g v (gr t (gi (gr g.ar.nxt v) k).toNat)) (MS.bst (tf (gi g.ar.own v = 0)) ((bd g).asks t v) k) (hx (by omega)) hb) ?_ rfl (fun _=>rfl) ?_|refine aW (ow (dY g v (gr t (gi (gr g.ar.nxt v) k).toNat)) (MS.bst (tf (gi g.ar.own v = 0)) ((bd g).asks t v) k) (by have:=hx2 (by omega);omega)) ?_ rfl (fun _=>rfl) ?_);focus ((repeat' (first|(with_reducible first|exact ay|refine aq ?_ ?_|exact bQ _|refine aI ?_|exact aK _|exact ba _ _|refine a8 ?_|exact aG _)|exact aJ hN rfl rfl|(refine aZ hN rfl ?_;first|exact aN _|exact aO _)|exact aH rfl rfl rfl));done))|(with_reducible first|exact ay|refine aq ?_ ?_|exact bQ _|refine aI ?_|exact aK _|exact ba _ _|refine a8 ?_|exact aG _)|exact aJ hN rfl rfl|(refine aZ hN rfl ?_;first|exact aN _|exact aO _)|exact aH rfl rfl rfl|(simp only [aD,List.map_nil])|(with_reducible refine bK ?_)|(with_reducible refine And.intro ?_ ?_)|(refine an ?_;omega)|(exact bi hN (by decide))))
   · have h1 : tf (MS.lx ((bd g).asks t v k) (MS.bst (tf (gi g.ar.own v = 0)) ((bd g).asks t v) k)) = tf (gi g.ar.own v = 0):=(show _ = (gi g.ar.own v == 0) by assumption).trans (jC _ _)
     have h2 : ¬ (bd g).asks t v k = MS.bst (tf (gi g.ar.own v = 0)) ((bd g).asks t v) k:=by assumption
     (refine ⟨k + 1,⟨?_,?_⟩,bT hX hN [(1,2)] ?_ ?_⟩;(try any_goals dsimp only);(repeat' (first|(with_reducible first|exact clZ|refine bU ?_ ?_|refine bV ?_ ?_|rfl|refine suZ ?_)|refine bW rfl ?_ ?_|exact bz hN _ rfl rfl rfl|exact bA hN _ rfl rfl rfl|exact aS hN _ rfl rfl rfl (Or.inr rfl)|(refine bB hN _ rfl rfl (by first|exact Or.inr rfl|exact Or.inl rfl) ?_;first|exact aN _|exact aO _)|refine aT hN rfl ?_|refine aU hN rfl rfl ?_|exact aR hN _ rfl rfl|exact aV hN rfl rfl rfl rfl|(with_reducible first|refine stZ ?_|refine bw ?_)));(try (any_goals (first|(with_reducible rfl)|(refine an ?_;omega)))))
     exact oJ hk0 ⟨h1,h2⟩
   · have h2 : (bd g).asks t v k = MS.bst (tf (gi g.ar.own v = 0)) ((bd g).asks t v) k:=by assumption
     (refine ⟨k + 1,⟨?_,?_⟩,bT hX hN [] ?_ ?_⟩;(try any_goals dsimp only);(repeat' (first|(with_reducible first|exact clZ|refine bU ?_ ?_|refine bV ?_ ?_|rfl|refine suZ ?_)|refine bW rfl ?_ ?_|exact bz hN _ rfl rfl rfl|exact bA hN _ rfl rfl rfl|exact aS hN _ rfl rfl rfl (Or.inr rfl)|(refine bB hN _ rfl rfl (by first|exact Or.inr rfl|exact Or.inl rfl) ?_;first|exact aN _|exact aO _)|refine aT hN rfl ?_|refine aU hN rfl rfl ?_|exact aR hN _ rfl rfl|exact aV hN rfl rfl rfl rfl|(with_reducible first|refine stZ ?_|refine bw ?_)));(try (any_goals (first|(with_reducible rfl)|(refine an ?_;omega)))))
     exact ky hk0 fun h=>h.2 h2
   · have h1 : (tf (MS.lx ((bd g).asks t v k) (MS.bst (tf (gi g.ar.own v = 0)) ((bd g).asks t v) k)) == tf (gi g.ar.own v = 0)) = false:=by
      have h' : (tf (MS.lx ((bd g).asks t v k) (MS.bst (tf (gi g.ar.own v = 0)) ((bd g).asks t v) k)) == (gi g.ar.own v == 0)) = false:=by assumption
      rw [jC (gi g.ar.own v) 0] at h';exact h'
     (refine ⟨k + 1,⟨?_,?_⟩,bT hX hN [] ?_ ?_⟩;(try any_goals dsimp only);(repeat' (first|(with_reducible first|exact clZ|refine bU ?_ ?_|refine bV ?_ ?_|rfl|refine suZ ?_)|refine bW rfl ?_ ?_|exact bz hN _ rfl rfl rfl|exact bA hN _ rfl rfl rfl|exact aS hN _ rfl rfl rfl (Or.inr rfl)|(refine bB hN _ rfl rfl (by first|exact Or.inr rfl|exact Or.inl rfl) ?_;first|exact aN _|exact aO _)|refine aT hN rfl ?_|refine aU hN rfl rfl ?_|exact aR hN _ rfl rfl|exact aV hN rfl rfl rfl rfl|(with_reducible first|refine stZ ?_|refine bw ?_)));(try (any_goals (first|(with_reducible rfl)|(refine an ?_;omega)))))
     exact ky hk0 fun h=>absurd h.1 (by simpa using h1)
   · (refine cK hN (i:=1) (.inr rfl) (by first|rfl|(simp (disch:=first|decide|omega|(simp only [List.length_cons,List.length_nil];omega)) only [bF,bH,bJ,bP,go_sem,beq_self_eq_true,↓aB,↓aj hN,am hN,reduceIte,reduceCtorEq,Nat.reduceAdd,Nat.reduceLT,Nat.reduceLeDiff,Nat.reduceEqDiff,Nat.reduceSub];rfl)) rfl ?_ rfl)
     rw [show k = (gr g.ar.nxt v).length by omega];rfl
end Go.Proofs.Ytceonklhlpkfgaa
