/-
  LiftedAt on both sides, in the old words.
-/
import Derived.Test.YtceonklhlpkfgaaZlYC
import Derived.Test.YtceonklhlpkfgaaZlM11
import Derived.Test.YtceonklhlpkfgaaZlLaw
namespace Go.Proofs.Ytceonklhlpkfgaa
set_option linter.unusedVariables false
set_option linter.unusedSimpArgs false
open Go.RowKit
attribute [local irreducible] ay cM Aw Le
def ez (g : Pa) (t : List (List Int)) (v : Int) : Prop:=jK g t ∧ nj g.prio.length v
open Classical in
noncomputable def liN (g : Pa) (t : List (List Int)) (v : Int) : List (List Int):=if ez g t v then iZ g t v.toNat else []
theorem jL {g : Pa} {t : List (List Int)} {v : Int} (h : ez g t v) : liN g t v = iZ g t v.toNat:=if_pos h
theorem lD {g : Pa} {t : List (List Int)} {v : Int} (h : ¬ ez g t v) : liN g t v = []:=if_neg h
theorem oJ (xss : List (List Int)) (hl : xss.length ≤ 1048576) (hr : ∀ k,k < xss.length → (gr xss k).length ≤ 1048576) : ay Try.prog 22 [.c (.R xss)] [.arr 22 .yes (.R xss)] (fun ns=>.sl (ns.getD 0 0)):=by
 (refine aV aL Try.func22 rfl rfl (by kernel_rfl) fun hp0 ν hX hN=>?_;simp only [ch,Nat.reduceAdd])
 (repeat' (first|(with_reducible first|(apply hK;clear hK K)|refine stZ ?_|refine aY rfl ?_|((first|apply ae|apply af);clear ae X af Y))|(with_reducible refine ba ?_;first|refine aZ rfl ?_|refine a8 rfl ?_)|((with_reducible first|((first|refine be ?_|refine bf ?_);intro K hK)|(refine aM ?_;intro X Y ae af)|refine aN ?_);simp (disch:=first|decide|omega|(simp only [List.length_cons,List.length_nil];omega)) only [go_sem,↓ak hN,an hN,reduceIte,reduceCtorEq,Nat.reduceAdd,Nat.reduceLT,Nat.reduceLeDiff,Nat.reduceEqDiff,Nat.reduceSub])|(with_reducible refine And.intro (fun h=>?_) (fun h=>?_) <;> try (exfalso;omega))|(with_reducible refine bd aL hN ?_)|(with_reducible refine And.intro ?_ ?_)|(refine ap ?_;omega)|(exact bc hN (by decide))))
 (refine dw (fun (k : Nat)=>(tmL [(4,.c (.int .i64 k)),(0,.c (.R xss)),(3,.sl (ν 0))],hpL hp0 ν [.arr 22 .yes (.R (xss.take k))])) (fun (k : Nat)=>k ≤ xss.length) (fun (k : Nat)=>xss.length - k) ⟨0,?_,cS hX hN [] ?_ ?_⟩ ?_;(repeat' (first|(with_reducible first|exact clZ|refine cT ?_ ?_|refine cU ?_ ?_|rfl|refine suZ ?_)|refine cV rfl ?_ ?_|exact bU hN _ rfl rfl rfl|exact bV hN _ rfl rfl rfl|exact bu hN _ rfl rfl rfl (Or.inr rfl)|(refine bW hN _ rfl rfl (by first|exact Or.inr rfl|exact Or.inl rfl) ?_;first|exact aT _|exact aU _)|refine bv hN rfl ?_|refine bw hN rfl rfl ?_|exact br hN _ rfl rfl|exact bz hN rfl rfl rfl rfl|(with_reducible first|refine stZ ?_|refine bT ?_)));(try (any_goals (first|(with_reducible rfl)|(refine ap ?_;omega)))))
 · rfl
 intro k hk
 have htk : (xss.take k).length = k:=by simp;omega
 by_cases hkn : k < xss.length
 · have h1:=hD (gr xss k) (hr k hkn)
   (repeat' (first|(with_reducible first|(apply hK;clear hK K)|refine stZ ?_|refine aY rfl ?_|((first|apply ae|apply af);clear ae X af Y))|(with_reducible refine ba ?_;first|refine aZ rfl ?_|refine a8 rfl ?_)|((with_reducible first|((first|refine be ?_|refine bf ?_);intro K hK)|(refine aM ?_;intro X Y ae af)|refine aN ?_);simp (disch:=first|decide|omega|(simp only [List.length_cons,List.length_nil];omega)) only [go_sem,↓ak hN,an hN,reduceIte,reduceCtorEq,Nat.reduceAdd,Nat.reduceLT,Nat.reduceLeDiff,Nat.reduceEqDiff,Nat.reduceSub])|(with_reducible refine And.intro (fun h=>?_) (fun h=>?_) <;> try (exfalso;omega))|(with_reducible refine bd aL hN ?_)|(refine aF (h1) ?_ rfl (fun _=>rfl) ?_;focus ((repeat' (first|(with_reducible first|exact aw|refine aq ?_ ?_|exact bD _|refine aI ?_|exact aK _|exact aS _ _|refine aR ?_|exact aG _)|exact aJ hN rfl rfl|(refine aQ hN rfl ?_;first|exact aT _|exact aU _)|exact aH rfl rfl rfl));done))|(with_reducible first|exact aw|refine aq ?_ ?_|exact bD _|refine aI ?_|exact aK _|exact aS _ _|refine aR ?_|exact aG _)|exact aJ hN rfl rfl|(refine aQ hN rfl ?_;first|exact aT _|exact aU _)|exact aH rfl rfl rfl|(simp only [aE,List.map_nil])|(with_reducible refine bB ?_)|(with_reducible refine And.intro ?_ ?_)|(refine ap ?_;omega)|(exact bc hN (by decide))))
   (refine ⟨k + 1,⟨?_,?_⟩,cS hX hN [(0,3)] ?_ ?_⟩;(try any_goals dsimp only);(repeat' (first|(with_reducible first|exact clZ|refine cT ?_ ?_|refine cU ?_ ?_|rfl|refine suZ ?_)|refine cV rfl ?_ ?_|exact bU hN _ rfl rfl rfl|exact bV hN _ rfl rfl rfl|exact bu hN _ rfl rfl rfl (Or.inr rfl)|(refine bW hN _ rfl rfl (by first|exact Or.inr rfl|exact Or.inl rfl) ?_;first|exact aT _|exact aU _)|refine bv hN rfl ?_|refine bw hN rfl rfl ?_|exact br hN _ rfl rfl|exact bz hN rfl rfl rfl rfl|(with_reducible first|refine stZ ?_|refine bT ?_)));(try (any_goals (first|(with_reducible rfl)|(refine ap ?_;omega)))))
   all_goals exact lH (by omega)
 · (repeat' (first|(with_reducible first|(apply hK;clear hK K)|refine stZ ?_|refine aY rfl ?_|((first|apply ae|apply af);clear ae X af Y))|(with_reducible refine ba ?_;first|refine aZ rfl ?_|refine a8 rfl ?_)|((with_reducible first|((first|refine be ?_|refine bf ?_);intro K hK)|(refine aM ?_;intro X Y ae af)|refine aN ?_);simp (disch:=first|decide|omega|(simp only [List.length_cons,List.length_nil];omega)) only [go_sem,↓ak hN,an hN,reduceIte,reduceCtorEq,Nat.reduceAdd,Nat.reduceLT,Nat.reduceLeDiff,Nat.reduceEqDiff,Nat.reduceSub])|(with_reducible refine And.intro (fun h=>?_) (fun h=>?_) <;> try (exfalso;omega))|(with_reducible refine bd aL hN ?_)|(with_reducible refine And.intro ?_ ?_)|(refine ap ?_;omega)|(exact bc hN (by decide))))
   (refine ct hN (i:=0) (.inr rfl) (by first|rfl|(simp (disch:=first|decide|omega|(simp only [List.length_cons,List.length_nil];omega)) only [bm,bq,bC,bF,go_sem,beq_self_eq_true,↓az,↓ak hN,an hN,reduceIte,reduceCtorEq,Nat.reduceAdd,Nat.reduceLT,Nat.reduceLeDiff,Nat.reduceEqDiff,Nat.reduceSub];rfl)) rfl ?_ rfl)
   rw [List.take_of_length_le (by omega)]
theorem kB (g : Pa) (t : List (List Int)) (ht : jK g t) (v : Nat) (hv : v < g.prio.length) : ay Try.prog 7 [paA g,.c (.R t),.c (.int .i64 v)] [.arr 22 .yes (.R (iZ g t v))] (fun ns=>.sl (ns.getD 0 0)):=by
 have hg:=ht.1.1
 have hln:=hg.len
 have hle:=hg.ar.le
 have htl:=ht.2.len
 have h1:=ib g t
 rw [aA ht] at h1
 have h2:=ol (v : Int) 0 ((t.length : Int) - 1)
 rw [aA (show (0 : Int) ≤ (v : Int) ∧ (v : Int) ≤ (t.length : Int) - 1 by omega)] at h2
 have h3:=oJ t (by omega) fun k hk=>by have:=cf (ht.2.row (v:=k) (by omega));omega
 have h4:=l8 g
 have h5:=oI g hg t ht.2 v hv
 have h6:=i4 g (gr t v) (gg g t v) (ht.2.row hv) (jI hg ht.2 hv)
 change ay _ _ _ [] (fun _=>.c (.bool (tf (Uns g t v)))) at h6
 by_cases hu : Uns g t v
 · rw [aA hu] at h6
   rw [fV hu]
   (refine aV aL Try.func7 rfl rfl (by kernel_rfl) fun hp0 ν hX hN=>?_;simp only [ch,Nat.reduceAdd])
   (repeat' (first|(with_reducible first|(apply hK;clear hK K)|refine stZ ?_|refine aY rfl ?_|((first|apply ae|apply af);clear ae X af Y))|(with_reducible refine ba ?_;first|refine aZ rfl ?_|refine a8 rfl ?_)|(with_reducible refine b9 ?_;first|refine bG rfl rfl rfl rfl ?_|refine bZ rfl rfl rfl ?_|refine cH rfl rfl rfl rfl ?_)|((first|(with_reducible first|((first|refine be ?_|refine bf ?_);intro K hK)|(refine aM ?_;intro X Y ae af)|refine aN ?_)|(with_reducible refine b9 ?_;refine bH rfl rfl fun X Y ae af=>?_));simp (disch:=first|decide|omega|(simp only [List.length_cons,List.length_nil];omega)) only [go_sem,↓ak hN,an hN,reduceIte,reduceCtorEq,Nat.reduceAdd,Nat.reduceLT,Nat.reduceLeDiff,Nat.reduceEqDiff,Nat.reduceSub])|(with_reducible refine And.intro (fun h=>?_) (fun h=>?_) <;> try (exfalso;omega))|(with_reducible refine bd aL hN ?_)|((first|refine aF (h1) ?_ rfl (fun _=>rfl) ?_|refine aF (h2) ?_ rfl (fun _=>rfl) ?_);focus ((repeat' (first|(with_reducible first|exact aw|refine aq ?_ ?_|exact bD _|refine aI ?_|exact aK _|exact aS _ _|refine aR ?_|exact aG _)|exact aJ hN rfl rfl|(refine aQ hN rfl ?_;first|exact aT _|exact aU _)|exact aH rfl rfl rfl));done))|(refine lU (h3) ?_ rfl rfl ?_;focus ((repeat' (first|(with_reducible first|exact aw|refine aq ?_ ?_|exact bD _|refine aI ?_|exact aK _|exact aS _ _|refine aR ?_|exact aG _)|exact aJ hN rfl rfl|(refine aQ hN rfl ?_;first|exact aT _|exact aU _)|exact aH rfl rfl rfl));done))|((first|refine aF (h4) ?_ rfl (fun _=>rfl) ?_|refine aF (h5) ?_ rfl (fun _=>rfl) ?_|refine aF (h6) ?_ rfl (fun _=>rfl) ?_);focus ((repeat' (first|(with_reducible first|exact aw|refine aq ?_ ?_|exact bD _|refine aI ?_|exact aK _|exact aS _ _|refine aR ?_|exact aG _)|exact aJ hN rfl rfl|(refine aQ hN rfl ?_;first|exact aT _|exact aU _)|exact aH rfl rfl rfl));done))|(with_reducible first|exact aw|refine aq ?_ ?_|exact bD _|refine aI ?_|exact aK _|exact aS _ _|refine aR ?_|exact aG _)|exact aJ hN rfl rfl|(refine aQ hN rfl ?_;first|exact aT _|exact aU _)|exact aH rfl rfl rfl|(simp only [aE,List.map_nil])|(with_reducible refine bB ?_)|(with_reducible refine And.intro ?_ ?_)|(refine ap ?_;omega)|(exact bc hN (by decide))))
   (refine ct hN (i:=1) (.inr rfl) (by first|rfl|(simp (disch:=first|decide|omega|(simp only [List.length_cons,List.length_nil];omega)) only [bm,bq,bC,bF,go_sem,beq_self_eq_true,↓az,↓ak hN,an hN,reduceIte,reduceCtorEq,Nat.reduceAdd,Nat.reduceLT,Nat.reduceLeDiff,Nat.reduceEqDiff,Nat.reduceSub];rfl)) rfl ?_ rfl)
   all_goals rfl
 · rw [am hu] at h6
   rw [hZ hu]
   (refine aV aL Try.func7 rfl rfl (by kernel_rfl) fun hp0 ν hX hN=>?_;simp only [ch,Nat.reduceAdd])
   (repeat' (first|(with_reducible first|(apply hK;clear hK K)|refine stZ ?_|refine aY rfl ?_|((first|apply ae|apply af);clear ae X af Y))|(with_reducible refine ba ?_;first|refine aZ rfl ?_|refine a8 rfl ?_)|(with_reducible refine b9 ?_;first|refine bG rfl rfl rfl rfl ?_|refine bZ rfl rfl rfl ?_|refine cH rfl rfl rfl rfl ?_)|((first|(with_reducible first|((first|refine be ?_|refine bf ?_);intro K hK)|(refine aM ?_;intro X Y ae af)|refine aN ?_)|(with_reducible refine b9 ?_;refine bH rfl rfl fun X Y ae af=>?_));simp (disch:=first|decide|omega|(simp only [List.length_cons,List.length_nil];omega)) only [go_sem,↓ak hN,an hN,reduceIte,reduceCtorEq,Nat.reduceAdd,Nat.reduceLT,Nat.reduceLeDiff,Nat.reduceEqDiff,Nat.reduceSub])|(with_reducible refine And.intro (fun h=>?_) (fun h=>?_) <;> try (exfalso;omega))|(with_reducible refine bd aL hN ?_)|((first|refine aF (h1) ?_ rfl (fun _=>rfl) ?_|refine aF (h2) ?_ rfl (fun _=>rfl) ?_);focus ((repeat' (first|(with_reducible first|exact aw|refine aq ?_ ?_|exact bD _|refine aI ?_|exact aK _|exact aS _ _|refine aR ?_|exact aG _)|exact aJ hN rfl rfl|(refine aQ hN rfl ?_;first|exact aT _|exact aU _)|exact aH rfl rfl rfl));done))|(refine lU (h3) ?_ rfl rfl ?_;focus ((repeat' (first|(with_reducible first|exact aw|refine aq ?_ ?_|exact bD _|refine aI ?_|exact aK _|exact aS _ _|refine aR ?_|exact aG _)|exact aJ hN rfl rfl|(refine aQ hN rfl ?_;first|exact aT _|exact aU _)|exact aH rfl rfl rfl));done))|((first|refine aF (h4) ?_ rfl (fun _=>rfl) ?_|refine aF (h5) ?_ rfl (fun _=>rfl) ?_|refine aF (h6) ?_ rfl (fun _=>rfl) ?_);focus ((repeat' (first|(with_reducible first|exact aw|refine aq ?_ ?_|exact bD _|refine aI ?_|exact aK _|exact aS _ _|refine aR ?_|exact aG _)|exact aJ hN rfl rfl|(refine aQ hN rfl ?_;first|exact aT _|exact aU _)|exact aH rfl rfl rfl));done))|(with_reducible first|exact aw|refine aq ?_ ?_|exact bD _|refine aI ?_|exact aK _|exact aS _ _|refine aR ?_|exact aG _)|exact aJ hN rfl rfl|(refine aQ hN rfl ?_;first|exact aT _|exact aU _)|exact aH rfl rfl rfl|(simp only [aE,List.map_nil])|(with_reducible refine bB ?_)|(with_reducible refine And.intro ?_ ?_)|(refine ap ?_;omega)|(exact bc hN (by decide))))
   (refine ct hN (i:=1) (.inr rfl) (by first|rfl|(simp (disch:=first|decide|omega|(simp only [List.length_cons,List.length_nil];omega)) only [bm,bq,bC,bF,go_sem,beq_self_eq_true,↓az,↓ak hN,an hN,reduceIte,reduceCtorEq,Nat.reduceAdd,Nat.reduceLT,Nat.reduceLeDiff,Nat.reduceEqDiff,Nat.reduceSub];rfl)) rfl ?_ rfl)
   all_goals rfl
theorem kC (g : Pa) (t : List (List Int)) (v : Int) (h : ¬ ez g t v) : ay Try.prog 7 [paA g,.c (.R t),.c (.int .i64 v)] [.arr 22 .yes (.R [])] (fun ns=>.sl (ns.getD 0 0)):=by
 have h1:=ib g t
 by_cases ht : jK g t
 · rw [aA ht] at h1
   have htl:=ht.2.len
   have hln:=ht.1.1.len
   have hle:=ht.1.1.ar.le
   have h2:=ol v 0 ((t.length : Int) - 1)
   rw [am (show ¬ ((0 : Int) ≤ v ∧ v ≤ (t.length : Int) - 1) from fun k=>h ⟨ht,by omega,by omega⟩)] at h2
   (refine aV aL Try.func7 rfl rfl (by kernel_rfl) fun hp0 ν hX hN=>?_;simp only [ch,Nat.reduceAdd])
   (repeat' (first|(with_reducible first|(apply hK;clear hK K)|refine stZ ?_|refine aY rfl ?_|((first|apply ae|apply af);clear ae X af Y))|(with_reducible refine ba ?_;first|refine aZ rfl ?_|refine a8 rfl ?_)|(with_reducible refine b9 ?_;first|refine bG rfl rfl rfl rfl ?_|refine bZ rfl rfl rfl ?_|refine cH rfl rfl rfl rfl ?_)|((first|(with_reducible first|((first|refine be ?_|refine bf ?_);intro K hK)|(refine aM ?_;intro X Y ae af)|refine aN ?_)|(with_reducible refine b9 ?_;refine bH rfl rfl fun X Y ae af=>?_));simp (disch:=first|decide|omega|(simp only [List.length_cons,List.length_nil];omega)) only [go_sem,↓ak hN,an hN,reduceIte,reduceCtorEq,Nat.reduceAdd,Nat.reduceLT,Nat.reduceLeDiff,Nat.reduceEqDiff,Nat.reduceSub])|(with_reducible refine And.intro (fun h=>?_) (fun h=>?_) <;> try (exfalso;omega))|(with_reducible refine bd aL hN ?_)|((first|refine aF (h1) ?_ rfl (fun _=>rfl) ?_|refine aF (h2) ?_ rfl (fun _=>rfl) ?_);focus ((repeat' (first|(with_reducible first|exact aw|refine aq ?_ ?_|exact bD _|refine aI ?_|exact aK _|exact aS _ _|refine aR ?_|exact aG _)|exact aJ hN rfl rfl|(refine aQ hN rfl ?_;first|exact aT _|exact aU _)|exact aH rfl rfl rfl));done))|(with_reducible first|exact aw|refine aq ?_ ?_|exact bD _|refine aI ?_|exact aK _|exact aS _ _|refine aR ?_|exact aG _)|exact aJ hN rfl rfl|(refine aQ hN rfl ?_;first|exact aT _|exact aU _)|exact aH rfl rfl rfl|(simp only [aE,List.map_nil])|(with_reducible refine bB ?_)|(with_reducible refine And.intro ?_ ?_)|(refine ap ?_;omega)|(exact bc hN (by decide))))
   (refine ct hN (i:=1) (.inr rfl) (by first|rfl|(simp (disch:=first|decide|omega|(simp only [List.length_cons,List.length_nil];omega)) only [bm,bq,bC,bF,go_sem,beq_self_eq_true,↓az,↓ak hN,an hN,reduceIte,reduceCtorEq,Nat.reduceAdd,Nat.reduceLT,Nat.reduceLeDiff,Nat.reduceEqDiff,Nat.reduceSub];rfl)) rfl ?_ rfl)
   all_goals rfl
 · rw [am ht] at h1
   (refine aV aL Try.func7 rfl rfl (by kernel_rfl) fun hp0 ν hX hN=>?_;simp only [ch,Nat.reduceAdd])
   (repeat' (first|(with_reducible first|(apply hK;clear hK K)|refine stZ ?_|refine aY rfl ?_|((first|apply ae|apply af);clear ae X af Y))|(with_reducible refine ba ?_;first|refine aZ rfl ?_|refine a8 rfl ?_)|(with_reducible refine b9 ?_;first|refine bG rfl rfl rfl rfl ?_|refine bZ rfl rfl rfl ?_|refine cH rfl rfl rfl rfl ?_)|((first|(with_reducible first|((first|refine be ?_|refine bf ?_);intro K hK)|(refine aM ?_;intro X Y ae af)|refine aN ?_)|(with_reducible refine b9 ?_;refine bH rfl rfl fun X Y ae af=>?_));simp (disch:=first|decide|omega|(simp only [List.length_cons,List.length_nil];omega)) only [go_sem,↓ak hN,an hN,reduceIte,reduceCtorEq,Nat.reduceAdd,Nat.reduceLT,Nat.reduceLeDiff,Nat.reduceEqDiff,Nat.reduceSub])|(with_reducible refine And.intro (fun h=>?_) (fun h=>?_) <;> try (exfalso;omega))|(with_reducible refine bd aL hN ?_)|(refine aF (h1) ?_ rfl (fun _=>rfl) ?_;focus ((repeat' (first|(with_reducible first|exact aw|refine aq ?_ ?_|exact bD _|refine aI ?_|exact aK _|exact aS _ _|refine aR ?_|exact aG _)|exact aJ hN rfl rfl|(refine aQ hN rfl ?_;first|exact aT _|exact aU _)|exact aH rfl rfl rfl));done))|(with_reducible first|exact aw|refine aq ?_ ?_|exact bD _|refine aI ?_|exact aK _|exact aS _ _|refine aR ?_|exact aG _)|exact aJ hN rfl rfl|(refine aQ hN rfl ?_;first|exact aT _|exact aU _)|exact aH rfl rfl rfl|(simp only [aE,List.map_nil])|(with_reducible refine bB ?_)|(with_reducible refine And.intro ?_ ?_)|(refine ap ?_;omega)|(exact bc hN (by decide))))
   (refine ct hN (i:=1) (.inr rfl) (by first|rfl|(simp (disch:=first|decide|omega|(simp only [List.length_cons,List.length_nil];omega)) only [bm,bq,bC,bF,go_sem,beq_self_eq_true,↓az,↓ak hN,an hN,reduceIte,reduceCtorEq,Nat.reduceAdd,Nat.reduceLT,Nat.reduceLeDiff,Nat.reduceEqDiff,Nat.reduceSub];rfl)) rfl ?_ rfl)
   all_goals rfl
theorem kD (g : Pa) (t : List (List Int)) (v : Int) (h : ¬ ez g t v) : ay Try.prog 10 [paA g,.c (.R t),.c (.int .i64 v)] [] (fun _=>.c .nul):=by
 have h1:=ks g
 by_cases hs : eZ g
 · rw [aA hs] at h1
   have hln:=hs.1.len
   have h2:=iY g hs.1 t
   by_cases ht : dg g t
   · rw [aA ht] at h2
     have h3:=l3 g.ar v
     rw [am (show ¬ nj g.ar.own.length v from fun k=>h ⟨⟨hs,ht⟩,k.1,by have:=k.2;omega⟩)] at h3
     (refine aV aL Try.func10 rfl rfl (by kernel_rfl) fun hp0 ν hX hN=>?_;simp only [ch,Nat.reduceAdd])
     (repeat' (first|(with_reducible first|(apply hK;clear hK K)|refine stZ ?_|refine aY rfl ?_|((first|apply ae|apply af);clear ae X af Y))|(with_reducible refine ba ?_;first|refine aZ rfl ?_|refine a8 rfl ?_)|(with_reducible refine b9 ?_;first|refine bG rfl rfl rfl rfl ?_|refine bZ rfl rfl rfl ?_|refine cH rfl rfl rfl rfl ?_)|((first|(with_reducible first|((first|refine be ?_|refine bf ?_);intro K hK)|(refine aM ?_;intro X Y ae af)|refine aN ?_)|(with_reducible refine b9 ?_;refine bH rfl rfl fun X Y ae af=>?_));simp (disch:=first|decide|omega|(simp only [List.length_cons,List.length_nil];omega)) only [go_sem,↓ak hN,an hN,reduceIte,reduceCtorEq,Nat.reduceAdd,Nat.reduceLT,Nat.reduceLeDiff,Nat.reduceEqDiff,Nat.reduceSub])|(with_reducible refine And.intro (fun h=>?_) (fun h=>?_) <;> try (exfalso;omega))|(with_reducible refine bd aL hN ?_)|((first|refine aF (h1) ?_ rfl (fun _=>rfl) ?_|refine aF (h2) ?_ rfl (fun _=>rfl) ?_|refine aF (h3) ?_ rfl (fun _=>rfl) ?_);focus ((repeat' (first|(with_reducible first|exact aw|refine aq ?_ ?_|exact bD _|refine aI ?_|exact aK _|exact aS _ _|refine aR ?_|exact aG _)|exact aJ hN rfl rfl|(refine aQ hN rfl ?_;first|exact aT _|exact aU _)|exact aH rfl rfl rfl));done))|(with_reducible first|exact aw|refine aq ?_ ?_|exact bD _|refine aI ?_|exact aK _|exact aS _ _|refine aR ?_|exact aG _)|exact aJ hN rfl rfl|(refine aQ hN rfl ?_;first|exact aT _|exact aU _)|exact aH rfl rfl rfl|(simp only [aE,List.map_nil])|(with_reducible refine bB ?_)|(with_reducible refine And.intro ?_ ?_)|(refine ap ?_;omega)|(exact bc hN (by decide))))
     (refine oc hN [] (by decide) (.inr rfl) (by first|exact gY rfl rfl|exact fS hN rfl rfl rfl rfl|exact fj hN rfl rfl rfl rfl rfl|(simp (disch:=first|decide|omega|(simp only [List.length_cons,List.length_nil];omega)) only [bm,bq,bC,bF,go_sem,beq_self_eq_true,↓az,↓ak hN,an hN,reduceIte,reduceCtorEq,Nat.reduceAdd,Nat.reduceLT,Nat.reduceLeDiff,Nat.reduceEqDiff,Nat.reduceSub];rfl)|rfl) ?_ fun νs hνs=>?_;(repeat' (first|exact Gone.nil|(refine Gone.cons rfl rfl ?_ ?_)|(with_reducible refine ls ?_)|(with_reducible refine lr ?_)|(with_reducible refine SVs.cons ?_ ?_)|(with_reducible exact SVs.nil)|(simp only [List.drop,List.take])|(simp (disch:=first|decide|omega) only [↓az,reduceIte,reduceCtorEq,Nat.reduceEqDiff])|(with_reducible exact qJ _)|(with_reducible exact lp _)|(exact lq rfl rfl rfl)|(exact oa 0 (by simp) rfl rfl)|(refine nZ hN rfl (lu hN (by decide)) ?_)|(with_reducible refine nY ?_)|(with_reducible rfl)|(with_reducible refine qK ?_)|(with_reducible refine qL ?_)|(with_reducible refine qM ?_)|(with_reducible refine qN ?_)|(with_reducible refine qO ?_)|(refine ap ?_;omega))))
     all_goals rfl
   · rw [am ht] at h2
     (refine aV aL Try.func10 rfl rfl (by kernel_rfl) fun hp0 ν hX hN=>?_;simp only [ch,Nat.reduceAdd])
     (repeat' (first|(with_reducible first|(apply hK;clear hK K)|refine stZ ?_|refine aY rfl ?_|((first|apply ae|apply af);clear ae X af Y))|(with_reducible refine ba ?_;first|refine aZ rfl ?_|refine a8 rfl ?_)|(with_reducible refine b9 ?_;first|refine bG rfl rfl rfl rfl ?_|refine bZ rfl rfl rfl ?_|refine cH rfl rfl rfl rfl ?_)|((first|(with_reducible first|((first|refine be ?_|refine bf ?_);intro K hK)|(refine aM ?_;intro X Y ae af)|refine aN ?_)|(with_reducible refine b9 ?_;refine bH rfl rfl fun X Y ae af=>?_));simp (disch:=first|decide|omega|(simp only [List.length_cons,List.length_nil];omega)) only [go_sem,↓ak hN,an hN,reduceIte,reduceCtorEq,Nat.reduceAdd,Nat.reduceLT,Nat.reduceLeDiff,Nat.reduceEqDiff,Nat.reduceSub])|(with_reducible refine And.intro (fun h=>?_) (fun h=>?_) <;> try (exfalso;omega))|(with_reducible refine bd aL hN ?_)|((first|refine aF (h1) ?_ rfl (fun _=>rfl) ?_|refine aF (h2) ?_ rfl (fun _=>rfl) ?_);focus ((repeat' (first|(with_reducible first|exact aw|refine aq ?_ ?_|exact bD _|refine aI ?_|exact aK _|exact aS _ _|refine aR ?_|exact aG _)|exact aJ hN rfl rfl|(refine aQ hN rfl ?_;first|exact aT _|exact aU _)|exact aH rfl rfl rfl));done))|(with_reducible first|exact aw|refine aq ?_ ?_|exact bD _|refine aI ?_|exact aK _|exact aS _ _|refine aR ?_|exact aG _)|exact aJ hN rfl rfl|(refine aQ hN rfl ?_;first|exact aT _|exact aU _)|exact aH rfl rfl rfl|(simp only [aE,List.map_nil])|(with_reducible refine bB ?_)|(with_reducible refine And.intro ?_ ?_)|(refine ap ?_;omega)|(exact bc hN (by decide))))
     (refine oc hN [] (by decide) (.inr rfl) (by first|exact gY rfl rfl|exact fS hN rfl rfl rfl rfl|exact fj hN rfl rfl rfl rfl rfl|(simp (disch:=first|decide|omega|(simp only [List.length_cons,List.length_nil];omega)) only [bm,bq,bC,bF,go_sem,beq_self_eq_true,↓az,↓ak hN,an hN,reduceIte,reduceCtorEq,Nat.reduceAdd,Nat.reduceLT,Nat.reduceLeDiff,Nat.reduceEqDiff,Nat.reduceSub];rfl)|rfl) ?_ fun νs hνs=>?_;(repeat' (first|exact Gone.nil|(refine Gone.cons rfl rfl ?_ ?_)|(with_reducible refine ls ?_)|(with_reducible refine lr ?_)|(with_reducible refine SVs.cons ?_ ?_)|(with_reducible exact SVs.nil)|(simp only [List.drop,List.take])|(simp (disch:=first|decide|omega) only [↓az,reduceIte,reduceCtorEq,Nat.reduceEqDiff])|(with_reducible exact qJ _)|(with_reducible exact lp _)|(exact lq rfl rfl rfl)|(exact oa 0 (by simp) rfl rfl)|(refine nZ hN rfl (lu hN (by decide)) ?_)|(with_reducible refine nY ?_)|(with_reducible rfl)|(with_reducible refine qK ?_)|(with_reducible refine qL ?_)|(with_reducible refine qM ?_)|(with_reducible refine qN ?_)|(with_reducible refine qO ?_)|(refine ap ?_;omega))))
     all_goals rfl
 · rw [am hs] at h1
   (refine aV aL Try.func10 rfl rfl (by kernel_rfl) fun hp0 ν hX hN=>?_;simp only [ch,Nat.reduceAdd])
   (repeat' (first|(with_reducible first|(apply hK;clear hK K)|refine stZ ?_|refine aY rfl ?_|((first|apply ae|apply af);clear ae X af Y))|(with_reducible refine ba ?_;first|refine aZ rfl ?_|refine a8 rfl ?_)|(with_reducible refine b9 ?_;first|refine bG rfl rfl rfl rfl ?_|refine bZ rfl rfl rfl ?_|refine cH rfl rfl rfl rfl ?_)|((first|(with_reducible first|((first|refine be ?_|refine bf ?_);intro K hK)|(refine aM ?_;intro X Y ae af)|refine aN ?_)|(with_reducible refine b9 ?_;refine bH rfl rfl fun X Y ae af=>?_));simp (disch:=first|decide|omega|(simp only [List.length_cons,List.length_nil];omega)) only [go_sem,↓ak hN,an hN,reduceIte,reduceCtorEq,Nat.reduceAdd,Nat.reduceLT,Nat.reduceLeDiff,Nat.reduceEqDiff,Nat.reduceSub])|(with_reducible refine And.intro (fun h=>?_) (fun h=>?_) <;> try (exfalso;omega))|(with_reducible refine bd aL hN ?_)|(refine aF (h1) ?_ rfl (fun _=>rfl) ?_;focus ((repeat' (first|(with_reducible first|exact aw|refine aq ?_ ?_|exact bD _|refine aI ?_|exact aK _|exact aS _ _|refine aR ?_|exact aG _)|exact aJ hN rfl rfl|(refine aQ hN rfl ?_;first|exact aT _|exact aU _)|exact aH rfl rfl rfl));done))|(with_reducible first|exact aw|refine aq ?_ ?_|exact bD _|refine aI ?_|exact aK _|exact aS _ _|refine aR ?_|exact aG _)|exact aJ hN rfl rfl|(refine aQ hN rfl ?_;first|exact aT _|exact aU _)|exact aH rfl rfl rfl|(simp only [aE,List.map_nil])|(with_reducible refine bB ?_)|(with_reducible refine And.intro ?_ ?_)|(refine ap ?_;omega)|(exact bc hN (by decide))))
   (refine oc hN [] (by decide) (.inr rfl) (by first|exact gY rfl rfl|exact fS hN rfl rfl rfl rfl|exact fj hN rfl rfl rfl rfl rfl|(simp (disch:=first|decide|omega|(simp only [List.length_cons,List.length_nil];omega)) only [bm,bq,bC,bF,go_sem,beq_self_eq_true,↓az,↓ak hN,an hN,reduceIte,reduceCtorEq,Nat.reduceAdd,Nat.reduceLT,Nat.reduceLeDiff,Nat.reduceEqDiff,Nat.reduceSub];rfl)|rfl) ?_ fun νs hνs=>?_;(repeat' (first|exact Gone.nil|(refine Gone.cons rfl rfl ?_ ?_)|(with_reducible refine ls ?_)|(with_reducible refine lr ?_)|(with_reducible refine SVs.cons ?_ ?_)|(with_reducible exact SVs.nil)|(simp only [List.drop,List.take])|(simp (disch:=first|decide|omega) only [↓az,reduceIte,reduceCtorEq,Nat.reduceEqDiff])|(with_reducible exact qJ _)|(with_reducible exact lp _)|(exact lq rfl rfl rfl)|(exact oa 0 (by simp) rfl rfl)|(refine nZ hN rfl (lu hN (by decide)) ?_)|(with_reducible refine nY ?_)|(with_reducible rfl)|(with_reducible refine qK ?_)|(with_reducible refine qL ?_)|(with_reducible refine qM ?_)|(with_reducible refine qN ?_)|(with_reducible refine qO ?_)|(refine ap ?_;omega))))
   all_goals rfl
end Go.Proofs.Ytceonklhlpkfgaa
namespace Go.Proofs.Ytceonklhlpkfgaa
set_option linter.unusedVariables false
set_option linter.unusedSimpArgs false
open Go.RowKit
def so (w : World) (xss : List (List Int)) (e : Ending) (w' : World) : Prop:=∃ s n c,e = .returned (.slice s n c) ∧ cC w.heap.size w'.heap.size w' (.slice s n c) xss ∧ Below w.heap.size w w'
def oK (w : World) (xss : List (List Int)) (e : Ending) (w' : World) : Prop:=∃ s n c,e = .returned (.slice s n c) ∧ cg w' (.slice s n c) xss ∧ Below w.heap.size w w'
theorem kE {P : Program} {f : FuncId} {args : List AV} {T : TypeId} {xss : List (List Int)} {w : World} {vs : List Value} (hF : ay P f args [.arr T .yes (.R xss)] (fun ns=>.sl (ns.getD 0 0))) (hv : AVs φ00 h00 w args vs) : Calls P f vs.toArray w (oK w xss):=by
 refine (hF.2 φ00 h00 w vs (fun _ _ h=>by cases h) (pC w) hv.at.1 hv.at.2).mono fun e w' ⟨v,he,ho⟩=>?_
 obtain ⟨φ',H,_,ha⟩:=ho [0] rfl (by decide) (fun _ _=>rfl)
 have l0 : bn (aE h00 []) [0] [Ent.arr T .yes (.R xss)] 0 = some (.arr T .yes (.R xss)):=rfl
 have o0:=dH (O':=fun _=>False) (w':=w') (H.ent 0 _ l0) (fun b _ _=>⟨rfl,fun h=>h⟩) (Nat.le_refl _)
 have e1 : v = (φ' 0).val:=lY ha l0
 obtain ⟨s0,n0,c0,q0⟩:=iX (φ' 0)
 rw [q0] at o0 e1
 subst e1
 have o1 : Rd (fun _=>False) w' (.R xss) (.slice s0 n0 c0):=by
  cases o0 with
  | sl hv' hn hc hm h0 hs cell rec => exact .sl hv' (fun e => by cases e) hc hm h0 hs cell rec
 exact ⟨s0,n0,c0,he,pW o1,H.fr⟩
theorem oL {P : Program} {f : FuncId} {args : List AV} {w : World} {vs : List Value} (hF : ay P f args [] (fun _=>.c .nul)) (hv : AVs φ00 h00 w args vs) : Calls P f vs.toArray w fun e w'=>e = .returned (.slice none 0 0) ∧ Below w.heap.size w w':=by
 refine (hF.2 φ00 h00 w vs (fun _ _ h=>by cases h) (pC w) hv.at.1 hv.at.2).mono fun e w' ⟨v,he,ho⟩=>?_
 obtain ⟨φ',H,_,ha⟩:=ho [] rfl List.nodup_nil (fun _ h=>by cases h)
 have e1:=eJ ha
 subst e1
 exact ⟨he,H.fr⟩
theorem ic (x y : Value) (g : Pa) (t : List (List Int)) (v : Int) (w : World) (hP : IsP w x g) (hT : cg w y t) : Calls Try.prog 10 #[x,y,.int .i64 v] w (so w (liN g t v)):=by
 by_cases h : ez g t v
 · rw [jL h]
   obtain ⟨n,rfl⟩:=Int.eq_ofNat_of_zero_le h.2.1
   rw [Int.toNat_natCast]
   obtain ⟨sa,m,c,rfl,hR⟩:=hT
   refine (lC x g h.1.1 sa m c t h.1.2 n (by have:=h.2.2;omega) w hP hR).mono ?_
   rintro e w' ⟨s,c',vs,rfl,ho,hb⟩
   exact ⟨_,_,_,rfl,⟨vs,ho⟩,hb⟩
 · rw [lD h]
   refine (oL (vs:=[x,y,.int .i64 v]) (kD g t v h) (.cons (mS hP) (.cons (iW hT) (.cons (nX _ _) .nil)))).mono ?_
   rintro e w' ⟨rfl,hb⟩
   exact ⟨_,_,_,rfl,⟨[],ne _ _ _⟩,hb⟩
theorem lE (x y : Value) (g : Pa) (t : List (List Int)) (v : Int) (w : World) (hP : IsP w x g) (hT : cg w y t) : Calls Try.prog 7 #[x,y,.int .i64 v] w (oK w (liN g t v)):=by
 by_cases h : ez g t v
 · rw [jL h]
   obtain ⟨n,rfl⟩:=Int.eq_ofNat_of_zero_le h.2.1
   rw [Int.toNat_natCast]
   exact kE (vs:=[x,y,.int .i64 n]) (kB g t h.1 n (by have:=h.2.2;omega)) (.cons (mS hP) (.cons (iW hT) (.cons (nX _ _) .nil)))
 · rw [lD h]
   exact kE (vs:=[x,y,.int .i64 v]) (kC g t v h) (.cons (mS hP) (.cons (iW hT) (.cons (nX _ _) .nil)))
theorem kF {xss : List (List Int)} {b : Nat} : ∀ n,(∀ k,k < n → (gr xss k).length ≤ b) → ce xss n ≤ n * b
 | 0, _ => Nat.zero_le _
 | n + 1, h => by
   have h1:=kF n fun k hk=>h k (by omega)
   have h2:=h n (by omega)
   rw [Nat.add_mul,Nat.one_mul]
   show ce xss n + (gr xss n).length ≤ _
   omega
theorem qW {g : Pa} (hs : eZ g) {t : List (List Int)} (ht : dg g t) : cm t ≤ 1048576:=by
 have hle:=hs.2
 have htl:=ht.len
 have h1:=kF (xss:=t) (b:=1024) t.length fun k hk=>by have:=cf (ht.row (v:=k) (by omega));omega
 unfold cm
 omega
theorem oM (g : Pa) (t : List (List Int)) (v : Int) : cm (liN g t v) ≤ 1048576:=by
 by_cases h : ez g t v
 · rw [jL h]
   refine qW h.1.1 ?_
   by_cases hu : Uns g t v.toNat
   · have hv : v.toNat < g.prio.length:=by have:=h.2.1;have:=h.2.2;omega
     rw [fV hu];exact MS.tab_put h.1.2 hv (jI h.1.1.1 h.1.2 hv)
   · rw [hZ hu];exact h.1.2
 · rw [lD h];decide
end Go.Proofs.Ytceonklhlpkfgaa
