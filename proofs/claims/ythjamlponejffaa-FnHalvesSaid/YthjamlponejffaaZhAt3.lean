/-
  Attraction by ranks: the program's walks.
-/
import Derived.Test.YthjamlponejffaaZhAt2
namespace Go.Proofs.Ythjamlponejffaa
set_option linter.unusedVariables false
set_option linter.unusedSimpArgs false
open Go.RowKit
attribute [local irreducible] ap b7 Aw Le
theorem mW {P : PG.Gm} {who : Int} {S T : Nat → Prop} {n k v : Nat} (hv : v < n) (h : PG.AttrN P who S T (k + 1) v) (hn : ¬ PG.AttrN P who S T k v) : num (PG.AttrN P who S T k) n < num (PG.AttrN P who S T (k + 1)) n :=
 iS (fun t _ h=>PG.attrN_succ h) ⟨v,hv,h,hn⟩
theorem uu {n : Nat} (h : (((n : Nat) : Int) == 0) = false) : n ≠ 0:=by
 have : ((n : Nat) : Int) ≠ 0:=by simpa using h
 omega
noncomputable def rkF (g : Pa) (who : Int) (xs ys : List Int) : List Int:=tab g.prio.length (rkV (pgA g) who (fun v=>(v : Int) ∈ xs) (fun v=>(v : Int) ∈ ys) g.prio.length)
set_option maxHeartbeats 2000000 in
theorem qC (g : Pa) (hg : PaOk g) (who : Int) (xs ys : List Int) (hx : bD xs g.prio.length) (hy : bD ys g.prio.length) : ap Try.prog 121 [arA g.ar,.c (.int .i64 who),.c (.I xs),.c (.I ys)] [.arr 2 .yes (.I (rkF g who xs ys))] (fun ns=>.sl (ns.getD 0 0)):=by
 have ha:=hg.ar
 have hl:=hg.len
 have hle:=ha.le
 have hxl:=cG hx (by omega)
 have hyl:=cG hy (by omega)
 have hxb:=hx.bnd
 have hyb:=hy.bnd
 have hm:=mP g.ar xs (by rw [← hl];exact hxb) (by omega) (by omega)
 rw [← hl] at hm
 have hwl:=ep g.prio.length fun v=>(v : Int) ∈ xs
 (refine bf aI Try.func121 rfl rfl (by kernel_rfl) fun hp0 ν hX hN=>?_;simp only [bW,Nat.reduceAdd])
 (repeat' (first|(with_reducible first|(apply hK;clear hK K)|refine stZ ?_|refine aT rfl ?_|((first|apply ae|apply af);clear ae X af Y))|(with_reducible refine aW ?_;first|refine aU rfl ?_|refine aV rfl ?_)|(with_reducible refine bv ?_;first|refine bd rfl rfl rfl rfl ?_|refine bt rfl rfl rfl ?_|refine bI rfl rfl rfl rfl ?_)|((first|(with_reducible first|((first|refine aZ ?_|refine a8 ?_);intro K hK)|(refine aE ?_;intro X Y ae af)|refine aF ?_)|(with_reducible refine bv ?_;refine be rfl rfl fun X Y ae af=>?_));simp (disch:=first|decide|omega|(simp only [List.length_cons,List.length_nil];omega)) only [go_sem,↓aj hN,ak hN,reduceIte,reduceCtorEq,Nat.reduceAdd,Nat.reduceLT,Nat.reduceLeDiff,Nat.reduceEqDiff,Nat.reduceSub])|(with_reducible refine And.intro (fun h=>?_) (fun h=>?_) <;> try (exfalso;omega))|(with_reducible refine aY aI hN ?_)|(refine aB (hm) ?_ rfl (fun _=>rfl) ?_;focus ((repeat' (first|(with_reducible first|exact aq|refine am ?_ ?_|exact bH _|refine aM ?_|exact aL _|exact bj _ _|refine bi ?_|exact aJ _)|exact aN hN rfl rfl|(refine bh hN rfl ?_;first|exact aC _|exact aD _)|exact aK rfl rfl rfl));done))|(with_reducible first|exact aq|refine am ?_ ?_|exact bH _|refine aM ?_|exact aL _|exact bj _ _|refine bi ?_|exact aJ _)|exact aN hN rfl rfl|(refine bh hN rfl ?_;first|exact aC _|exact aD _)|exact aK rfl rfl rfl|(simp only [ba,List.map_nil])|(with_reducible refine bu ?_)|(with_reducible refine And.intro ?_ ?_)|(refine ah ?_;omega)|(exact aX hN (by decide))))
 (refine bT (fun (k : Nat)=>(tmL [(29,.c (.int .i64 k)),(28,.c (.int .i64 g.prio.length)),(10,.sl (ν 2)),(9,.sl (ν 1)),(1,.c (.int .i64 who)),(2,.c (.I xs)),(3,.c (.I ys)),(4,.ad (ν 0) 0)],hpL hp0 ν [.box [.c (.I g.ar.own),.c (.R g.ar.nxt)],.arr 4 .yes (.B (mks g.prio.length fun v=>(v : Int) ∈ xs)),.arr 2 .yes (.I (tab g.prio.length fun v=>if v < k then -1 else 0))])) (fun (k : Nat)=>k ≤ g.prio.length) (fun (k : Nat)=>g.prio.length - k) ⟨0,?_,bB hX hN [] ?_ ?_⟩ ?_;(repeat' (first|(with_reducible first|exact clZ|refine bw ?_ ?_|refine bz ?_ ?_|rfl|refine suZ ?_)|refine bA rfl ?_ ?_|exact aP hN _ rfl rfl rfl|exact aQ hN _ rfl rfl rfl|exact ax hN _ rfl rfl rfl (Or.inr rfl)|(refine aR hN _ rfl rfl (by first|exact Or.inr rfl|exact Or.inl rfl) ?_;first|exact aC _|exact aD _)|refine ay hN rfl ?_|refine az hN rfl rfl ?_|exact au hN _ rfl rfl|exact aA hN rfl rfl rfl rfl|(with_reducible first|refine stZ ?_|refine aO ?_)));(try (any_goals (first|(with_reducible rfl)|(refine ah ?_;omega)))))
 · rw [← hl];exact mG _ _
 intro k hk
 have htl:=bY g.prio.length fun v=>if v < k then (-1 : Int) else 0
 (repeat' (first|(with_reducible first|(apply hK;clear hK K)|refine stZ ?_|refine aT rfl ?_|((first|apply ae|apply af);clear ae X af Y))|(with_reducible refine aW ?_;first|refine aU rfl ?_|refine aV rfl ?_)|(with_reducible refine bv ?_;first|refine bd rfl rfl rfl rfl ?_|refine bt rfl rfl rfl ?_|refine bI rfl rfl rfl rfl ?_)|((first|(with_reducible first|((first|refine aZ ?_|refine a8 ?_);intro K hK)|(refine aE ?_;intro X Y ae af)|refine aF ?_)|(with_reducible refine bv ?_;refine be rfl rfl fun X Y ae af=>?_));simp (disch:=first|decide|omega|(simp only [List.length_cons,List.length_nil];omega)) only [go_sem,↓aj hN,ak hN,reduceIte,reduceCtorEq,Nat.reduceAdd,Nat.reduceLT,Nat.reduceLeDiff,Nat.reduceEqDiff,Nat.reduceSub])|(with_reducible refine And.intro (fun h=>?_) (fun h=>?_) <;> try (exfalso;omega))|(with_reducible refine aY aI hN ?_)|(with_reducible refine And.intro ?_ ?_)|(refine ah ?_;omega)|(exact aX hN (by decide))))
 · (refine ⟨k + 1,⟨?_,?_⟩,bB hX hN [] ?_ ?_⟩;(try any_goals dsimp only);(repeat' (first|(with_reducible first|exact clZ|refine bw ?_ ?_|refine bz ?_ ?_|rfl|refine suZ ?_)|refine bA rfl ?_ ?_|exact aP hN _ rfl rfl rfl|exact aQ hN _ rfl rfl rfl|exact ax hN _ rfl rfl rfl (Or.inr rfl)|(refine aR hN _ rfl rfl (by first|exact Or.inr rfl|exact Or.inl rfl) ?_;first|exact aC _|exact aD _)|refine ay hN rfl ?_|refine az hN rfl rfl ?_|exact au hN _ rfl rfl|exact aA hN rfl rfl rfl rfl|(with_reducible first|refine stZ ?_|refine aO ?_)));(try (any_goals (first|(with_reducible rfl)|(refine ah ?_;omega)))))
   exact kU (by omega) rfl
 rw [jV (by omega : g.prio.length ≤ k)]
 (refine bT (fun (j : Nat)=>(tmL [(38,.c (.int .i64 j)),(37,.c (.int .i64 ys.length)),(36,.c (.I ys)),(10,.sl (ν 2)),(9,.sl (ν 1)),(1,.c (.int .i64 who)),(2,.c (.I xs)),(4,.ad (ν 0) 0)],hpL hp0 ν [.box [.c (.I g.ar.own),.c (.R g.ar.nxt)],.arr 4 .yes (.B (mks g.prio.length fun v=>(v : Int) ∈ xs)),.arr 2 .yes (.I (tab g.prio.length fun v=>@ite _ ((v : Int) ∈ xs ∧ ∃ i,i < j ∧ gi ys i = v) (Classical.propDecidable _) 0 (-1)))])) (fun (j : Nat)=>j ≤ ys.length) (fun (j : Nat)=>ys.length - j) ⟨0,?_,bB hX hN [] ?_ ?_⟩ ?_;(repeat' (first|(with_reducible first|exact clZ|refine bw ?_ ?_|refine bz ?_ ?_|rfl|refine suZ ?_)|refine bA rfl ?_ ?_|exact aP hN _ rfl rfl rfl|exact aQ hN _ rfl rfl rfl|exact ax hN _ rfl rfl rfl (Or.inr rfl)|(refine aR hN _ rfl rfl (by first|exact Or.inr rfl|exact Or.inl rfl) ?_;first|exact aC _|exact aD _)|refine ay hN rfl ?_|refine az hN rfl rfl ?_|exact au hN _ rfl rfl|exact aA hN rfl rfl rfl rfl|(with_reducible first|refine stZ ?_|refine aO ?_)));(try (any_goals (first|(with_reducible rfl)|(refine ah ?_;omega)))))
 · exact bR fun v hv=>if_neg (by rintro ⟨_,i,h,_⟩;omega)
 intro j hj
 have hyj:=hyb j
 have htl2:=bY g.prio.length fun v=>@ite Int ((v : Int) ∈ xs ∧ ∃ i,i < j ∧ gi ys i = v) (Classical.propDecidable _) 0 (-1)
 (repeat' (first|(with_reducible first|(apply hK;clear hK K)|refine stZ ?_|refine aT rfl ?_|((first|apply ae|apply af);clear ae X af Y))|(with_reducible refine aW ?_;first|refine aU rfl ?_|refine aV rfl ?_)|(with_reducible refine bv ?_;first|refine bd rfl rfl rfl rfl ?_|refine bt rfl rfl rfl ?_|refine bI rfl rfl rfl rfl ?_)|((first|(with_reducible first|((first|refine aZ ?_|refine a8 ?_);intro K hK)|(refine aE ?_;intro X Y ae af)|refine aF ?_)|(with_reducible refine bv ?_;refine be rfl rfl fun X Y ae af=>?_));simp (disch:=first|decide|omega|(simp only [List.length_cons,List.length_nil];omega)) only [go_sem,↓aj hN,ak hN,reduceIte,reduceCtorEq,Nat.reduceAdd,Nat.reduceLT,Nat.reduceLeDiff,Nat.reduceEqDiff,Nat.reduceSub])|(with_reducible refine And.intro (fun h=>?_) (fun h=>?_) <;> try (exfalso;omega))|(with_reducible refine aY aI hN ?_)|(with_reducible refine And.intro ?_ ?_)|(refine ah ?_;omega)|(exact aX hN (by decide))))
 · have hw : (((gi ys j).toNat : Nat) : Int) ∈ xs:=by
    have h' : gb (mks g.prio.length fun v=>(v : Int) ∈ xs) (gi ys j).toNat = true:=by assumption
    rw [fb _ (by omega)] at h'
    exact jF.1 h'
   (refine ⟨j + 1,⟨?_,?_⟩,bB hX hN [] ?_ ?_⟩;(try any_goals dsimp only);(repeat' (first|(with_reducible first|exact clZ|refine bw ?_ ?_|refine bz ?_ ?_|rfl|refine suZ ?_)|refine bA rfl ?_ ?_|exact aP hN _ rfl rfl rfl|exact aQ hN _ rfl rfl rfl|exact ax hN _ rfl rfl rfl (Or.inr rfl)|(refine aR hN _ rfl rfl (by first|exact Or.inr rfl|exact Or.inl rfl) ?_;first|exact aC _|exact aD _)|refine ay hN rfl ?_|refine az hN rfl rfl ?_|exact au hN _ rfl rfl|exact aA hN rfl rfl rfl rfl|(with_reducible first|refine stZ ?_|refine aO ?_)));(try (any_goals (first|(with_reducible rfl)|(refine ah ?_;omega)))))
   rw [g9 (by omega)]
   refine bR fun v hv=>?_
   by_cases e : v = (gi ys j).toNat
   · rw [if_pos e,if_pos]
     exact ⟨e ▸ hw,j,by omega,by omega⟩
   · rw [if_neg e]
     by_cases h1 : (v : Int) ∈ xs ∧ ∃ i,i < j ∧ gi ys i = v
     · rw [if_pos h1,if_pos ⟨h1.1,let ⟨i,a,b⟩:=h1.2;⟨i,by omega,b⟩⟩]
     · rw [if_neg h1,if_neg fun h2=>h1 ⟨h2.1,let ⟨i,a,b⟩:=h2.2;⟨i,by
        rcases Nat.lt_or_ge i j with h'|h'
        · exact h'
        · exact absurd (show v = (gi ys j).toNat by rw [show j = i by omega,b,Int.toNat_natCast]) e,b⟩⟩]
 · have hw : ¬ (((gi ys j).toNat : Nat) : Int) ∈ xs:=by
    have h' : gb (mks g.prio.length fun v=>(v : Int) ∈ xs) (gi ys j).toNat = false:=by assumption
    rw [fb _ (by omega)] at h'
    exact fun h=>by rw [bc h] at h';cases h'
   (refine ⟨j + 1,⟨?_,?_⟩,bB hX hN [] ?_ ?_⟩;(try any_goals dsimp only);(repeat' (first|(with_reducible first|exact clZ|refine bw ?_ ?_|refine bz ?_ ?_|rfl|refine suZ ?_)|refine bA rfl ?_ ?_|exact aP hN _ rfl rfl rfl|exact aQ hN _ rfl rfl rfl|exact ax hN _ rfl rfl rfl (Or.inr rfl)|(refine aR hN _ rfl rfl (by first|exact Or.inr rfl|exact Or.inl rfl) ?_;first|exact aC _|exact aD _)|refine ay hN rfl ?_|refine az hN rfl rfl ?_|exact au hN _ rfl rfl|exact aA hN rfl rfl rfl rfl|(with_reducible first|refine stZ ?_|refine aO ?_)));(try (any_goals (first|(with_reducible rfl)|(refine ah ?_;omega)))))
   refine bR fun v hv=>?_
   by_cases h1 : (v : Int) ∈ xs ∧ ∃ i,i < j ∧ gi ys i = v
   · rw [if_pos h1,if_pos ⟨h1.1,let ⟨i,a,b⟩:=h1.2;⟨i,by omega,b⟩⟩]
   · rw [if_neg h1,if_neg fun h2=>h1 ⟨h2.1,let ⟨i,a,b⟩:=h2.2;⟨i,by
      rcases Nat.lt_or_ge i j with h'|h'
      · exact h'
      · exact absurd (show (((gi ys j).toNat : Nat) : Int) ∈ xs by rw [show j = i by omega,b,Int.toNat_natCast];exact h2.1) hw,b⟩⟩]
 have hr0 : (tab g.prio.length fun v=>@ite Int ((v : Int) ∈ xs ∧ ∃ i,i < j ∧ gi ys i = v) (Classical.propDecidable _) 0 (-1)) = tab g.prio.length (rkV (pgA g) who (fun v=>(v : Int) ∈ xs) (fun v=>(v : Int) ∈ ys) 0):=by
  refine bR fun v hv=>?_
  have e : ((v : Int) ∈ xs ∧ ∃ i,i < j ∧ gi ys i = v) ↔ ((v : Int) ∈ xs ∧ (v : Int) ∈ ys):=by
   rw [show j = ys.length by omega]
   exact and_congr_right fun _=>jJ.symm
  have e2 : rkV (pgA g) who (fun v=>(v : Int) ∈ xs) (fun v=>(v : Int) ∈ ys) 0 v = @ite Int ((v : Int) ∈ xs ∧ (v : Int) ∈ ys) (Classical.propDecidable _) 0 (-1):=rfl
  rw [e2]
  by_cases h1 : (v : Int) ∈ xs ∧ (v : Int) ∈ ys
  · rw [if_pos (e.2 h1),if_pos h1]
  · rw [if_neg fun h=>h1 (e.1 h),if_neg h1]
 rw [hr0]
 clear hr0 htl2
 (refine bT (fun (r : Nat)=>(tmL [(14,.c (.int .i64 r)),(10,.sl (ν 2)),(9,.sl (ν 1)),(1,.c (.int .i64 who)),(2,.c (.I xs)),(4,.ad (ν 0) 0)],hpL hp0 ν [.box [.c (.I g.ar.own),.c (.R g.ar.nxt)],.arr 4 .yes (.B (mks g.prio.length fun v=>(v : Int) ∈ xs)),.arr 2 .yes (.I (tab g.prio.length (rkV (pgA g) who (fun v=>(v : Int) ∈ xs) (fun v=>(v : Int) ∈ ys) r)))])) (fun (r : Nat)=>r ≤ num (PG.AttrN (pgA g) who (fun v=>(v : Int) ∈ xs) (fun v=>(v : Int) ∈ ys) r) g.prio.length) (fun (r : Nat)=>g.prio.length - num (PG.AttrN (pgA g) who (fun v=>(v : Int) ∈ xs) (fun v=>(v : Int) ∈ ys) r) g.prio.length) ⟨0,?_,bB hX hN [] ?_ ?_⟩ ?_;(repeat' (first|(with_reducible first|exact clZ|refine bw ?_ ?_|refine bz ?_ ?_|rfl|refine suZ ?_)|refine bA rfl ?_ ?_|exact aP hN _ rfl rfl rfl|exact aQ hN _ rfl rfl rfl|exact ax hN _ rfl rfl rfl (Or.inr rfl)|(refine aR hN _ rfl rfl (by first|exact Or.inr rfl|exact Or.inl rfl) ?_;first|exact aC _|exact aD _)|refine ay hN rfl ?_|refine az hN rfl rfl ?_|exact au hN _ rfl rfl|exact aA hN rfl rfl rfl rfl|(with_reducible first|refine stZ ?_|refine aO ?_)));(try (any_goals (first|(with_reducible rfl)|(refine ah ?_;omega)))))
 intro r hr
 have hnl:=gZ (p:=PG.AttrN (pgA g) who (fun v=>(v : Int) ∈ xs) (fun v=>(v : Int) ∈ ys) r) (k:=g.prio.length)
 have htr:=bY g.prio.length (rkV (pgA g) who (fun v=>(v : Int) ∈ xs) (fun v=>(v : Int) ∈ ys) r)
 (repeat' (first|(with_reducible first|(apply hK;clear hK K)|refine stZ ?_|refine aT rfl ?_|((first|apply ae|apply af);clear ae X af Y))|(with_reducible refine aW ?_;first|refine aU rfl ?_|refine aV rfl ?_)|(with_reducible refine bv ?_;first|refine bd rfl rfl rfl rfl ?_|refine bt rfl rfl rfl ?_|refine bI rfl rfl rfl rfl ?_)|((first|(with_reducible first|((first|refine aZ ?_|refine a8 ?_);intro K hK)|(refine aE ?_;intro X Y ae af)|refine aF ?_)|(with_reducible refine bv ?_;refine be rfl rfl fun X Y ae af=>?_));simp (disch:=first|decide|omega|(simp only [List.length_cons,List.length_nil];omega)) only [go_sem,↓aj hN,ak hN,reduceIte,reduceCtorEq,Nat.reduceAdd,Nat.reduceLT,Nat.reduceLeDiff,Nat.reduceEqDiff,Nat.reduceSub])|(with_reducible refine And.intro (fun h=>?_) (fun h=>?_) <;> try (exfalso;omega))|(with_reducible refine aY aI hN ?_)|(with_reducible refine And.intro ?_ ?_)|(refine ah ?_;omega)|(exact aX hN (by decide))))
 (refine bT (fun (j : Nat)=>(tmL [(55,.c (.int .i64 j)),(54,.c (.int .i64 xs.length)),(53,.c (.I xs)),(15,.sl (ν 3)),(14,.c (.int .i64 r)),(10,.sl (ν 2)),(9,.sl (ν 1)),(1,.c (.int .i64 who)),(2,.c (.I xs)),(4,.ad (ν 0) 0)],hpL hp0 ν [.box [.c (.I g.ar.own),.c (.R g.ar.nxt)],.arr 4 .yes (.B (mks g.prio.length fun v=>(v : Int) ∈ xs)),.arr 2 .yes (.I (tab g.prio.length (rkV (pgA g) who (fun v=>(v : Int) ∈ xs) (fun v=>(v : Int) ∈ ys) r))),.arr 2 .yes (.I (dB (fun x=>¬ 0 ≤ rkV (pgA g) who (fun v=>(v : Int) ∈ xs) (fun v=>(v : Int) ∈ ys) r x.toNat ∧ PG.AttrN (pgA g) who (fun v=>(v : Int) ∈ xs) (fun v=>(v : Int) ∈ ys) (r + 1) x.toNat) xs j))])) (fun (j : Nat)=>j ≤ xs.length) (fun (j : Nat)=>xs.length - j) ⟨0,?_,bB hX hN [] ?_ ?_⟩ ?_;(repeat' (first|(with_reducible first|exact clZ|refine bw ?_ ?_|refine bz ?_ ?_|rfl|refine suZ ?_)|refine bA rfl ?_ ?_|exact aP hN _ rfl rfl rfl|exact aQ hN _ rfl rfl rfl|exact ax hN _ rfl rfl rfl (Or.inr rfl)|(refine aR hN _ rfl rfl (by first|exact Or.inr rfl|exact Or.inl rfl) ?_;first|exact aC _|exact aD _)|refine ay hN rfl ?_|refine az hN rfl rfl ?_|exact au hN _ rfl rfl|exact aA hN rfl rfl rfl rfl|(with_reducible first|refine stZ ?_|refine aO ?_)));(try (any_goals (first|(with_reducible rfl)|(refine ah ?_;omega)))))
 · rfl
 intro j hj
 have hxj:=hxb j
 have hfl:=fg (fun x=>¬ 0 ≤ rkV (pgA g) who (fun v=>(v : Int) ∈ xs) (fun v=>(v : Int) ∈ ys) r x.toNat ∧ PG.AttrN (pgA g) who (fun v=>(v : Int) ∈ xs) (fun v=>(v : Int) ∈ ys) (r + 1) x.toNat) xs j
 rcases Nat.lt_or_ge j xs.length with hjl|hjl
 · obtain ⟨u,hu,hun⟩ : ∃ u : Nat,gi xs j = u ∧ u < g.prio.length:=⟨(gi xs j).toNat,by omega,by omega⟩
   have hp:=ou g.ar ha who (mks g.prio.length fun v=>(v : Int) ∈ xs) (by omega) (tab g.prio.length (rkV (pgA g) who (fun v=>(v : Int) ∈ xs) (fun v=>(v : Int) ∈ ys) r)) (by omega) u (by omega)
   rw [← hu] at hp
   have hut : (gi xs j).toNat = u:=by rw [hu,Int.toNat_natCast]
   have hum : (u : Int) ∈ xs:=hu ▸ cy hjl
   (repeat' (first|(with_reducible first|(apply hK;clear hK K)|refine stZ ?_|refine aT rfl ?_|((first|apply ae|apply af);clear ae X af Y))|(with_reducible refine aW ?_;first|refine aU rfl ?_|refine aV rfl ?_)|(with_reducible refine bv ?_;first|refine bd rfl rfl rfl rfl ?_|refine bt rfl rfl rfl ?_|refine bI rfl rfl rfl rfl ?_)|((first|(with_reducible first|((first|refine aZ ?_|refine a8 ?_);intro K hK)|(refine aE ?_;intro X Y ae af)|refine aF ?_)|(with_reducible refine bv ?_;refine be rfl rfl fun X Y ae af=>?_));simp (disch:=first|decide|omega|(simp only [List.length_cons,List.length_nil];omega)) only [go_sem,↓aj hN,ak hN,reduceIte,reduceCtorEq,Nat.reduceAdd,Nat.reduceLT,Nat.reduceLeDiff,Nat.reduceEqDiff,Nat.reduceSub])|(with_reducible refine And.intro (fun h=>?_) (fun h=>?_) <;> try (exfalso;omega))|(with_reducible refine aY aI hN ?_)|(refine aB (hp) ?_ rfl (fun _=>rfl) ?_;focus ((repeat' (first|(with_reducible first|exact aq|refine am ?_ ?_|exact bH _|refine aM ?_|exact aL _|exact bj _ _|refine bi ?_|exact aJ _)|exact aN hN rfl rfl|(refine bh hN rfl ?_;first|exact aC _|exact aD _)|exact aK rfl rfl rfl));done))|(with_reducible first|exact aq|refine am ?_ ?_|exact bH _|refine aM ?_|exact aL _|exact bj _ _|refine bi ?_|exact aJ _)|exact aN hN rfl rfl|(refine bh hN rfl ?_;first|exact aC _|exact aD _)|exact aK rfl rfl rfl|(simp only [ba,List.map_nil])|(with_reducible refine bu ?_)|(with_reducible refine And.intro ?_ ?_)|(refine ah ?_;omega)|(exact aX hN (by decide))))
   · have h1 : rkV (pgA g) who (fun v=>(v : Int) ∈ xs) (fun v=>(v : Int) ∈ ys) r (gi xs j).toNat < 0:=by assumption
     have h2 : uq g.ar who (mks g.prio.length fun v=>(v : Int) ∈ xs) (tab g.prio.length (rkV (pgA g) who (fun v=>(v : Int) ∈ xs) (fun v=>(v : Int) ∈ ys) r)) u:=by assumption
     rw [hut] at h1
     (refine ⟨j + 1,⟨?_,?_⟩,bB hX hN [(3,5)] ?_ ?_⟩;(try any_goals dsimp only);(repeat' (first|(with_reducible first|exact clZ|refine bw ?_ ?_|refine bz ?_ ?_|rfl|refine suZ ?_)|refine bA rfl ?_ ?_|exact aP hN _ rfl rfl rfl|exact aQ hN _ rfl rfl rfl|exact ax hN _ rfl rfl rfl (Or.inr rfl)|(refine aR hN _ rfl rfl (by first|exact Or.inr rfl|exact Or.inl rfl) ?_;first|exact aC _|exact aD _)|refine ay hN rfl ?_|refine az hN rfl rfl ?_|exact au hN _ rfl rfl|exact aA hN rfl rfl rfl rfl|(with_reducible first|refine stZ ?_|refine aO ?_)));(try (any_goals (first|(with_reducible rfl)|(refine ah ?_;omega)))))
     refine c9 ?_
     rw [hut]
     exact ⟨by omega,(pq hg hun hum hxb (by omega)).1 h2⟩
   · have h1 : rkV (pgA g) who (fun v=>(v : Int) ∈ xs) (fun v=>(v : Int) ∈ ys) r (gi xs j).toNat < 0:=by assumption
     have h2 : ¬ uq g.ar who (mks g.prio.length fun v=>(v : Int) ∈ xs) (tab g.prio.length (rkV (pgA g) who (fun v=>(v : Int) ∈ xs) (fun v=>(v : Int) ∈ ys) r)) u:=by assumption
     rw [hut] at h1
     (refine ⟨j + 1,⟨?_,?_⟩,bB hX hN [] ?_ ?_⟩;(try any_goals dsimp only);(repeat' (first|(with_reducible first|exact clZ|refine bw ?_ ?_|refine bz ?_ ?_|rfl|refine suZ ?_)|refine bA rfl ?_ ?_|exact aP hN _ rfl rfl rfl|exact aQ hN _ rfl rfl rfl|exact ax hN _ rfl rfl rfl (Or.inr rfl)|(refine aR hN _ rfl rfl (by first|exact Or.inr rfl|exact Or.inl rfl) ?_;first|exact aC _|exact aD _)|refine ay hN rfl ?_|refine az hN rfl rfl ?_|exact au hN _ rfl rfl|exact aA hN rfl rfl rfl rfl|(with_reducible first|refine stZ ?_|refine aO ?_)));(try (any_goals (first|(with_reducible rfl)|(refine ah ?_;omega)))))
     refine dl ?_
     rw [hut]
     exact fun h=>h2 ((pq hg hun hum hxb (by omega)).2 h.2)
   · have h1 : ¬ rkV (pgA g) who (fun v=>(v : Int) ∈ xs) (fun v=>(v : Int) ∈ ys) r (gi xs j).toNat < 0:=by assumption
     rw [hut] at h1
     (refine ⟨j + 1,⟨?_,?_⟩,bB hX hN [] ?_ ?_⟩;(try any_goals dsimp only);(repeat' (first|(with_reducible first|exact clZ|refine bw ?_ ?_|refine bz ?_ ?_|rfl|refine suZ ?_)|refine bA rfl ?_ ?_|exact aP hN _ rfl rfl rfl|exact aQ hN _ rfl rfl rfl|exact ax hN _ rfl rfl rfl (Or.inr rfl)|(refine aR hN _ rfl rfl (by first|exact Or.inr rfl|exact Or.inl rfl) ?_;first|exact aC _|exact aD _)|refine ay hN rfl ?_|refine az hN rfl rfl ?_|exact au hN _ rfl rfl|exact aA hN rfl rfl rfl rfl|(with_reducible first|refine stZ ?_|refine aO ?_)));(try (any_goals (first|(with_reducible rfl)|(refine ah ?_;omega)))))
     refine dl ?_
     rw [hut]
     exact fun h=>h.1 (by omega)
 obtain rfl : j = xs.length:=by omega
 have hfm : ∀ x,x ∈ dB (fun x=>¬ 0 ≤ rkV (pgA g) who (fun v=>(v : Int) ∈ xs) (fun v=>(v : Int) ∈ ys) r x.toNat ∧ PG.AttrN (pgA g) who (fun v=>(v : Int) ∈ xs) (fun v=>(v : Int) ∈ ys) (r + 1) x.toNat) xs xs.length ↔ x ∈ xs ∧ ¬ 0 ≤ rkV (pgA g) who (fun v=>(v : Int) ∈ xs) (fun v=>(v : Int) ∈ ys) r x.toNat ∧ PG.AttrN (pgA g) who (fun v=>(v : Int) ∈ xs) (fun v=>(v : Int) ∈ ys) (r + 1) x.toNat:=fun x=>by
  rw [k9 _ (Nat.le_refl _),jJ]
  exact ⟨fun ⟨t,a,b,c⟩=>⟨⟨t,a,b⟩,c⟩,fun ⟨⟨t,a,b⟩,c⟩=>⟨t,a,b,c⟩⟩
 clear hxj
 generalize dB (fun x=>¬ 0 ≤ rkV (pgA g) who (fun v=>(v : Int) ∈ xs) (fun v=>(v : Int) ∈ ys) r x.toNat ∧ PG.AttrN (pgA g) who (fun v=>(v : Int) ∈ xs) (fun v=>(v : Int) ∈ ys) (r + 1) x.toNat) xs xs.length = fnd at *
 have hfb : Bnd fnd g.prio.length:=fun t ht=>by
  obtain ⟨t',h1,h2⟩:=ck ((hfm _).1 (cy ht)).1
  rw [← h2];exact hxb t' h1
 (repeat' (first|(with_reducible first|(apply hK;clear hK K)|refine stZ ?_|refine aT rfl ?_|((first|apply ae|apply af);clear ae X af Y))|(with_reducible refine aW ?_;first|refine aU rfl ?_|refine aV rfl ?_)|(with_reducible refine bv ?_;first|refine bd rfl rfl rfl rfl ?_|refine bt rfl rfl rfl ?_|refine bI rfl rfl rfl rfl ?_)|((first|(with_reducible first|((first|refine aZ ?_|refine a8 ?_);intro K hK)|(refine aE ?_;intro X Y ae af)|refine aF ?_)|(with_reducible refine bv ?_;refine be rfl rfl fun X Y ae af=>?_));simp (disch:=first|decide|omega|(simp only [List.length_cons,List.length_nil];omega)) only [go_sem,↓aj hN,ak hN,reduceIte,reduceCtorEq,Nat.reduceAdd,Nat.reduceLT,Nat.reduceLeDiff,Nat.reduceEqDiff,Nat.reduceSub])|(with_reducible refine And.intro (fun h=>?_) (fun h=>?_) <;> try (exfalso;omega))|(with_reducible refine aY aI hN ?_)|(with_reducible refine And.intro ?_ ?_)|(refine ah ?_;omega)|(exact aX hN (by decide))))
 · have hf0 : fnd = []:=List.eq_nil_of_length_eq_zero (by omega)
   have hst : ∀ v,PG.AttrN (pgA g) who (fun v=>(v : Int) ∈ xs) (fun v=>(v : Int) ∈ ys) (r + 1) v → PG.AttrN (pgA g) who (fun v=>(v : Int) ∈ xs) (fun v=>(v : Int) ∈ ys) r v:=fun v hv=>by
    rcases Classical.em (PG.AttrN (pgA g) who (fun v=>(v : Int) ∈ xs) (fun v=>(v : Int) ∈ ys) r v) with h|h
    · exact h
    · have : (v : Int) ∈ fnd:=(hfm v).2 ⟨PG.attrN_in hv,fun h'=>h ((fN r v).1 h'),hv⟩
      rw [hf0] at this;cases this
   (refine cR hN (i:=2) (.inr rfl) (by first|rfl|(simp (disch:=first|decide|omega|(simp only [List.length_cons,List.length_nil];omega)) only [bG,bK,bN,bO,go_sem,beq_self_eq_true,↓ao,↓aj hN,ak hN,reduceIte,reduceCtorEq,Nat.reduceAdd,Nat.reduceLT,Nat.reduceLeDiff,Nat.reduceEqDiff,Nat.reduceSub];rfl)) rfl ?_ rfl)
   exact congrArg C.I (bR fun v _=>(sA hst g.prio.length (by omega) v).symm)
 have hfne : fnd.length ≠ 0:=uu (by assumption)
 (refine bT (fun (i : Nat)=>(tmL [(83,.c (.int .i64 i)),(82,.c (.int .i64 fnd.length)),(81,.sl (ν 3)),(14,.c (.int .i64 r)),(10,.sl (ν 2)),(9,.sl (ν 1)),(1,.c (.int .i64 who)),(2,.c (.I xs)),(4,.ad (ν 0) 0)],hpL hp0 ν [.box [.c (.I g.ar.own),.c (.R g.ar.nxt)],.arr 4 .yes (.B (mks g.prio.length fun v=>(v : Int) ∈ xs)),.arr 2 .yes (.I (tab g.prio.length fun v=>@ite Int (∃ t,t < i ∧ gi fnd t = v) (Classical.propDecidable _) ((r : Int) + 1) (rkV (pgA g) who (fun v=>(v : Int) ∈ xs) (fun v=>(v : Int) ∈ ys) r v))),.arr 2 .yes (.I fnd)])) (fun (i : Nat)=>i ≤ fnd.length) (fun (i : Nat)=>fnd.length - i) ⟨0,?_,bB hX hN [] ?_ ?_⟩ ?_;(repeat' (first|(with_reducible first|exact clZ|refine bw ?_ ?_|refine bz ?_ ?_|rfl|refine suZ ?_)|refine bA rfl ?_ ?_|exact aP hN _ rfl rfl rfl|exact aQ hN _ rfl rfl rfl|exact ax hN _ rfl rfl rfl (Or.inr rfl)|(refine aR hN _ rfl rfl (by first|exact Or.inr rfl|exact Or.inl rfl) ?_;first|exact aC _|exact aD _)|refine ay hN rfl ?_|refine az hN rfl rfl ?_|exact au hN _ rfl rfl|exact aA hN rfl rfl rfl rfl|(with_reducible first|refine stZ ?_|refine aO ?_)));(try (any_goals (first|(with_reducible rfl)|(refine ah ?_;omega)))))
 · exact bR fun v hv=>if_neg (by rintro ⟨t,h,_⟩;omega)
 intro i hi
 have hfi:=hfb i
 have htl3:=bY g.prio.length fun v=>@ite Int (∃ t,t < i ∧ gi fnd t = v) (Classical.propDecidable _) ((r : Int) + 1) (rkV (pgA g) who (fun v=>(v : Int) ∈ xs) (fun v=>(v : Int) ∈ ys) r v)
 (repeat' (first|(with_reducible first|(apply hK;clear hK K)|refine stZ ?_|refine aT rfl ?_|((first|apply ae|apply af);clear ae X af Y))|(with_reducible refine aW ?_;first|refine aU rfl ?_|refine aV rfl ?_)|(with_reducible refine bv ?_;first|refine bd rfl rfl rfl rfl ?_|refine bt rfl rfl rfl ?_|refine bI rfl rfl rfl rfl ?_)|((first|(with_reducible first|((first|refine aZ ?_|refine a8 ?_);intro K hK)|(refine aE ?_;intro X Y ae af)|refine aF ?_)|(with_reducible refine bv ?_;refine be rfl rfl fun X Y ae af=>?_));simp (disch:=first|decide|omega|(simp only [List.length_cons,List.length_nil];omega)) only [go_sem,↓aj hN,ak hN,reduceIte,reduceCtorEq,Nat.reduceAdd,Nat.reduceLT,Nat.reduceLeDiff,Nat.reduceEqDiff,Nat.reduceSub])|(with_reducible refine And.intro (fun h=>?_) (fun h=>?_) <;> try (exfalso;omega))|(with_reducible refine aY aI hN ?_)|(with_reducible refine And.intro ?_ ?_)|(refine ah ?_;omega)|(exact aX hN (by decide))))
 · (refine ⟨i + 1,⟨?_,?_⟩,bB hX hN [] ?_ ?_⟩;(try any_goals dsimp only);(repeat' (first|(with_reducible first|exact clZ|refine bw ?_ ?_|refine bz ?_ ?_|rfl|refine suZ ?_)|refine bA rfl ?_ ?_|exact aP hN _ rfl rfl rfl|exact aQ hN _ rfl rfl rfl|exact ax hN _ rfl rfl rfl (Or.inr rfl)|(refine aR hN _ rfl rfl (by first|exact Or.inr rfl|exact Or.inl rfl) ?_;first|exact aC _|exact aD _)|refine ay hN rfl ?_|refine az hN rfl rfl ?_|exact au hN _ rfl rfl|exact aA hN rfl rfl rfl rfl|(with_reducible first|refine stZ ?_|refine aO ?_)));(try (any_goals (first|(with_reducible rfl)|(refine ah ?_;omega)))))
   rw [g9 (by omega)]
   refine bR fun v hv=>?_
   by_cases e : v = (gi fnd i).toNat
   · rw [if_pos e,if_pos ⟨i,by omega,by omega⟩]
   · rw [if_neg e]
     by_cases h1 : ∃ t,t < i ∧ gi fnd t = v
     · rw [if_pos h1,if_pos (let ⟨t,a,b⟩:=h1;⟨t,by omega,b⟩)]
     · rw [if_neg h1,if_neg fun h2=>h1 (let ⟨t,a,b⟩:=h2;⟨t,by
        rcases Nat.lt_or_ge t i with h'|h'
        · exact h'
        · exact absurd (show v = (gi fnd i).toNat by rw [show i = t by omega,b,Int.toNat_natCast]) e,b⟩)]
 · obtain rfl : i = fnd.length:=by omega
   have hm0:=(hfm _).1 (cy (show 0 < fnd.length by omega))
   have hb0:=hfb 0 (by omega)
   have hnum:=mW (P:=pgA g) (who:=who) (S:=fun v=>(v : Int) ∈ xs) (T:=fun v=>(v : Int) ∈ ys) (n:=g.prio.length) (k:=r) (v:=(gi fnd 0).toNat) (by omega) hm0.2.2 fun h=>hm0.2.1 ((fN r _).2 h)
   have hnl2:=gZ (p:=PG.AttrN (pgA g) who (fun v=>(v : Int) ∈ xs) (fun v=>(v : Int) ∈ ys) (r + 1)) (k:=g.prio.length)
   (refine ⟨r + 1,⟨?_,?_⟩,bB hX hN [] ?_ ?_⟩;(try any_goals dsimp only);(repeat' (first|(with_reducible first|exact clZ|refine bw ?_ ?_|refine bz ?_ ?_|rfl|refine suZ ?_)|refine bA rfl ?_ ?_|exact aP hN _ rfl rfl rfl|exact aQ hN _ rfl rfl rfl|exact ax hN _ rfl rfl rfl (Or.inr rfl)|(refine aR hN _ rfl rfl (by first|exact Or.inr rfl|exact Or.inl rfl) ?_;first|exact aC _|exact aD _)|refine ay hN rfl ?_|refine az hN rfl rfl ?_|exact au hN _ rfl rfl|exact aA hN rfl rfl rfl rfl|(with_reducible first|refine stZ ?_|refine aO ?_)));(try (any_goals (first|(with_reducible rfl)|(refine ah ?_;omega)))))
   refine bR fun v hv=>?_
   by_cases h0 : 0 ≤ rkV (pgA g) who (fun v=>(v : Int) ∈ xs) (fun v=>(v : Int) ∈ ys) r v
   · rw [pp h0,if_neg]
     rintro ⟨t,a,b⟩
     have:=((hfm _).1 (cy a)).2.1
     rw [b,Int.toNat_natCast] at this
     exact this h0
   · by_cases h1 : PG.AttrN (pgA g) who (fun v=>(v : Int) ∈ xs) (fun v=>(v : Int) ∈ ys) (r + 1) v
     · rw [ut h0 h1,if_pos]
       exact ck ((hfm v).2 ⟨PG.attrN_in h1,by rw [Int.toNat_natCast];exact h0,by rw [Int.toNat_natCast];exact h1⟩)
     · rw [mV h0 h1,if_neg]
       rintro ⟨t,a,b⟩
       have:=((hfm _).1 (cy a)).2.2
       rw [b,Int.toNat_natCast] at this
       exact h1 this
end Go.Proofs.Ythjamlponejffaa
