/-
  Attraction by ranks: the program's walks.
-/
import Derived.Test.YthjamlponejffaaZwAt2
namespace Go.Proofs.Ythjamlponejffaa
set_option linter.unusedVariables false
set_option linter.unusedSimpArgs false
open Go.RowKit
attribute [local irreducible] au ci Aw Le
theorem kD {P : PG.Gm} {who : Int} {S T : Nat → Prop} {n k v : Nat} (hv : v < n) (h : PG.AttrN P who S T (k + 1) v) (hn : ¬ PG.AttrN P who S T k v) : num (PG.AttrN P who S T k) n < num (PG.AttrN P who S T (k + 1)) n :=
 jl (fun t _ h=>PG.attrN_succ h) ⟨v,hv,h,hn⟩
theorem qy {n : Nat} (h : (((n : Nat) : Int) == 0) = false) : n ≠ 0:=by
 have : ((n : Nat) : Int) ≠ 0:=by simpa using h
 omega
noncomputable def rkF (g : Pa) (who : Int) (xs ys : List Int) : List Int:=tab g.prio.length (rkV (pgA g) who (fun v=>(v : Int) ∈ xs) (fun v=>(v : Int) ∈ ys) g.prio.length)
set_option maxHeartbeats 2000000 in
theorem ne (g : Pa) (hg : PaOk g) (who : Int) (xs ys : List Int) (hx : ck xs g.prio.length) (hy : ck ys g.prio.length) : au Try.prog 121 [arA g.ar,.c (.int .i64 who),.c (.I xs),.c (.I ys)] [.arr 2 .yes (.I (rkF g who xs ys))] (fun ns=>.sl (ns.getD 0 0)):=by
 have ha:=hg.ar
 have hl:=hg.len
 have hle:=ha.le
 have hxl:=f7 hx (by omega)
 have hyl:=f7 hy (by omega)
 have hxb:=hx.bnd
 have hyb:=hy.bnd
 have hm:=oK g.ar xs (by rw [← hl];exact hxb) (by omega) (by omega)
 rw [← hl] at hm
 have hwl:=bv g.prio.length fun v=>(v : Int) ∈ xs
 (refine bu ba Try.func121 rfl rfl (by kernel_rfl) fun hp0 ν hX hN=>?_;simp only [cy,Nat.reduceAdd])
 (repeat' (first|(with_reducible first|(apply hK;clear hK K)|refine stZ ?_|refine bc rfl ?_|((first|apply ae|apply af);clear ae X af Y))|(with_reducible refine bf ?_;first|refine bd rfl ?_|refine be rfl ?_)|(with_reducible refine bI ?_;first|refine bp rfl rfl rfl rfl ?_|refine bH rfl rfl rfl ?_|refine bY rfl rfl rfl rfl ?_)|((first|(with_reducible first|((first|refine bi ?_|refine bj ?_);intro K hK)|(refine aN ?_;intro X Y ae af)|refine aO ?_)|(with_reducible refine bI ?_;refine br rfl rfl fun X Y ae af=>?_));simp (disch:=first|decide|omega|(simp only [List.length_cons,List.length_nil];omega)) only [go_sem,↓am hN,ao hN,reduceIte,reduceCtorEq,Nat.reduceAdd,Nat.reduceLT,Nat.reduceLeDiff,Nat.reduceEqDiff,Nat.reduceSub])|(with_reducible refine And.intro (fun h=>?_) (fun h=>?_) <;> try (exfalso;omega))|(with_reducible refine bh ba hN ?_)|(refine bo (hm) ?_ rfl (fun _=>rfl) ?_;focus ((repeat' (first|(with_reducible first|exact az|refine aw ?_ ?_|exact bX _|refine aY ?_|exact a8 _|exact bA _ _|refine bz ?_|exact aW _)|exact aZ hN rfl rfl|(refine bw hN rfl ?_;first|exact aJ _|exact aK _)|exact aX rfl rfl rfl));done))|(with_reducible first|exact az|refine aw ?_ ?_|exact bX _|refine aY ?_|exact a8 _|exact bA _ _|refine bz ?_|exact aW _)|exact aZ hN rfl rfl|(refine bw hN rfl ?_;first|exact aJ _|exact aK _)|exact aX rfl rfl rfl|(simp only [aM,List.map_nil])|(with_reducible refine b8 ?_)|(with_reducible refine And.intro ?_ ?_)|(refine ak ?_;omega)|(exact bg hN (by decide))))
 (refine ce (fun (k : Nat)=>(tmL [(29,.c (.int .i64 k)),(28,.c (.int .i64 g.prio.length)),(10,.sl (ν 2)),(9,.sl (ν 1)),(1,.c (.int .i64 who)),(2,.c (.I xs)),(3,.c (.I ys)),(4,.ad (ν 0) 0)],hpL hp0 ν [.box [.c (.I g.ar.own),.c (.R g.ar.nxt)],.arr 4 .yes (.B (mks g.prio.length fun v=>(v : Int) ∈ xs)),.arr 2 .yes (.I (tab g.prio.length fun v=>if v < k then -1 else 0))])) (fun (k : Nat)=>k ≤ g.prio.length) (fun (k : Nat)=>g.prio.length - k) ⟨0,?_,bC hX hN [] ?_ ?_⟩ ?_;(repeat' (first|(with_reducible first|exact clZ|refine bD ?_ ?_|refine bE ?_ ?_|rfl|refine suZ ?_)|refine bF rfl ?_ ?_|exact aR hN _ rfl rfl rfl|exact aS hN _ rfl rfl rfl|exact aB hN _ rfl rfl rfl (Or.inr rfl)|(refine aT hN _ rfl rfl (by first|exact Or.inr rfl|exact Or.inl rfl) ?_;first|exact aJ _|exact aK _)|refine aC hN rfl ?_|refine aD hN rfl rfl ?_|exact aA hN _ rfl rfl|exact aE hN rfl rfl rfl rfl|(with_reducible first|refine stZ ?_|refine aQ ?_)));(try (any_goals (first|(with_reducible rfl)|(refine ak ?_;omega)))))
 · rw [← hl];exact ks _ _
 intro k hk
 have htl:=cr g.prio.length fun v=>if v < k then (-1 : Int) else 0
 (repeat' (first|(with_reducible first|(apply hK;clear hK K)|refine stZ ?_|refine bc rfl ?_|((first|apply ae|apply af);clear ae X af Y))|(with_reducible refine bf ?_;first|refine bd rfl ?_|refine be rfl ?_)|(with_reducible refine bI ?_;first|refine bp rfl rfl rfl rfl ?_|refine bH rfl rfl rfl ?_|refine bY rfl rfl rfl rfl ?_)|((first|(with_reducible first|((first|refine bi ?_|refine bj ?_);intro K hK)|(refine aN ?_;intro X Y ae af)|refine aO ?_)|(with_reducible refine bI ?_;refine br rfl rfl fun X Y ae af=>?_));simp (disch:=first|decide|omega|(simp only [List.length_cons,List.length_nil];omega)) only [go_sem,↓am hN,ao hN,reduceIte,reduceCtorEq,Nat.reduceAdd,Nat.reduceLT,Nat.reduceLeDiff,Nat.reduceEqDiff,Nat.reduceSub])|(with_reducible refine And.intro (fun h=>?_) (fun h=>?_) <;> try (exfalso;omega))|(with_reducible refine bh ba hN ?_)|(with_reducible refine And.intro ?_ ?_)|(refine ak ?_;omega)|(exact bg hN (by decide))))
 · (refine ⟨k + 1,⟨?_,?_⟩,bC hX hN [] ?_ ?_⟩;(try any_goals dsimp only);(repeat' (first|(with_reducible first|exact clZ|refine bD ?_ ?_|refine bE ?_ ?_|rfl|refine suZ ?_)|refine bF rfl ?_ ?_|exact aR hN _ rfl rfl rfl|exact aS hN _ rfl rfl rfl|exact aB hN _ rfl rfl rfl (Or.inr rfl)|(refine aT hN _ rfl rfl (by first|exact Or.inr rfl|exact Or.inl rfl) ?_;first|exact aJ _|exact aK _)|refine aC hN rfl ?_|refine aD hN rfl rfl ?_|exact aA hN _ rfl rfl|exact aE hN rfl rfl rfl rfl|(with_reducible first|refine stZ ?_|refine aQ ?_)));(try (any_goals (first|(with_reducible rfl)|(refine ak ?_;omega)))))
   exact ma (by omega) rfl
 rw [kt (by omega : g.prio.length ≤ k)]
 (refine ce (fun (j : Nat)=>(tmL [(38,.c (.int .i64 j)),(37,.c (.int .i64 ys.length)),(36,.c (.I ys)),(10,.sl (ν 2)),(9,.sl (ν 1)),(1,.c (.int .i64 who)),(2,.c (.I xs)),(4,.ad (ν 0) 0)],hpL hp0 ν [.box [.c (.I g.ar.own),.c (.R g.ar.nxt)],.arr 4 .yes (.B (mks g.prio.length fun v=>(v : Int) ∈ xs)),.arr 2 .yes (.I (tab g.prio.length fun v=>@ite _ ((v : Int) ∈ xs ∧ ∃ i,i < j ∧ gi ys i = v) (Classical.propDecidable _) 0 (-1)))])) (fun (j : Nat)=>j ≤ ys.length) (fun (j : Nat)=>ys.length - j) ⟨0,?_,bC hX hN [] ?_ ?_⟩ ?_;(repeat' (first|(with_reducible first|exact clZ|refine bD ?_ ?_|refine bE ?_ ?_|rfl|refine suZ ?_)|refine bF rfl ?_ ?_|exact aR hN _ rfl rfl rfl|exact aS hN _ rfl rfl rfl|exact aB hN _ rfl rfl rfl (Or.inr rfl)|(refine aT hN _ rfl rfl (by first|exact Or.inr rfl|exact Or.inl rfl) ?_;first|exact aJ _|exact aK _)|refine aC hN rfl ?_|refine aD hN rfl rfl ?_|exact aA hN _ rfl rfl|exact aE hN rfl rfl rfl rfl|(with_reducible first|refine stZ ?_|refine aQ ?_)));(try (any_goals (first|(with_reducible rfl)|(refine ak ?_;omega)))))
 · exact aU fun v hv=>if_neg (by rintro ⟨_,i,h,_⟩;omega)
 intro j hj
 have hyj:=hyb j
 have htl2:=cr g.prio.length fun v=>@ite Int ((v : Int) ∈ xs ∧ ∃ i,i < j ∧ gi ys i = v) (Classical.propDecidable _) 0 (-1)
 (repeat' (first|(with_reducible first|(apply hK;clear hK K)|refine stZ ?_|refine bc rfl ?_|((first|apply ae|apply af);clear ae X af Y))|(with_reducible refine bf ?_;first|refine bd rfl ?_|refine be rfl ?_)|(with_reducible refine bI ?_;first|refine bp rfl rfl rfl rfl ?_|refine bH rfl rfl rfl ?_|refine bY rfl rfl rfl rfl ?_)|((first|(with_reducible first|((first|refine bi ?_|refine bj ?_);intro K hK)|(refine aN ?_;intro X Y ae af)|refine aO ?_)|(with_reducible refine bI ?_;refine br rfl rfl fun X Y ae af=>?_));simp (disch:=first|decide|omega|(simp only [List.length_cons,List.length_nil];omega)) only [go_sem,↓am hN,ao hN,reduceIte,reduceCtorEq,Nat.reduceAdd,Nat.reduceLT,Nat.reduceLeDiff,Nat.reduceEqDiff,Nat.reduceSub])|(with_reducible refine And.intro (fun h=>?_) (fun h=>?_) <;> try (exfalso;omega))|(with_reducible refine bh ba hN ?_)|(with_reducible refine And.intro ?_ ?_)|(refine ak ?_;omega)|(exact bg hN (by decide))))
 · have hw : (((gi ys j).toNat : Nat) : Int) ∈ xs:=by
    have h' : gb (mks g.prio.length fun v=>(v : Int) ∈ xs) (gi ys j).toNat = true:=by assumption
    rw [dY _ (by omega)] at h'
    exact gL.1 h'
   (refine ⟨j + 1,⟨?_,?_⟩,bC hX hN [] ?_ ?_⟩;(try any_goals dsimp only);(repeat' (first|(with_reducible first|exact clZ|refine bD ?_ ?_|refine bE ?_ ?_|rfl|refine suZ ?_)|refine bF rfl ?_ ?_|exact aR hN _ rfl rfl rfl|exact aS hN _ rfl rfl rfl|exact aB hN _ rfl rfl rfl (Or.inr rfl)|(refine aT hN _ rfl rfl (by first|exact Or.inr rfl|exact Or.inl rfl) ?_;first|exact aJ _|exact aK _)|refine aC hN rfl ?_|refine aD hN rfl rfl ?_|exact aA hN _ rfl rfl|exact aE hN rfl rfl rfl rfl|(with_reducible first|refine stZ ?_|refine aQ ?_)));(try (any_goals (first|(with_reducible rfl)|(refine ak ?_;omega)))))
   rw [fy (by omega)]
   refine aU fun v hv=>?_
   by_cases e : v = (gi ys j).toNat
   · rw [if_pos e,if_pos]
     exact ⟨e ▸ hw,j,by omega,by omega⟩
   · rw [if_neg e]
     by_cases h1 : (v : Int) ∈ xs ∧ ∃ i,i < j ∧ gi ys i = v
     · rw [if_pos h1,if_pos ⟨h1.1,let ⟨i,a,b⟩:=h1.2;⟨i,by omega,b⟩⟩]
     · rw [if_neg h1,if_neg fun h2=>h1 ⟨h2.1,let ⟨i,a,b⟩:=h2.2;⟨i,by
        rcases Nat.lt_or_ge i j with h'|h'
        · exact h'
        · exact absurd (show v = (gi ys j).toNat by rw [show j = i by omega,b,Int.toNat_natCast]) e,b⟩⟩]
 · have hw : ¬ (((gi ys j).toNat : Nat) : Int) ∈ xs:=by
    have h' : gb (mks g.prio.length fun v=>(v : Int) ∈ xs) (gi ys j).toNat = false:=by assumption
    rw [dY _ (by omega)] at h'
    exact fun h=>by rw [aH h] at h';cases h'
   (refine ⟨j + 1,⟨?_,?_⟩,bC hX hN [] ?_ ?_⟩;(try any_goals dsimp only);(repeat' (first|(with_reducible first|exact clZ|refine bD ?_ ?_|refine bE ?_ ?_|rfl|refine suZ ?_)|refine bF rfl ?_ ?_|exact aR hN _ rfl rfl rfl|exact aS hN _ rfl rfl rfl|exact aB hN _ rfl rfl rfl (Or.inr rfl)|(refine aT hN _ rfl rfl (by first|exact Or.inr rfl|exact Or.inl rfl) ?_;first|exact aJ _|exact aK _)|refine aC hN rfl ?_|refine aD hN rfl rfl ?_|exact aA hN _ rfl rfl|exact aE hN rfl rfl rfl rfl|(with_reducible first|refine stZ ?_|refine aQ ?_)));(try (any_goals (first|(with_reducible rfl)|(refine ak ?_;omega)))))
   refine aU fun v hv=>?_
   by_cases h1 : (v : Int) ∈ xs ∧ ∃ i,i < j ∧ gi ys i = v
   · rw [if_pos h1,if_pos ⟨h1.1,let ⟨i,a,b⟩:=h1.2;⟨i,by omega,b⟩⟩]
   · rw [if_neg h1,if_neg fun h2=>h1 ⟨h2.1,let ⟨i,a,b⟩:=h2.2;⟨i,by
      rcases Nat.lt_or_ge i j with h'|h'
      · exact h'
      · exact absurd (show (((gi ys j).toNat : Nat) : Int) ∈ xs by rw [show j = i by omega,b,Int.toNat_natCast];exact h2.1) hw,b⟩⟩]
 have hr0 : (tab g.prio.length fun v=>@ite Int ((v : Int) ∈ xs ∧ ∃ i,i < j ∧ gi ys i = v) (Classical.propDecidable _) 0 (-1)) = tab g.prio.length (rkV (pgA g) who (fun v=>(v : Int) ∈ xs) (fun v=>(v : Int) ∈ ys) 0):=by
  refine aU fun v hv=>?_
  have e : ((v : Int) ∈ xs ∧ ∃ i,i < j ∧ gi ys i = v) ↔ ((v : Int) ∈ xs ∧ (v : Int) ∈ ys):=by
   rw [show j = ys.length by omega]
   exact and_congr_right fun _=>gT.symm
  have e2 : rkV (pgA g) who (fun v=>(v : Int) ∈ xs) (fun v=>(v : Int) ∈ ys) 0 v = @ite Int ((v : Int) ∈ xs ∧ (v : Int) ∈ ys) (Classical.propDecidable _) 0 (-1):=rfl
  rw [e2]
  by_cases h1 : (v : Int) ∈ xs ∧ (v : Int) ∈ ys
  · rw [if_pos (e.2 h1),if_pos h1]
  · rw [if_neg fun h=>h1 (e.1 h),if_neg h1]
 rw [hr0]
 clear hr0 htl2
 (refine ce (fun (r : Nat)=>(tmL [(14,.c (.int .i64 r)),(10,.sl (ν 2)),(9,.sl (ν 1)),(1,.c (.int .i64 who)),(2,.c (.I xs)),(4,.ad (ν 0) 0)],hpL hp0 ν [.box [.c (.I g.ar.own),.c (.R g.ar.nxt)],.arr 4 .yes (.B (mks g.prio.length fun v=>(v : Int) ∈ xs)),.arr 2 .yes (.I (tab g.prio.length (rkV (pgA g) who (fun v=>(v : Int) ∈ xs) (fun v=>(v : Int) ∈ ys) r)))])) (fun (r : Nat)=>r ≤ num (PG.AttrN (pgA g) who (fun v=>(v : Int) ∈ xs) (fun v=>(v : Int) ∈ ys) r) g.prio.length) (fun (r : Nat)=>g.prio.length - num (PG.AttrN (pgA g) who (fun v=>(v : Int) ∈ xs) (fun v=>(v : Int) ∈ ys) r) g.prio.length) ⟨0,?_,bC hX hN [] ?_ ?_⟩ ?_;(repeat' (first|(with_reducible first|exact clZ|refine bD ?_ ?_|refine bE ?_ ?_|rfl|refine suZ ?_)|refine bF rfl ?_ ?_|exact aR hN _ rfl rfl rfl|exact aS hN _ rfl rfl rfl|exact aB hN _ rfl rfl rfl (Or.inr rfl)|(refine aT hN _ rfl rfl (by first|exact Or.inr rfl|exact Or.inl rfl) ?_;first|exact aJ _|exact aK _)|refine aC hN rfl ?_|refine aD hN rfl rfl ?_|exact aA hN _ rfl rfl|exact aE hN rfl rfl rfl rfl|(with_reducible first|refine stZ ?_|refine aQ ?_)));(try (any_goals (first|(with_reducible rfl)|(refine ak ?_;omega)))))
 intro r hr
 have hnl:=f8 (p:=PG.AttrN (pgA g) who (fun v=>(v : Int) ∈ xs) (fun v=>(v : Int) ∈ ys) r) (k:=g.prio.length)
 have htr:=cr g.prio.length (rkV (pgA g) who (fun v=>(v : Int) ∈ xs) (fun v=>(v : Int) ∈ ys) r)
 (repeat' (first|(with_reducible first|(apply hK;clear hK K)|refine stZ ?_|refine bc rfl ?_|((first|apply ae|apply af);clear ae X af Y))|(with_reducible refine bf ?_;first|refine bd rfl ?_|refine be rfl ?_)|(with_reducible refine bI ?_;first|refine bp rfl rfl rfl rfl ?_|refine bH rfl rfl rfl ?_|refine bY rfl rfl rfl rfl ?_)|((first|(with_reducible first|((first|refine bi ?_|refine bj ?_);intro K hK)|(refine aN ?_;intro X Y ae af)|refine aO ?_)|(with_reducible refine bI ?_;refine br rfl rfl fun X Y ae af=>?_));simp (disch:=first|decide|omega|(simp only [List.length_cons,List.length_nil];omega)) only [go_sem,↓am hN,ao hN,reduceIte,reduceCtorEq,Nat.reduceAdd,Nat.reduceLT,Nat.reduceLeDiff,Nat.reduceEqDiff,Nat.reduceSub])|(with_reducible refine And.intro (fun h=>?_) (fun h=>?_) <;> try (exfalso;omega))|(with_reducible refine bh ba hN ?_)|(with_reducible refine And.intro ?_ ?_)|(refine ak ?_;omega)|(exact bg hN (by decide))))
 (refine ce (fun (j : Nat)=>(tmL [(55,.c (.int .i64 j)),(54,.c (.int .i64 xs.length)),(53,.c (.I xs)),(15,.sl (ν 3)),(14,.c (.int .i64 r)),(10,.sl (ν 2)),(9,.sl (ν 1)),(1,.c (.int .i64 who)),(2,.c (.I xs)),(4,.ad (ν 0) 0)],hpL hp0 ν [.box [.c (.I g.ar.own),.c (.R g.ar.nxt)],.arr 4 .yes (.B (mks g.prio.length fun v=>(v : Int) ∈ xs)),.arr 2 .yes (.I (tab g.prio.length (rkV (pgA g) who (fun v=>(v : Int) ∈ xs) (fun v=>(v : Int) ∈ ys) r))),.arr 2 .yes (.I (dC (fun x=>¬ 0 ≤ rkV (pgA g) who (fun v=>(v : Int) ∈ xs) (fun v=>(v : Int) ∈ ys) r x.toNat ∧ PG.AttrN (pgA g) who (fun v=>(v : Int) ∈ xs) (fun v=>(v : Int) ∈ ys) (r + 1) x.toNat) xs j))])) (fun (j : Nat)=>j ≤ xs.length) (fun (j : Nat)=>xs.length - j) ⟨0,?_,bC hX hN [] ?_ ?_⟩ ?_;(repeat' (first|(with_reducible first|exact clZ|refine bD ?_ ?_|refine bE ?_ ?_|rfl|refine suZ ?_)|refine bF rfl ?_ ?_|exact aR hN _ rfl rfl rfl|exact aS hN _ rfl rfl rfl|exact aB hN _ rfl rfl rfl (Or.inr rfl)|(refine aT hN _ rfl rfl (by first|exact Or.inr rfl|exact Or.inl rfl) ?_;first|exact aJ _|exact aK _)|refine aC hN rfl ?_|refine aD hN rfl rfl ?_|exact aA hN _ rfl rfl|exact aE hN rfl rfl rfl rfl|(with_reducible first|refine stZ ?_|refine aQ ?_)));(try (any_goals (first|(with_reducible rfl)|(refine ak ?_;omega)))))
 · rfl
 intro j hj
 have hxj:=hxb j
 have hfl:=gS (fun x=>¬ 0 ≤ rkV (pgA g) who (fun v=>(v : Int) ∈ xs) (fun v=>(v : Int) ∈ ys) r x.toNat ∧ PG.AttrN (pgA g) who (fun v=>(v : Int) ∈ xs) (fun v=>(v : Int) ∈ ys) (r + 1) x.toNat) xs j
 rcases Nat.lt_or_ge j xs.length with hjl|hjl
 · obtain ⟨u,hu,hun⟩ : ∃ u : Nat,gi xs j = u ∧ u < g.prio.length:=⟨(gi xs j).toNat,by omega,by omega⟩
   have hp:=lD g.ar ha who (mks g.prio.length fun v=>(v : Int) ∈ xs) (by omega) (tab g.prio.length (rkV (pgA g) who (fun v=>(v : Int) ∈ xs) (fun v=>(v : Int) ∈ ys) r)) (by omega) u (by omega)
   rw [← hu] at hp
   have hut : (gi xs j).toNat = u:=by rw [hu,Int.toNat_natCast]
   have hum : (u : Int) ∈ xs:=hu ▸ cm hjl
   (repeat' (first|(with_reducible first|(apply hK;clear hK K)|refine stZ ?_|refine bc rfl ?_|((first|apply ae|apply af);clear ae X af Y))|(with_reducible refine bf ?_;first|refine bd rfl ?_|refine be rfl ?_)|(with_reducible refine bI ?_;first|refine bp rfl rfl rfl rfl ?_|refine bH rfl rfl rfl ?_|refine bY rfl rfl rfl rfl ?_)|((first|(with_reducible first|((first|refine bi ?_|refine bj ?_);intro K hK)|(refine aN ?_;intro X Y ae af)|refine aO ?_)|(with_reducible refine bI ?_;refine br rfl rfl fun X Y ae af=>?_));simp (disch:=first|decide|omega|(simp only [List.length_cons,List.length_nil];omega)) only [go_sem,↓am hN,ao hN,reduceIte,reduceCtorEq,Nat.reduceAdd,Nat.reduceLT,Nat.reduceLeDiff,Nat.reduceEqDiff,Nat.reduceSub])|(with_reducible refine And.intro (fun h=>?_) (fun h=>?_) <;> try (exfalso;omega))|(with_reducible refine bh ba hN ?_)|(refine bo (hp) ?_ rfl (fun _=>rfl) ?_;focus ((repeat' (first|(with_reducible first|exact az|refine aw ?_ ?_|exact bX _|refine aY ?_|exact a8 _|exact bA _ _|refine bz ?_|exact aW _)|exact aZ hN rfl rfl|(refine bw hN rfl ?_;first|exact aJ _|exact aK _)|exact aX rfl rfl rfl));done))|(with_reducible first|exact az|refine aw ?_ ?_|exact bX _|refine aY ?_|exact a8 _|exact bA _ _|refine bz ?_|exact aW _)|exact aZ hN rfl rfl|(refine bw hN rfl ?_;first|exact aJ _|exact aK _)|exact aX rfl rfl rfl|(simp only [aM,List.map_nil])|(with_reducible refine b8 ?_)|(with_reducible refine And.intro ?_ ?_)|(refine ak ?_;omega)|(exact bg hN (by decide))))
   · have h1 : rkV (pgA g) who (fun v=>(v : Int) ∈ xs) (fun v=>(v : Int) ∈ ys) r (gi xs j).toNat < 0:=by assumption
     have h2 : qv g.ar who (mks g.prio.length fun v=>(v : Int) ∈ xs) (tab g.prio.length (rkV (pgA g) who (fun v=>(v : Int) ∈ xs) (fun v=>(v : Int) ∈ ys) r)) u:=by assumption
     rw [hut] at h1
     (refine ⟨j + 1,⟨?_,?_⟩,bC hX hN [(3,5)] ?_ ?_⟩;(try any_goals dsimp only);(repeat' (first|(with_reducible first|exact clZ|refine bD ?_ ?_|refine bE ?_ ?_|rfl|refine suZ ?_)|refine bF rfl ?_ ?_|exact aR hN _ rfl rfl rfl|exact aS hN _ rfl rfl rfl|exact aB hN _ rfl rfl rfl (Or.inr rfl)|(refine aT hN _ rfl rfl (by first|exact Or.inr rfl|exact Or.inl rfl) ?_;first|exact aJ _|exact aK _)|refine aC hN rfl ?_|refine aD hN rfl rfl ?_|exact aA hN _ rfl rfl|exact aE hN rfl rfl rfl rfl|(with_reducible first|refine stZ ?_|refine aQ ?_)));(try (any_goals (first|(with_reducible rfl)|(refine ak ?_;omega)))))
     refine cZ ?_
     rw [hut]
     exact ⟨by omega,(mo hg hun hum hxb (by omega)).1 h2⟩
   · have h1 : rkV (pgA g) who (fun v=>(v : Int) ∈ xs) (fun v=>(v : Int) ∈ ys) r (gi xs j).toNat < 0:=by assumption
     have h2 : ¬ qv g.ar who (mks g.prio.length fun v=>(v : Int) ∈ xs) (tab g.prio.length (rkV (pgA g) who (fun v=>(v : Int) ∈ xs) (fun v=>(v : Int) ∈ ys) r)) u:=by assumption
     rw [hut] at h1
     (refine ⟨j + 1,⟨?_,?_⟩,bC hX hN [] ?_ ?_⟩;(try any_goals dsimp only);(repeat' (first|(with_reducible first|exact clZ|refine bD ?_ ?_|refine bE ?_ ?_|rfl|refine suZ ?_)|refine bF rfl ?_ ?_|exact aR hN _ rfl rfl rfl|exact aS hN _ rfl rfl rfl|exact aB hN _ rfl rfl rfl (Or.inr rfl)|(refine aT hN _ rfl rfl (by first|exact Or.inr rfl|exact Or.inl rfl) ?_;first|exact aJ _|exact aK _)|refine aC hN rfl ?_|refine aD hN rfl rfl ?_|exact aA hN _ rfl rfl|exact aE hN rfl rfl rfl rfl|(with_reducible first|refine stZ ?_|refine aQ ?_)));(try (any_goals (first|(with_reducible rfl)|(refine ak ?_;omega)))))
     refine dk ?_
     rw [hut]
     exact fun h=>h2 ((mo hg hun hum hxb (by omega)).2 h.2)
   · have h1 : ¬ rkV (pgA g) who (fun v=>(v : Int) ∈ xs) (fun v=>(v : Int) ∈ ys) r (gi xs j).toNat < 0:=by assumption
     rw [hut] at h1
     (refine ⟨j + 1,⟨?_,?_⟩,bC hX hN [] ?_ ?_⟩;(try any_goals dsimp only);(repeat' (first|(with_reducible first|exact clZ|refine bD ?_ ?_|refine bE ?_ ?_|rfl|refine suZ ?_)|refine bF rfl ?_ ?_|exact aR hN _ rfl rfl rfl|exact aS hN _ rfl rfl rfl|exact aB hN _ rfl rfl rfl (Or.inr rfl)|(refine aT hN _ rfl rfl (by first|exact Or.inr rfl|exact Or.inl rfl) ?_;first|exact aJ _|exact aK _)|refine aC hN rfl ?_|refine aD hN rfl rfl ?_|exact aA hN _ rfl rfl|exact aE hN rfl rfl rfl rfl|(with_reducible first|refine stZ ?_|refine aQ ?_)));(try (any_goals (first|(with_reducible rfl)|(refine ak ?_;omega)))))
     refine dk ?_
     rw [hut]
     exact fun h=>h.1 (by omega)
 obtain rfl : j = xs.length:=by omega
 have hfm : ∀ x,x ∈ dC (fun x=>¬ 0 ≤ rkV (pgA g) who (fun v=>(v : Int) ∈ xs) (fun v=>(v : Int) ∈ ys) r x.toNat ∧ PG.AttrN (pgA g) who (fun v=>(v : Int) ∈ xs) (fun v=>(v : Int) ∈ ys) (r + 1) x.toNat) xs xs.length ↔ x ∈ xs ∧ ¬ 0 ≤ rkV (pgA g) who (fun v=>(v : Int) ∈ xs) (fun v=>(v : Int) ∈ ys) r x.toNat ∧ PG.AttrN (pgA g) who (fun v=>(v : Int) ∈ xs) (fun v=>(v : Int) ∈ ys) (r + 1) x.toNat:=fun x=>by
  rw [i5 _ (Nat.le_refl _),gT]
  exact ⟨fun ⟨t,a,b,c⟩=>⟨⟨t,a,b⟩,c⟩,fun ⟨⟨t,a,b⟩,c⟩=>⟨t,a,b,c⟩⟩
 clear hxj
 generalize dC (fun x=>¬ 0 ≤ rkV (pgA g) who (fun v=>(v : Int) ∈ xs) (fun v=>(v : Int) ∈ ys) r x.toNat ∧ PG.AttrN (pgA g) who (fun v=>(v : Int) ∈ xs) (fun v=>(v : Int) ∈ ys) (r + 1) x.toNat) xs xs.length = fnd at *
 have hfb : Bnd fnd g.prio.length:=fun t ht=>by
  obtain ⟨t',h1,h2⟩:=dr ((hfm _).1 (cm ht)).1
  rw [← h2];exact hxb t' h1
 (repeat' (first|(with_reducible first|(apply hK;clear hK K)|refine stZ ?_|refine bc rfl ?_|((first|apply ae|apply af);clear ae X af Y))|(with_reducible refine bf ?_;first|refine bd rfl ?_|refine be rfl ?_)|(with_reducible refine bI ?_;first|refine bp rfl rfl rfl rfl ?_|refine bH rfl rfl rfl ?_|refine bY rfl rfl rfl rfl ?_)|((first|(with_reducible first|((first|refine bi ?_|refine bj ?_);intro K hK)|(refine aN ?_;intro X Y ae af)|refine aO ?_)|(with_reducible refine bI ?_;refine br rfl rfl fun X Y ae af=>?_));simp (disch:=first|decide|omega|(simp only [List.length_cons,List.length_nil];omega)) only [go_sem,↓am hN,ao hN,reduceIte,reduceCtorEq,Nat.reduceAdd,Nat.reduceLT,Nat.reduceLeDiff,Nat.reduceEqDiff,Nat.reduceSub])|(with_reducible refine And.intro (fun h=>?_) (fun h=>?_) <;> try (exfalso;omega))|(with_reducible refine bh ba hN ?_)|(with_reducible refine And.intro ?_ ?_)|(refine ak ?_;omega)|(exact bg hN (by decide))))
 · have hf0 : fnd = []:=List.eq_nil_of_length_eq_zero (by omega)
   have hst : ∀ v,PG.AttrN (pgA g) who (fun v=>(v : Int) ∈ xs) (fun v=>(v : Int) ∈ ys) (r + 1) v → PG.AttrN (pgA g) who (fun v=>(v : Int) ∈ xs) (fun v=>(v : Int) ∈ ys) r v:=fun v hv=>by
    rcases Classical.em (PG.AttrN (pgA g) who (fun v=>(v : Int) ∈ xs) (fun v=>(v : Int) ∈ ys) r v) with h|h
    · exact h
    · have : (v : Int) ∈ fnd:=(hfm v).2 ⟨PG.attrN_in hv,fun h'=>h ((ef r v).1 h'),hv⟩
      rw [hf0] at this;cases this
   (refine cz hN (i:=2) (.inr rfl) (by first|rfl|(simp (disch:=first|decide|omega|(simp only [List.length_cons,List.length_nil];omega)) only [bW,b7,cf,cj,go_sem,beq_self_eq_true,↓aG,↓am hN,ao hN,reduceIte,reduceCtorEq,Nat.reduceAdd,Nat.reduceLT,Nat.reduceLeDiff,Nat.reduceEqDiff,Nat.reduceSub];rfl)) rfl ?_ rfl)
   exact congrArg C.I (aU fun v _=>(oR hst g.prio.length (by omega) v).symm)
 have hfne : fnd.length ≠ 0:=qy (by assumption)
 (refine ce (fun (i : Nat)=>(tmL [(83,.c (.int .i64 i)),(82,.c (.int .i64 fnd.length)),(81,.sl (ν 3)),(14,.c (.int .i64 r)),(10,.sl (ν 2)),(9,.sl (ν 1)),(1,.c (.int .i64 who)),(2,.c (.I xs)),(4,.ad (ν 0) 0)],hpL hp0 ν [.box [.c (.I g.ar.own),.c (.R g.ar.nxt)],.arr 4 .yes (.B (mks g.prio.length fun v=>(v : Int) ∈ xs)),.arr 2 .yes (.I (tab g.prio.length fun v=>@ite Int (∃ t,t < i ∧ gi fnd t = v) (Classical.propDecidable _) ((r : Int) + 1) (rkV (pgA g) who (fun v=>(v : Int) ∈ xs) (fun v=>(v : Int) ∈ ys) r v))),.arr 2 .yes (.I fnd)])) (fun (i : Nat)=>i ≤ fnd.length) (fun (i : Nat)=>fnd.length - i) ⟨0,?_,bC hX hN [] ?_ ?_⟩ ?_;(repeat' (first|(with_reducible first|exact clZ|refine bD ?_ ?_|refine bE ?_ ?_|rfl|refine suZ ?_)|refine bF rfl ?_ ?_|exact aR hN _ rfl rfl rfl|exact aS hN _ rfl rfl rfl|exact aB hN _ rfl rfl rfl (Or.inr rfl)|(refine aT hN _ rfl rfl (by first|exact Or.inr rfl|exact Or.inl rfl) ?_;first|exact aJ _|exact aK _)|refine aC hN rfl ?_|refine aD hN rfl rfl ?_|exact aA hN _ rfl rfl|exact aE hN rfl rfl rfl rfl|(with_reducible first|refine stZ ?_|refine aQ ?_)));(try (any_goals (first|(with_reducible rfl)|(refine ak ?_;omega)))))
 · exact aU fun v hv=>if_neg (by rintro ⟨t,h,_⟩;omega)
 intro i hi
 have hfi:=hfb i
 have htl3:=cr g.prio.length fun v=>@ite Int (∃ t,t < i ∧ gi fnd t = v) (Classical.propDecidable _) ((r : Int) + 1) (rkV (pgA g) who (fun v=>(v : Int) ∈ xs) (fun v=>(v : Int) ∈ ys) r v)
 (repeat' (first|(with_reducible first|(apply hK;clear hK K)|refine stZ ?_|refine bc rfl ?_|((first|apply ae|apply af);clear ae X af Y))|(with_reducible refine bf ?_;first|refine bd rfl ?_|refine be rfl ?_)|(with_reducible refine bI ?_;first|refine bp rfl rfl rfl rfl ?_|refine bH rfl rfl rfl ?_|refine bY rfl rfl rfl rfl ?_)|((first|(with_reducible first|((first|refine bi ?_|refine bj ?_);intro K hK)|(refine aN ?_;intro X Y ae af)|refine aO ?_)|(with_reducible refine bI ?_;refine br rfl rfl fun X Y ae af=>?_));simp (disch:=first|decide|omega|(simp only [List.length_cons,List.length_nil];omega)) only [go_sem,↓am hN,ao hN,reduceIte,reduceCtorEq,Nat.reduceAdd,Nat.reduceLT,Nat.reduceLeDiff,Nat.reduceEqDiff,Nat.reduceSub])|(with_reducible refine And.intro (fun h=>?_) (fun h=>?_) <;> try (exfalso;omega))|(with_reducible refine bh ba hN ?_)|(with_reducible refine And.intro ?_ ?_)|(refine ak ?_;omega)|(exact bg hN (by decide))))
 · (refine ⟨i + 1,⟨?_,?_⟩,bC hX hN [] ?_ ?_⟩;(try any_goals dsimp only);(repeat' (first|(with_reducible first|exact clZ|refine bD ?_ ?_|refine bE ?_ ?_|rfl|refine suZ ?_)|refine bF rfl ?_ ?_|exact aR hN _ rfl rfl rfl|exact aS hN _ rfl rfl rfl|exact aB hN _ rfl rfl rfl (Or.inr rfl)|(refine aT hN _ rfl rfl (by first|exact Or.inr rfl|exact Or.inl rfl) ?_;first|exact aJ _|exact aK _)|refine aC hN rfl ?_|refine aD hN rfl rfl ?_|exact aA hN _ rfl rfl|exact aE hN rfl rfl rfl rfl|(with_reducible first|refine stZ ?_|refine aQ ?_)));(try (any_goals (first|(with_reducible rfl)|(refine ak ?_;omega)))))
   rw [fy (by omega)]
   refine aU fun v hv=>?_
   by_cases e : v = (gi fnd i).toNat
   · rw [if_pos e,if_pos ⟨i,by omega,by omega⟩]
   · rw [if_neg e]
     by_cases h1 : ∃ t,t < i ∧ gi fnd t = v
     · rw [if_pos h1,if_pos (let ⟨t,a,b⟩:=h1;⟨t,by omega,b⟩)]
     · rw [if_neg h1,if_neg fun h2=>h1 (let ⟨t,a,b⟩:=h2;⟨t,by
        rcases Nat.lt_or_ge t i with h'|h'
        · exact h'
        · exact absurd (show v = (gi fnd i).toNat by rw [show i = t by omega,b,Int.toNat_natCast]) e,b⟩)]
 · obtain rfl : i = fnd.length:=by omega
   have hm0:=(hfm _).1 (cm (show 0 < fnd.length by omega))
   have hb0:=hfb 0 (by omega)
   have hnum:=kD (P:=pgA g) (who:=who) (S:=fun v=>(v : Int) ∈ xs) (T:=fun v=>(v : Int) ∈ ys) (n:=g.prio.length) (k:=r) (v:=(gi fnd 0).toNat) (by omega) hm0.2.2 fun h=>hm0.2.1 ((ef r _).2 h)
   have hnl2:=f8 (p:=PG.AttrN (pgA g) who (fun v=>(v : Int) ∈ xs) (fun v=>(v : Int) ∈ ys) (r + 1)) (k:=g.prio.length)
   (refine ⟨r + 1,⟨?_,?_⟩,bC hX hN [] ?_ ?_⟩;(try any_goals dsimp only);(repeat' (first|(with_reducible first|exact clZ|refine bD ?_ ?_|refine bE ?_ ?_|rfl|refine suZ ?_)|refine bF rfl ?_ ?_|exact aR hN _ rfl rfl rfl|exact aS hN _ rfl rfl rfl|exact aB hN _ rfl rfl rfl (Or.inr rfl)|(refine aT hN _ rfl rfl (by first|exact Or.inr rfl|exact Or.inl rfl) ?_;first|exact aJ _|exact aK _)|refine aC hN rfl ?_|refine aD hN rfl rfl ?_|exact aA hN _ rfl rfl|exact aE hN rfl rfl rfl rfl|(with_reducible first|refine stZ ?_|refine aQ ?_)));(try (any_goals (first|(with_reducible rfl)|(refine ak ?_;omega)))))
   refine aU fun v hv=>?_
   by_cases h0 : 0 ≤ rkV (pgA g) who (fun v=>(v : Int) ∈ xs) (fun v=>(v : Int) ∈ ys) r v
   · rw [mn h0,if_neg]
     rintro ⟨t,a,b⟩
     have:=((hfm _).1 (cm a)).2.1
     rw [b,Int.toNat_natCast] at this
     exact this h0
   · by_cases h1 : PG.AttrN (pgA g) who (fun v=>(v : Int) ∈ xs) (fun v=>(v : Int) ∈ ys) (r + 1) v
     · rw [qx h0 h1,if_pos]
       exact dr ((hfm v).2 ⟨PG.attrN_in h1,by rw [Int.toNat_natCast];exact h0,by rw [Int.toNat_natCast];exact h1⟩)
     · rw [kC h0 h1,if_neg]
       rintro ⟨t,a,b⟩
       have:=((hfm _).1 (cm a)).2.2
       rw [b,Int.toNat_natCast] at this
       exact h1 this
end Go.Proofs.Ythjamlponejffaa
