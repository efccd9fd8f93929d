/-
  The reference's replies, worst worths, improved plan and best plan.
-/
import Derived.Test.YtlodllmpndflcaaZoI9
namespace Go.Proofs.Ytlodllmpndflcaa
set_option linter.unusedVariables false
set_option linter.unusedSimpArgs false
open Go.RowKit
attribute [local irreducible] ba cM Aw Le
set_option maxHeartbeats 1000000 in
theorem lV (g : Pa) (hs : dU g) (k : Nat) (hk : k ≤ 4096) : ba Try.prog 33 [paA g,.c (.int .i64 k)] [.arr 2 .yes (.I (cB g.ar 1 k))] (fun ns=>.sl (ns.getD 0 0)):=by
 have hg:=hs.1
 have hl:=hg.len
 have hle:=hs.2
 have hln:=hg.ar.len
 have hvert:=hg.ar.vert
 (refine bA aF Try.func33 rfl rfl (by kernel_rfl) fun hp0 ν hX hN=>?_;simp only [cg,Nat.reduceAdd])
 (repeat' (first|(with_reducible first|(apply hK;clear hK K)|refine stZ ?_|refine aO rfl ?_|((first|apply ae|apply af);clear ae X af Y))|(with_reducible refine aR ?_;first|refine aP rfl ?_|refine aQ rfl ?_)|(with_reducible refine bB ?_;refine bE hN ?_)|((with_reducible first|((first|refine aU ?_|refine bF ?_|refine aV ?_|refine bG ?_);intro K hK)|(refine aC ?_;intro X Y ae af)|refine aD ?_);simp (disch:=first|decide|omega|(simp only [List.length_cons,List.length_nil];omega)) only [go_sem,↓aj hN,an hN,reduceIte,reduceCtorEq,Nat.reduceAdd,Nat.reduceLT,Nat.reduceLeDiff,Nat.reduceEqDiff,Nat.reduceSub])|(with_reducible refine And.intro (fun h=>?_) (fun h=>?_) <;> try (exfalso;omega))|(with_reducible refine aT aF hN ?_)|(with_reducible refine aX aF hN ?_)|(with_reducible refine And.intro ?_ ?_)|(refine ak ?_;omega)|(exact aS hN (by decide))))
 (refine cr (fun (v : Nat)=>(tmL [(6,.c (.int .i64 v)),(5,.sl (ν 1)),(1,.c (.int .i64 ((k / cC g.ar 1 v : Nat) : Int))),(2,.ad (ν 0) 0)],hpL hp0 ν [.box [.c (.I g.ar.own),.c (.R g.ar.nxt),.c (.I g.prio)],.arr 2 .yes (.I (tab v fun u=>gi (cB g.ar 1 k) u))])) (fun (v : Nat)=>v ≤ g.ar.own.length) (fun (v : Nat)=>g.ar.own.length - v) ⟨0,?_,bL hX hN [] ?_ ?_⟩ ?_;(repeat' (first|(with_reducible first|exact clZ|refine bM ?_ ?_|refine bN ?_ ?_|rfl|refine suZ ?_)|refine bO rfl ?_ ?_|exact bv hN _ rfl rfl rfl|exact bw hN _ rfl rfl rfl|exact be hN _ rfl rfl rfl (Or.inr rfl)|(refine bx hN _ rfl rfl (by first|exact Or.inr rfl|exact Or.inl rfl) ?_;first|exact aJ _|exact aK _)|refine bf hN rfl ?_|refine bg hN rfl rfl ?_|exact bd hN _ rfl rfl|exact bc hN rfl rfl rfl rfl|(with_reducible first|refine stZ ?_|refine bu ?_)));(try (any_goals (first|(with_reducible rfl)|(refine ak ?_;omega)))))
 all_goals first|rfl|(exact congrArg Nat.cast (Nat.div_one k).symm)|skip
 intro v hv
 have htl:=dG v fun u=>gi (cB g.ar 1 k) u
 rcases Nat.lt_or_ge v g.ar.own.length with hvl|hvl
 · have hvv:=hvert v hvl
   obtain ⟨d1,d2,d3⟩:=sv (k:=k) (b:=cC g.ar 1 v) (n:=(gr g.ar.nxt v).length) (by omega)
   have hra:=iI (a:=g.ar) (w:=1) (k:=k) hvl
   have hts:=lb v fun u=>gi (cB g.ar 1 k) u
   by_cases e : gi g.ar.own v = 1
   · have hby:=gB e
     rw [if_pos e] at hra
     rw [← hby] at d2
     have hdk:=Nat.div_le_self k (cC g.ar 1 (v + 1))
     generalize hkb : k / cC g.ar 1 v = kb at *
     (repeat' (first|(with_reducible first|(apply hK;clear hK K)|refine stZ ?_|refine aO rfl ?_|((first|apply ae|apply af);clear ae X af Y))|(with_reducible refine aR ?_;first|refine aP rfl ?_|refine aQ rfl ?_)|(with_reducible refine bB ?_;refine bE hN ?_)|((with_reducible first|((first|refine aU ?_|refine bF ?_|refine aV ?_|refine bG ?_);intro K hK)|(refine aC ?_;intro X Y ae af)|refine aD ?_);simp (disch:=first|decide|omega|(simp only [List.length_cons,List.length_nil];omega)) only [go_sem,↓aj hN,an hN,reduceIte,reduceCtorEq,Nat.reduceAdd,Nat.reduceLT,Nat.reduceLeDiff,Nat.reduceEqDiff,Nat.reduceSub])|(with_reducible refine And.intro (fun h=>?_) (fun h=>?_) <;> try (exfalso;omega))|(with_reducible refine aT aF hN ?_)|(with_reducible refine aX aF hN ?_)|(with_reducible refine And.intro ?_ ?_)|(refine ak ?_;omega)|(exact aS hN (by decide))))
     all_goals first|(exact absurd e (cU (by assumption)))|skip
     (refine ⟨v + 1,⟨?_,?_⟩,bL hX hN [(1,3)] ?_ ?_⟩;(try any_goals dsimp only);(repeat' (first|(with_reducible first|exact clZ|refine bM ?_ ?_|refine bN ?_ ?_|rfl|refine suZ ?_)|refine bO rfl ?_ ?_|exact bv hN _ rfl rfl rfl|exact bw hN _ rfl rfl rfl|exact be hN _ rfl rfl rfl (Or.inr rfl)|(refine bx hN _ rfl rfl (by first|exact Or.inr rfl|exact Or.inl rfl) ?_;first|exact aJ _|exact aK _)|refine bf hN rfl ?_|refine bg hN rfl rfl ?_|exact bd hN _ rfl rfl|exact bc hN rfl rfl rfl rfl|(with_reducible first|refine stZ ?_|refine bu ?_)));(try (any_goals (first|(with_reducible rfl)|(refine ak ?_;omega)))))
     all_goals first|(rw [d2];exact pZ ⟨Int.le_trans (by decide) (Int.natCast_nonneg _),by omega⟩)|(rw [hts,hra,d1,Int.toNat_natCast])
   · have hbn:=hH (a:=g.ar) (w:=1) e
     rw [if_neg e] at hra
     (repeat' (first|(with_reducible first|(apply hK;clear hK K)|refine stZ ?_|refine aO rfl ?_|((first|apply ae|apply af);clear ae X af Y))|(with_reducible refine aR ?_;first|refine aP rfl ?_|refine aQ rfl ?_)|(with_reducible refine bB ?_;refine bE hN ?_)|((with_reducible first|((first|refine aU ?_|refine bF ?_|refine aV ?_|refine bG ?_);intro K hK)|(refine aC ?_;intro X Y ae af)|refine aD ?_);simp (disch:=first|decide|omega|(simp only [List.length_cons,List.length_nil];omega)) only [go_sem,↓aj hN,an hN,reduceIte,reduceCtorEq,Nat.reduceAdd,Nat.reduceLT,Nat.reduceLeDiff,Nat.reduceEqDiff,Nat.reduceSub])|(with_reducible refine And.intro (fun h=>?_) (fun h=>?_) <;> try (exfalso;omega))|(with_reducible refine aT aF hN ?_)|(with_reducible refine aX aF hN ?_)|(with_reducible refine And.intro ?_ ?_)|(refine ak ?_;omega)|(exact aS hN (by decide))))
     all_goals first|(exact absurd (by assumption) e)|skip
     (refine ⟨v + 1,⟨?_,?_⟩,bL hX hN [(1,3)] ?_ ?_⟩;(try any_goals dsimp only);(repeat' (first|(with_reducible first|exact clZ|refine bM ?_ ?_|refine bN ?_ ?_|rfl|refine suZ ?_)|refine bO rfl ?_ ?_|exact bv hN _ rfl rfl rfl|exact bw hN _ rfl rfl rfl|exact be hN _ rfl rfl rfl (Or.inr rfl)|(refine bx hN _ rfl rfl (by first|exact Or.inr rfl|exact Or.inl rfl) ?_;first|exact aJ _|exact aK _)|refine bf hN rfl ?_|refine bg hN rfl rfl ?_|exact bd hN _ rfl rfl|exact bc hN rfl rfl rfl rfl|(with_reducible first|refine stZ ?_|refine bu ?_)));(try (any_goals (first|(with_reducible rfl)|(refine ak ?_;omega)))))
     all_goals first|(rw [hbn])|(rw [hts,hra])
 obtain rfl : v = g.ar.own.length:=by omega
 (repeat' (first|(with_reducible first|(apply hK;clear hK K)|refine stZ ?_|refine aO rfl ?_|((first|apply ae|apply af);clear ae X af Y))|(with_reducible refine aR ?_;first|refine aP rfl ?_|refine aQ rfl ?_)|(with_reducible refine bB ?_;refine bE hN ?_)|((with_reducible first|((first|refine aU ?_|refine bF ?_|refine aV ?_|refine bG ?_);intro K hK)|(refine aC ?_;intro X Y ae af)|refine aD ?_);simp (disch:=first|decide|omega|(simp only [List.length_cons,List.length_nil];omega)) only [go_sem,↓aj hN,an hN,reduceIte,reduceCtorEq,Nat.reduceAdd,Nat.reduceLT,Nat.reduceLeDiff,Nat.reduceEqDiff,Nat.reduceSub])|(with_reducible refine And.intro (fun h=>?_) (fun h=>?_) <;> try (exfalso;omega))|(with_reducible refine aT aF hN ?_)|(with_reducible refine aX aF hN ?_)|(with_reducible refine And.intro ?_ ?_)|(refine ak ?_;omega)|(exact aS hN (by decide))))
 (refine fX hN (i:=1) (.inr rfl) (by first|rfl|(simp (disch:=first|decide|omega|(simp only [List.length_cons,List.length_nil];omega)) only [bR,bU,bX,bY,go_sem,beq_self_eq_true,↓aW,↓aj hN,an hN,reduceIte,reduceCtorEq,Nat.reduceAdd,Nat.reduceLT,Nat.reduceLeDiff,Nat.reduceEqDiff,Nat.reduceSub];rfl)) rfl ?_ rfl)
 exact congrArg C.I (mK (fu _ _ _))
def wD (a : Wt) : List C:=[.int .i64 a.hd,.I a.ov,.int .i64 a.wy]
theorem vE (a : Wt) : (wD a).getD 0 .nul = .int .i64 a.hd:=rfl
theorem vF (a : Wt) : (wD a).getD 1 .nul = .I a.ov:=rfl
theorem vG (a : Wt) : (wD a).getD 2 .nul = .int .i64 a.wy:=rfl
noncomputable def qF (g : Pa) (σ : List Int) (k v u : Nat) : List C:=if u < v then wD (wst g σ (k + 1) u) else wD (wst g σ k u)
noncomputable def qN (g : Pa) (k v : Nat) : Nat:=if k = 0 then v else g.prio.length
theorem tN {g : Pa} {σ : List Int} {k v n : Nat} {x : List C} (e : x = wD (wst g σ (k + 1) v)) : (cE n (qF g σ k v)).set v x = cE n (qF g σ k (v + 1)):=by
 rw [qE]
 refine dZ fun i _=>?_
 unfold qF
 by_cases h1 : i = v
 · subst h1;rw [if_pos rfl,if_pos (by omega),e]
 · rw [if_neg h1]
   by_cases h2 : i < v
   · rw [if_pos h2,if_pos (by omega)]
   · rw [if_neg h2,if_neg (by omega)]
theorem si {g : Pa} {σ : List Int} {k v n : Nat} (e : wst g σ k v = wst g σ (k + 1) v) : cE n (qF g σ k v) = cE n (qF g σ k (v + 1)):=by
 refine dZ fun i _=>?_
 unfold qF
 by_cases h2 : i < v
 · rw [if_pos h2,if_pos (by omega)]
 · rw [if_neg h2]
   by_cases h1 : i = v
   · subst h1;rw [if_pos (by omega),e]
   · rw [if_neg (by omega)]
theorem tO {g : Pa} {σ : List Int} {k v : Nat} : cE (v + 1) (qF g σ k (v + 1)) = cE v (qF g σ k v) ++ [wD (wst g σ (k + 1) v)]:=by
 rw [oQ]
 congr 1
 · refine dZ fun i hi=>?_
   unfold qF;rw [if_pos (by omega),if_pos hi]
 · unfold qF;rw [if_pos (by omega)]
theorem vH {g : Pa} {σ : List Int} {k v : Nat} : qF g σ k v v = wD (wst g σ k v):=if_neg (Nat.lt_irrefl _)
theorem xf {g : Pa} {σ : List Int} {k n : Nat} : cE n (qF g σ k 0) = cE n fun u=>wD (wst g σ k u):=dZ fun i _=>if_neg (Nat.not_lt_zero _)
theorem xg {g : Pa} {σ : List Int} {k n : Nat} : cE n (qF g σ k n) = cE n fun u=>wD (wst g σ (k + 1) u):=dZ fun i h=>if_pos h
attribute [local go_sem] gE vH vE vF vG
set_option maxHeartbeats 4000000 in
theorem kS (g : Pa) (hs : dU g) (σ : List Int) (h0 : cz g.ar 0 σ) (hr : cF g ≤ 4096) : ba Try.prog 19 [paA g,.c (.I σ)] [.arr 51 .yes (.V 3 (cE g.prio.length fun v=>wD (WW g σ v)))] (fun ns=>.sl (ns.getD 0 0)):=by
 have hg:=hs.1
 have hl:=hg.len
 have hle:=hs.2
 have hm:=nF g hg
 rw [fK hr] at hm
 have hmp:=gC hs
 have hFR:=fun k=>fJ hg.ar 1 k
 have hrep:=fun k hk=>lV g hs k hk
 have hwt:=fun k v hv=>lU g hs σ (cB g.ar 1 k) h0 (hFR k) v hv
 have hbet:=fun a b ha hb=>kQ g hg a b ha hb
 have hok1:=fun k v (hv : v < g.prio.length)=>kK hs h0 k hv
 have hok2:=fun k v (hv : v < g.prio.length) (hk : 0 < k)=>mF hs h0 hv hk
 have hR : WW g σ = wst g σ (cF g):=rfl
 rw [hR]
 (refine bA aF Try.func19 rfl rfl (by kernel_rfl) fun hp0 ν hX hN=>?_;simp only [cg,Nat.reduceAdd])
 (repeat' (first|(with_reducible first|(apply hK;clear hK K)|refine stZ ?_|refine aO rfl ?_|((first|apply ae|apply af);clear ae X af Y))|(with_reducible refine aR ?_;first|refine aP rfl ?_|refine aQ rfl ?_)|(with_reducible refine bB ?_;refine bE hN ?_)|((with_reducible first|((first|refine aU ?_|refine bF ?_|refine aV ?_|refine bG ?_);intro K hK)|(refine aC ?_;intro X Y ae af)|refine aD ?_);simp (disch:=first|decide|omega|(simp only [List.length_cons,List.length_nil];omega)) only [go_sem,↓aj hN,an hN,reduceIte,reduceCtorEq,Nat.reduceAdd,Nat.reduceLT,Nat.reduceLeDiff,Nat.reduceEqDiff,Nat.reduceSub])|(with_reducible refine And.intro (fun h=>?_) (fun h=>?_) <;> try (exfalso;omega))|(with_reducible refine aT aF hN ?_)|(with_reducible refine aX aF hN ?_)|(refine aE (hm) ?_ rfl (fun _=>rfl) ?_;focus ((repeat' (first|(with_reducible first|exact am|refine ah ?_ ?_|exact aZ _|refine ay ?_|exact ax _|exact aI _ _|refine aH ?_|exact au _)|exact az hN rfl rfl|(refine aG hN rfl ?_;first|exact aJ _|exact aK _)|exact aw rfl rfl rfl));done))|(with_reducible first|exact am|refine ah ?_ ?_|exact aZ _|refine ay ?_|exact ax _|exact aI _ _|refine aH ?_|exact au _)|exact az hN rfl rfl|(refine aG hN rfl ?_;first|exact aJ _|exact aK _)|exact aw rfl rfl rfl|(simp only [aY,List.map_nil])|(with_reducible refine bm ?_)|(with_reducible refine And.intro ?_ ?_)|(refine ak ?_;omega)|(exact aS hN (by decide))))
 (refine cr (fun (k : Nat)=>(tmL [(7,.c (.int .i64 k)),(6,.c (.int .i64 (cF g : Nat))),(5,.sl (ν 1)),(2,.ad (ν 0) 0),(1,.c (.I σ))],hpL hp0 ν [.box [.c (.I g.ar.own),.c (.R g.ar.nxt),.c (.I g.prio)],.arr 51 .yes (.V 3 (cE (qN g k 0) fun u=>wD (wst g σ k u)))])) (fun (k : Nat)=>k ≤ cF g) (fun (k : Nat)=>cF g - k) ⟨0,?_,bL hX hN [] ?_ ?_⟩ ?_;(repeat' (first|(with_reducible first|exact clZ|refine bM ?_ ?_|refine bN ?_ ?_|rfl|refine suZ ?_)|refine bO rfl ?_ ?_|exact bv hN _ rfl rfl rfl|exact bw hN _ rfl rfl rfl|exact be hN _ rfl rfl rfl (Or.inr rfl)|(refine bx hN _ rfl rfl (by first|exact Or.inr rfl|exact Or.inl rfl) ?_;first|exact aJ _|exact aK _)|refine bf hN rfl ?_|refine bg hN rfl rfl ?_|exact bd hN _ rfl rfl|exact bc hN rfl rfl rfl rfl|(with_reducible first|refine stZ ?_|refine bu ?_)));(try (any_goals (first|(with_reducible rfl)|(refine ak ?_;omega)))))
 all_goals first|rfl|skip
 intro k hk
 rcases Nat.lt_or_ge k (cF g) with hkl|hkl
 · have c1:=hrep k (by omega)
   have hwt:=hwt k
   have hok1:=hok1 k
   have hph : ∀ v,phi g σ k v = wtF g (nxP g.ar σ (cB g.ar 1 k)) v:=fun v=>rfl
   (repeat' (first|(with_reducible first|(apply hK;clear hK K)|refine stZ ?_|refine aO rfl ?_|((first|apply ae|apply af);clear ae X af Y))|(with_reducible refine aR ?_;first|refine aP rfl ?_|refine aQ rfl ?_)|(with_reducible refine bB ?_;refine bE hN ?_)|((with_reducible first|((first|refine aU ?_|refine bF ?_|refine aV ?_|refine bG ?_);intro K hK)|(refine aC ?_;intro X Y ae af)|refine aD ?_);simp (disch:=first|decide|omega|(simp only [List.length_cons,List.length_nil];omega)) only [go_sem,↓aj hN,an hN,reduceIte,reduceCtorEq,Nat.reduceAdd,Nat.reduceLT,Nat.reduceLeDiff,Nat.reduceEqDiff,Nat.reduceSub])|(with_reducible refine And.intro (fun h=>?_) (fun h=>?_) <;> try (exfalso;omega))|(with_reducible refine aT aF hN ?_)|(with_reducible refine aX aF hN ?_)|(refine aE (c1) ?_ rfl (fun _=>rfl) ?_;focus ((repeat' (first|(with_reducible first|exact am|refine ah ?_ ?_|exact aZ _|refine ay ?_|exact ax _|exact aI _ _|refine aH ?_|exact au _)|exact az hN rfl rfl|(refine aG hN rfl ?_;first|exact aJ _|exact aK _)|exact aw rfl rfl rfl));done))|(with_reducible first|exact am|refine ah ?_ ?_|exact aZ _|refine ay ?_|exact ax _|exact aI _ _|refine aH ?_|exact au _)|exact az hN rfl rfl|(refine aG hN rfl ?_;first|exact aJ _|exact aK _)|exact aw rfl rfl rfl|(simp only [aY,List.map_nil])|(with_reducible refine bm ?_)|(with_reducible refine And.intro ?_ ?_)|(refine ak ?_;omega)|(exact aS hN (by decide))))
   (refine cr (fun (v : Nat)=>(tmL [(9,.c (.int .i64 v)),(8,.c (.I (cB g.ar 1 k))),(7,.c (.int .i64 k)),(6,.c (.int .i64 (cF g : Nat))),(5,.sl (ν 1)),(2,.ad (ν 0) 0),(1,.c (.I σ))],hpL hp0 ν [.box [.c (.I g.ar.own),.c (.R g.ar.nxt),.c (.I g.prio)],.arr 51 .yes (.V 3 (cE (qN g k v) (qF g σ k v))),.dead])) (fun (v : Nat)=>v ≤ g.prio.length) (fun (v : Nat)=>g.prio.length - v) ⟨0,?_,bL hX hN [] ?_ ?_⟩ ?_;(repeat' (first|(with_reducible first|exact clZ|refine bM ?_ ?_|refine bN ?_ ?_|rfl|refine suZ ?_)|refine bO rfl ?_ ?_|exact bv hN _ rfl rfl rfl|exact bw hN _ rfl rfl rfl|exact be hN _ rfl rfl rfl (Or.inr rfl)|(refine bx hN _ rfl rfl (by first|exact Or.inr rfl|exact Or.inl rfl) ?_;first|exact aJ _|exact aK _)|refine bf hN rfl ?_|refine bg hN rfl rfl ?_|exact bd hN _ rfl rfl|exact bc hN rfl rfl rfl rfl|(with_reducible first|refine stZ ?_|refine bu ?_)));(try (any_goals (first|(with_reducible rfl)|(refine ak ?_;omega)))))
   all_goals first|(exact congrArg (C.V 3) xf)|skip
   intro v hv
   have htl:=lN (qN g k v) (qF g σ k v)
   rcases Nat.lt_or_ge v g.prio.length with hvl|hvl
   · have cw:=hwt v hvl
     have hph:=hph v
     have hoka:=hok1 v hvl
     rw [hph] at hoka
     have hok2:=hok2 k v hvl
     have hy:=@nG g σ k v
     have hn:=@qH g σ k v
     have hz : wst g σ 1 v = phi g σ 0 v:=rfl
     rw [hph] at hy hn
     generalize wtF g (nxP g.ar σ (cB g.ar 1 k)) v = a at *
     by_cases k0 : k = 0
     · subst k0
       have hqn : qN g 0 v = v:=if_pos rfl
       have hqs : qN g 0 (v + 1) = v + 1:=if_pos rfl
       rw [hqn] at htl
       have hew : cE (qN g 0 (v + 1)) (qF g σ 0 (v + 1)) = cE (qN g 0 v) (qF g σ 0 v) ++ [wD a]:=by rw [hqn,hqs,tO,hz,hph]
       rw [hqn] at hew
       rw [hqn]
       (repeat' (first|(with_reducible first|(apply hK;clear hK K)|refine stZ ?_|refine aO rfl ?_|((first|apply ae|apply af);clear ae X af Y))|(with_reducible refine aR ?_;first|refine aP rfl ?_|refine aQ rfl ?_)|(with_reducible refine bB ?_;refine bE hN ?_)|((with_reducible first|((first|refine aU ?_|refine bF ?_|refine aV ?_|refine bG ?_);intro K hK)|(refine aC ?_;intro X Y ae af)|refine aD ?_);simp (disch:=first|decide|omega|(simp only [List.length_cons,List.length_nil];omega)) only [go_sem,↓aj hN,an hN,reduceIte,reduceCtorEq,Nat.reduceAdd,Nat.reduceLT,Nat.reduceLeDiff,Nat.reduceEqDiff,Nat.reduceSub])|(with_reducible refine And.intro (fun h=>?_) (fun h=>?_) <;> try (exfalso;omega))|(with_reducible refine aT aF hN ?_)|(with_reducible refine aX aF hN ?_)|(refine aE (cw) ?_ rfl (fun _=>rfl) ?_;focus ((repeat' (first|(with_reducible first|exact am|refine ah ?_ ?_|exact aZ _|refine ay ?_|exact ax _|exact aI _ _|refine aH ?_|exact au _)|exact az hN rfl rfl|(refine aG hN rfl ?_;first|exact aJ _|exact aK _)|exact aw rfl rfl rfl));done))|(with_reducible first|exact am|refine ah ?_ ?_|exact aZ _|refine ay ?_|exact ax _|exact aI _ _|refine aH ?_|exact au _)|exact az hN rfl rfl|(refine aG hN rfl ?_;first|exact aJ _|exact aK _)|exact aw rfl rfl rfl|(simp only [aY,List.map_nil])|(with_reducible refine bm ?_)|(with_reducible refine And.intro ?_ ?_)|(refine ak ?_;omega)|(exact aS hN (by decide))))
       (refine ⟨v + 1,⟨?_,?_⟩,bL hX hN [(1,6)] ?_ ?_⟩;(try any_goals dsimp only);(repeat' (first|(with_reducible first|exact clZ|refine bM ?_ ?_|refine bN ?_ ?_|rfl|refine suZ ?_)|refine bO rfl ?_ ?_|exact bv hN _ rfl rfl rfl|exact bw hN _ rfl rfl rfl|exact be hN _ rfl rfl rfl (Or.inr rfl)|(refine bx hN _ rfl rfl (by first|exact Or.inr rfl|exact Or.inl rfl) ?_;first|exact aJ _|exact aK _)|refine bf hN rfl ?_|refine bg hN rfl rfl ?_|exact bd hN _ rfl rfl|exact bc hN rfl rfl rfl rfl|(with_reducible first|refine stZ ?_|refine bu ?_)));(try (any_goals (first|(with_reducible rfl)|(refine ak ?_;omega)))))
       exact congrArg (C.V 3) hew
     · have hqn : qN g k v = g.prio.length:=if_neg k0
       have hqs : qN g k (v + 1) = g.prio.length:=if_neg k0
       rw [hqn] at htl
       have hok2:=hok2 (by omega)
       have cb:=hbet _ _ hok2 hoka
       rw [hqn]
       by_cases hb : d6 g (wst g σ k v) a
       · rw [aA hb] at cb
         have hy:=hy k0 hb
         (repeat' (first|(with_reducible first|(apply hK;clear hK K)|refine stZ ?_|refine aO rfl ?_|((first|apply ae|apply af);clear ae X af Y))|(with_reducible refine aR ?_;first|refine aP rfl ?_|refine aQ rfl ?_)|(with_reducible refine bB ?_;refine bE hN ?_)|((with_reducible first|((first|refine aU ?_|refine bF ?_|refine aV ?_|refine bG ?_);intro K hK)|(refine aC ?_;intro X Y ae af)|refine aD ?_);simp (disch:=first|decide|omega|(simp only [List.length_cons,List.length_nil];omega)) only [go_sem,↓aj hN,an hN,reduceIte,reduceCtorEq,Nat.reduceAdd,Nat.reduceLT,Nat.reduceLeDiff,Nat.reduceEqDiff,Nat.reduceSub])|(with_reducible refine And.intro (fun h=>?_) (fun h=>?_) <;> try (exfalso;omega))|(with_reducible refine aT aF hN ?_)|(with_reducible refine aX aF hN ?_)|(refine aE (cw) ?_ rfl (fun _=>rfl) ?_;focus ((repeat' (first|(with_reducible first|exact am|refine ah ?_ ?_|exact aZ _|refine ay ?_|exact ax _|exact aI _ _|refine aH ?_|exact au _)|exact az hN rfl rfl|(refine aG hN rfl ?_;first|exact aJ _|exact aK _)|exact aw rfl rfl rfl));done))|(refine aE (cb) ?_ rfl (fun _=>rfl) ?_;focus ((repeat' (first|(with_reducible first|exact am|refine ah ?_ ?_|exact aZ _|refine ay ?_|exact ax _|exact aI _ _|refine aH ?_|exact au _)|exact az hN rfl rfl|(refine aG hN rfl ?_;first|exact aJ _|exact aK _)|exact aw rfl rfl rfl));done))|(with_reducible first|exact am|refine ah ?_ ?_|exact aZ _|refine ay ?_|exact ax _|exact aI _ _|refine aH ?_|exact au _)|exact az hN rfl rfl|(refine aG hN rfl ?_;first|exact aJ _|exact aK _)|exact aw rfl rfl rfl|(simp only [aY,List.map_nil])|(with_reducible refine bm ?_)|(with_reducible refine And.intro ?_ ?_)|(refine ak ?_;omega)|(exact aS hN (by decide))))
         all_goals first|(exact absurd (by assumption) k0)|(exfalso;omega)|skip
         (refine ⟨v + 1,⟨?_,?_⟩,bL hX hN [] ?_ ?_⟩;(try any_goals dsimp only);(repeat' (first|(with_reducible first|exact clZ|refine bM ?_ ?_|refine bN ?_ ?_|rfl|refine suZ ?_)|refine bO rfl ?_ ?_|exact bv hN _ rfl rfl rfl|exact bw hN _ rfl rfl rfl|exact be hN _ rfl rfl rfl (Or.inr rfl)|(refine bx hN _ rfl rfl (by first|exact Or.inr rfl|exact Or.inl rfl) ?_;first|exact aJ _|exact aK _)|refine bf hN rfl ?_|refine bg hN rfl rfl ?_|exact bd hN _ rfl rfl|exact bc hN rfl rfl rfl rfl|(with_reducible first|refine stZ ?_|refine bu ?_)));(try (any_goals (first|(with_reducible rfl)|(refine ak ?_;omega)))))
         rw [hqs]
         exact (congrArg (C.V 3) (tN (by rw [hy];rfl))).symm
       · rw [ao hb] at cb
         have hn:=hn k0 hb
         (repeat' (first|(with_reducible first|(apply hK;clear hK K)|refine stZ ?_|refine aO rfl ?_|((first|apply ae|apply af);clear ae X af Y))|(with_reducible refine aR ?_;first|refine aP rfl ?_|refine aQ rfl ?_)|(with_reducible refine bB ?_;refine bE hN ?_)|((with_reducible first|((first|refine aU ?_|refine bF ?_|refine aV ?_|refine bG ?_);intro K hK)|(refine aC ?_;intro X Y ae af)|refine aD ?_);simp (disch:=first|decide|omega|(simp only [List.length_cons,List.length_nil];omega)) only [go_sem,↓aj hN,an hN,reduceIte,reduceCtorEq,Nat.reduceAdd,Nat.reduceLT,Nat.reduceLeDiff,Nat.reduceEqDiff,Nat.reduceSub])|(with_reducible refine And.intro (fun h=>?_) (fun h=>?_) <;> try (exfalso;omega))|(with_reducible refine aT aF hN ?_)|(with_reducible refine aX aF hN ?_)|(refine aE (cw) ?_ rfl (fun _=>rfl) ?_;focus ((repeat' (first|(with_reducible first|exact am|refine ah ?_ ?_|exact aZ _|refine ay ?_|exact ax _|exact aI _ _|refine aH ?_|exact au _)|exact az hN rfl rfl|(refine aG hN rfl ?_;first|exact aJ _|exact aK _)|exact aw rfl rfl rfl));done))|(refine aE (cb) ?_ rfl (fun _=>rfl) ?_;focus ((repeat' (first|(with_reducible first|exact am|refine ah ?_ ?_|exact aZ _|refine ay ?_|exact ax _|exact aI _ _|refine aH ?_|exact au _)|exact az hN rfl rfl|(refine aG hN rfl ?_;first|exact aJ _|exact aK _)|exact aw rfl rfl rfl));done))|(with_reducible first|exact am|refine ah ?_ ?_|exact aZ _|refine ay ?_|exact ax _|exact aI _ _|refine aH ?_|exact au _)|exact az hN rfl rfl|(refine aG hN rfl ?_;first|exact aJ _|exact aK _)|exact aw rfl rfl rfl|(simp only [aY,List.map_nil])|(with_reducible refine bm ?_)|(with_reducible refine And.intro ?_ ?_)|(refine ak ?_;omega)|(exact aS hN (by decide))))
         all_goals first|(exact absurd (by assumption) k0)|(exfalso;omega)|skip
         (refine ⟨v + 1,⟨?_,?_⟩,bL hX hN [] ?_ ?_⟩;(try any_goals dsimp only);(repeat' (first|(with_reducible first|exact clZ|refine bM ?_ ?_|refine bN ?_ ?_|rfl|refine suZ ?_)|refine bO rfl ?_ ?_|exact bv hN _ rfl rfl rfl|exact bw hN _ rfl rfl rfl|exact be hN _ rfl rfl rfl (Or.inr rfl)|(refine bx hN _ rfl rfl (by first|exact Or.inr rfl|exact Or.inl rfl) ?_;first|exact aJ _|exact aK _)|refine bf hN rfl ?_|refine bg hN rfl rfl ?_|exact bd hN _ rfl rfl|exact bc hN rfl rfl rfl rfl|(with_reducible first|refine stZ ?_|refine bu ?_)));(try (any_goals (first|(with_reducible rfl)|(refine ak ?_;omega)))))
         rw [hqs]
         exact (congrArg (C.V 3) (si hn.symm)).symm
   obtain rfl : v = g.prio.length:=by omega
   (repeat' (first|(with_reducible first|(apply hK;clear hK K)|refine stZ ?_|refine aO rfl ?_|((first|apply ae|apply af);clear ae X af Y))|(with_reducible refine aR ?_;first|refine aP rfl ?_|refine aQ rfl ?_)|(with_reducible refine bB ?_;refine bE hN ?_)|((with_reducible first|((first|refine aU ?_|refine bF ?_|refine aV ?_|refine bG ?_);intro K hK)|(refine aC ?_;intro X Y ae af)|refine aD ?_);simp (disch:=first|decide|omega|(simp only [List.length_cons,List.length_nil];omega)) only [go_sem,↓aj hN,an hN,reduceIte,reduceCtorEq,Nat.reduceAdd,Nat.reduceLT,Nat.reduceLeDiff,Nat.reduceEqDiff,Nat.reduceSub])|(with_reducible refine And.intro (fun h=>?_) (fun h=>?_) <;> try (exfalso;omega))|(with_reducible refine aT aF hN ?_)|(with_reducible refine aX aF hN ?_)|(with_reducible refine And.intro ?_ ?_)|(refine ak ?_;omega)|(exact aS hN (by decide))))
   (refine ⟨k + 1,⟨?_,?_⟩,bL hX hN [] ?_ ?_⟩;(try any_goals dsimp only);(repeat' (first|(with_reducible first|exact clZ|refine bM ?_ ?_|refine bN ?_ ?_|rfl|refine suZ ?_)|refine bO rfl ?_ ?_|exact bv hN _ rfl rfl rfl|exact bw hN _ rfl rfl rfl|exact be hN _ rfl rfl rfl (Or.inr rfl)|(refine bx hN _ rfl rfl (by first|exact Or.inr rfl|exact Or.inl rfl) ?_;first|exact aJ _|exact aK _)|refine bf hN rfl ?_|refine bg hN rfl rfl ?_|exact bd hN _ rfl rfl|exact bc hN rfl rfl rfl rfl|(with_reducible first|refine stZ ?_|refine bu ?_)));(try (any_goals (first|(with_reducible rfl)|(refine ak ?_;omega)))))
   have e1 : qN g (k + 1) 0 = g.prio.length:=if_neg (by omega)
   have e2 : qN g k g.prio.length = g.prio.length:=by unfold qN;split <;> rfl
   rw [e1,e2]
   exact (congrArg (C.V 3) xg).symm
 · obtain rfl : k = cF g:=by omega
   (repeat' (first|(with_reducible first|(apply hK;clear hK K)|refine stZ ?_|refine aO rfl ?_|((first|apply ae|apply af);clear ae X af Y))|(with_reducible refine aR ?_;first|refine aP rfl ?_|refine aQ rfl ?_)|(with_reducible refine bB ?_;refine bE hN ?_)|((with_reducible first|((first|refine aU ?_|refine bF ?_|refine aV ?_|refine bG ?_);intro K hK)|(refine aC ?_;intro X Y ae af)|refine aD ?_);simp (disch:=first|decide|omega|(simp only [List.length_cons,List.length_nil];omega)) only [go_sem,↓aj hN,an hN,reduceIte,reduceCtorEq,Nat.reduceAdd,Nat.reduceLT,Nat.reduceLeDiff,Nat.reduceEqDiff,Nat.reduceSub])|(with_reducible refine And.intro (fun h=>?_) (fun h=>?_) <;> try (exfalso;omega))|(with_reducible refine aT aF hN ?_)|(with_reducible refine aX aF hN ?_)|(with_reducible refine And.intro ?_ ?_)|(refine ak ?_;omega)|(exact aS hN (by decide))))
   (refine fX hN (i:=1) (.inr rfl) (by first|rfl|(simp (disch:=first|decide|omega|(simp only [List.length_cons,List.length_nil];omega)) only [bR,bU,bX,bY,go_sem,beq_self_eq_true,↓aW,↓aj hN,an hN,reduceIte,reduceCtorEq,Nat.reduceAdd,Nat.reduceLT,Nat.reduceLeDiff,Nat.reduceEqDiff,Nat.reduceSub];rfl)) rfl ?_ rfl)
   have e1 : qN g (cF g) 0 = g.prio.length:=if_neg (by omega)
   rw [e1]
end Go.Proofs.Ytlodllmpndflcaa
