/-
  Priority promotion, the program: a step.
-/
import Derived.Test.YtdkkhhfhdijfmaaZsP6
import Derived.Test.YtdkkhhfhdijfmaaZsFc
namespace Go.Proofs.Ytdkkhhfhdijfmaa
set_option linter.unusedVariables false
set_option linter.unusedSimpArgs false
open Go.RowKit
attribute [local irreducible] ay b9 Aw Le
noncomputable def im (n : Nat) (xs : List Int) (f : Nat → Int) (x : Int) (k : Nat) : List Int:=tab n fun v=>@ite Int (∃ j,j < k ∧ gi xs j = v) (Classical.propDecidable _) x (f v)
theorem io (n : Nat) (xs : List Int) (f : Nat → Int) (x : Int) (k : Nat) : (im n xs f x k).length = n:=bK _ _
theorem gx (n : Nat) (xs : List Int) (f : Nat → Int) (x : Int) : im n xs f x 0 = tab n f:=bp fun v _=>if_neg (by rintro ⟨j,h,_⟩;omega)
theorem gy {n : Nat} {xs : List Int} {f : Nat → Int} {x : Int} {k : Nat} (h0 : 0 ≤ gi xs k) (h1 : gi xs k < n) : im n xs f x (k + 1) = (im n xs f x k).set (gi xs k).toNat x:=by
 unfold im
 rw [gQ (by omega)]
 refine bp fun v hv=>?_
 by_cases e : v = (gi xs k).toNat
 · rw [if_pos e,if_pos ⟨k,by omega,by omega⟩]
 · rw [if_neg e]
   by_cases h : ∃ t,t < k ∧ gi xs t = v
   · rw [if_pos h,if_pos (let ⟨t,a,b⟩:=h;⟨t,by omega,b⟩)]
   · rw [if_neg h,if_neg fun h2=>h (let ⟨t,a,b⟩:=h2;⟨t,by
      rcases Nat.lt_or_ge t k with h'|h'
      · exact h'
      · exact absurd (show v = (gi xs k).toNat by rw [show k = t by omega,b,Int.toNat_natCast]) e,b⟩)]
theorem ip {n : Nat} {xs : List Int} {f g : Nat → Int} {x : Int} {p : Nat → Prop} (hp : ∀ v,v < n → ((v : Int) ∈ xs ↔ p v)) (hg : ∀ v,v < n → g v = @ite Int (p v) (Classical.propDecidable _) x (f v)) : im n xs f x xs.length = tab n g:=bp fun v hv=>by
 rw [hg v hv]
 have e : (∃ j,j < xs.length ∧ gi xs j = v) ↔ p v:=by rw [← hp v hv];exact gF.symm
 by_cases h : p v
 · rw [if_pos h,if_pos (e.2 h)]
 · rw [if_neg h,if_neg fun h'=>h (e.1 h')]
def mxL (f : Nat → Int) (xs : List Int) : Nat → Int
 | 0 => -1
 | k + 1 => max (mxL f xs k) (f (gi xs k).toNat)
theorem ub (f : Nat → Int) (xs : List Int) (k : Nat) : (if mxL f xs k < f (gi xs k).toNat then f (gi xs k).toNat else mxL f xs k) = mxL f xs (k + 1):=by
 show _ = max _ _
 split <;> omega
theorem q6 (f : Nat → Int) (xs : List Int) : ∀ k,-1 ≤ mxL f xs k ∧ ∀ j,j < k → f (gi xs j).toNat ≤ mxL f xs k
 | 0 => ⟨Int.le_refl _, fun j h => absurd h (Nat.not_lt_zero _)⟩
 | k + 1 => by
   obtain ⟨h1,h2⟩:=q6 f xs k
   show -1 ≤ max _ _ ∧ ∀ j,j < k + 1 → _ ≤ max _ _
   refine ⟨by omega,fun j hj=>?_⟩
   rcases Nat.lt_or_ge j k with h|h
   · have:=h2 j h;omega
   · rw [show j = k by omega];omega
theorem q7 (f : Nat → Int) (xs : List Int) : ∀ k,mxL f xs k = -1 ∨ ∃ j,j < k ∧ mxL f xs k = f (gi xs j).toNat
 | 0 => .inl rfl
 | k + 1 => by
   show max _ _ = _ ∨ ∃ j,j < k + 1 ∧ max _ _ = _
   rcases Int.lt_or_le (mxL f xs k) (f (gi xs k).toNat) with h|h
   · exact .inr ⟨k,by omega,by omega⟩
   · rcases q7 f xs k with h'|⟨j,h1,h2⟩
     · exact .inl (by omega)
     · exact .inr ⟨j,by omega,by omega⟩
theorem uc {f : Nat → Int} {xs : List Int} {n : Nat} {p : Nat → Prop} (hb : Bnd xs n) (hp : ∀ v,v < n → ((v : Int) ∈ xs ↔ p v)) : mxL f xs xs.length = mxN p f n:=by
 obtain ⟨a1,a2⟩:=q6 f xs xs.length
 have b1:=nz (p:=p) (f:=f) n
 have hm : ∀ j,j < xs.length → (gi xs j).toNat < n ∧ p (gi xs j).toNat:=fun j hj=>by
  have h:=hb j hj
  have h2 : (((gi xs j).toNat : Nat) : Int) = gi xs j:=Int.toNat_of_nonneg h.1
  exact ⟨by omega,(hp _ (by omega)).1 (by rw [h2];exact db hj)⟩
 have h1 : mxL f xs xs.length ≤ mxN p f n:=by
  rcases q7 f xs xs.length with h|⟨j,h1,h2⟩
  · omega
  · rw [h2];exact jL n _ (hm j h1).1 (hm j h1).2
 have h2 : mxN p f n ≤ mxL f xs xs.length:=by
  rcases jM (p:=p) (f:=f) n with ⟨h,_⟩|⟨v,h1,h2,h3⟩
  · omega
  · obtain ⟨j,h4,h5⟩:=d4 ((hp v h1).2 h2)
    have:=a2 j h4
    rw [h5,Int.toNat_natCast] at this
    omega
 omega
theorem iq {g : Pa} {s : St} {v : Nat} (hv : v < g.prio.length) : (v : Int) ∈ c9 g s ↔ Pul g s v:=by
 unfold c9
 rw [fX]
 exact ⟨fun ⟨u,_,h2,h3⟩=>by
  have : u = v:=by omega
  subst this;exact h2,fun h=>⟨v,hv,h,rfl⟩⟩
theorem fU (s : St) (h1 : s.won.length ≤ 1048576) (h2 : s.region.length ≤ 1048576) : ay Try.prog 57 [stA s] [.arr 2 .yes (.I s.won),.arr 2 .yes (.I s.region)] (fun ns=>.agg [.sl (ns.getD 0 0),.sl (ns.getD 1 0),.c (.int .i64 s.at_)]):=by
 (refine bv aE Try.func57 rfl rfl (by kernel_rfl) fun hp0 ν hX hN=>?_;simp only [co,Nat.reduceAdd])
 (repeat' (first|(with_reducible first|(apply hK;clear hK K)|refine stZ ?_|refine aQ rfl ?_|((first|apply ae|apply af);clear ae X af Y))|(with_reducible refine aT ?_;first|refine aR rfl ?_|refine aS rfl ?_)|(with_reducible refine bE ?_;refine bH hN ?_)|((with_reducible first|((first|refine aW ?_|refine bI ?_|refine aX ?_|refine bJ ?_);intro K hK)|(refine aC ?_;intro X Y ae af)|refine aD ?_);simp (disch:=first|decide|omega|(simp only [List.length_cons,List.length_nil];omega)) only [go_sem,↓aj hN,am hN,reduceIte,reduceCtorEq,Nat.reduceAdd,Nat.reduceLT,Nat.reduceLeDiff,Nat.reduceEqDiff,Nat.reduceSub])|(with_reducible refine And.intro (fun h=>?_) (fun h=>?_) <;> try (exfalso;omega))|(with_reducible refine aV aE hN ?_)|(with_reducible refine bi aE hN ?_)|(with_reducible refine And.intro ?_ ?_)|(refine ah ?_;omega)|(exact aU hN (by decide))))
 (refine dL hN [3,5] (by decide) (.inr rfl) (by first|exact cr rfl rfl|exact b8 hN rfl rfl rfl rfl|exact bR hN rfl rfl rfl rfl rfl|(simp (disch:=first|decide|omega|(simp only [List.length_cons,List.length_nil];omega)) only [bS,bV,bW,b7,go_sem,beq_self_eq_true,↓az,↓aj hN,am hN,reduceIte,reduceCtorEq,Nat.reduceAdd,Nat.reduceLT,Nat.reduceLeDiff,Nat.reduceEqDiff,Nat.reduceSub];rfl)|rfl) ?_ fun νs hνs=>?_;(repeat' (first|exact Gone.nil|(refine Gone.cons rfl rfl ?_ ?_)|(with_reducible refine cZ ?_)|(with_reducible refine cY ?_)|(with_reducible refine SVs.cons ?_ ?_)|(with_reducible exact SVs.nil)|(simp only [List.drop,List.take])|(simp (disch:=first|decide|omega) only [↓az,reduceIte,reduceCtorEq,Nat.reduceEqDiff])|(with_reducible exact fM _)|(with_reducible exact cW _)|(exact cX rfl rfl rfl)|(exact cx 0 (by simp) rfl rfl)|(exact cx 1 (by simp) rfl rfl)|(refine dK hN rfl (c7 hN (by decide)) ?_)|(with_reducible refine dJ ?_)|(with_reducible rfl)|(with_reducible refine fN ?_)|(with_reducible refine fO ?_)|(with_reducible refine fP ?_)|(with_reducible refine fo ?_)|(with_reducible refine fQ ?_)|(refine ah ?_;omega))))
set_option maxHeartbeats 2000000 in
theorem nE (g : Pa) (hg : PaOk g) (s : St) (hO : StOk g s) (h0 : 0 ≤ s.at_) (hn : ¬ cQ g s) : ay Try.prog 37 [paA g,stA s] [.arr 2 .yes (.I (cD g s).won),.arr 2 .yes (.I (cD g s).region)] (fun ns=>.tup [.agg [.sl (ns.getD 0 0),.sl (ns.getD 1 0),.c (.int .i64 (cD g s).at_)],.c (.int .i64 1)]):=by
 have hl:=hg.len
 have hle:=hg.ar.le
 have hlr:=hO.lr
 have hlw:=hO.lw
 have ha : s.at_ ≤ 40:=by rcases hO.at' with h1|h1 <;> omega
 have hp:=eo g hg s hO h0
 have hps:=ep g s
 have hpb:=hps.bnd
 have hpl:=cj hps (by omega)
 have hbl:=eU s s.at_ (by omega)
 have hbs:=ej hO s.at_
 have hbl2:=cj hbs (by omega)
 have hsh:=jP g hg s hO h0
 rw [aB hn] at hsh
 have hcp:=fU s (by omega) (by omega)
 have hls:=kz (eT s s.at_) (c9 g s) (by omega) (ls hps) (by omega)
 have hds:=i4 (p:=fun x=>¬ x ∈ c9 g s) hbs
 have hdb:=hds.bnd
 have hdl:=cj hds (by omega)
 have hmx:=uc (f:=gi s.region) (p:=fun v=>Blw g s s.at_ v ∧ ¬ Pul g s v) hdb fun v hv=>by rw [iK,dN hO,iq hv]
 (refine bv aE Try.func37 rfl rfl (by kernel_rfl) fun hp0 ν hX hN=>?_;simp only [co,Nat.reduceAdd])
 (repeat' (first|(with_reducible first|(apply hK;clear hK K)|refine stZ ?_|refine aQ rfl ?_|((first|apply ae|apply af);clear ae X af Y))|(with_reducible refine aT ?_;first|refine aR rfl ?_|refine aS rfl ?_)|(with_reducible refine bh ?_;first|refine aM rfl rfl rfl rfl ?_|refine bf rfl rfl rfl ?_|refine bB rfl rfl rfl rfl ?_)|(with_reducible refine bE ?_;first|refine bC rfl rfl rfl rfl ?_|refine bG rfl rfl rfl ?_|refine bY rfl rfl rfl rfl ?_|refine bH hN ?_)|((first|(with_reducible first|((first|refine aW ?_|refine bI ?_|refine aX ?_|refine bJ ?_);intro K hK)|(refine aC ?_;intro X Y ae af)|refine aD ?_)|(with_reducible refine bh ?_;refine aN rfl rfl fun X Y ae af=>?_)|(with_reducible refine bE ?_;refine bD rfl rfl fun X Y ae af=>?_));simp (disch:=first|decide|omega|(simp only [List.length_cons,List.length_nil];omega)) only [go_sem,↓aj hN,am hN,reduceIte,reduceCtorEq,Nat.reduceAdd,Nat.reduceLT,Nat.reduceLeDiff,Nat.reduceEqDiff,Nat.reduceSub])|(with_reducible refine And.intro (fun h=>?_) (fun h=>?_) <;> try (exfalso;omega))|(with_reducible refine aV aE hN ?_)|(with_reducible refine bi aE hN ?_)|((first|refine bd (hcp) ?_ rfl (fun _=>rfl) ?_|refine bd (hp) ?_ rfl (fun _=>rfl) ?_|refine bd (hsh) ?_ rfl (fun _=>rfl) ?_);focus ((repeat' (first|(with_reducible first|exact aA|refine ax ?_ ?_|exact bP _|refine a9 ?_|exact bc _|exact bA _ _|refine bz ?_|exact aZ _)|exact ba hN rfl rfl|(refine bw hN rfl ?_;first|exact aF _|exact aG _)|exact a8 rfl rfl rfl));done))|(with_reducible first|exact aA|refine ax ?_ ?_|exact bP _|refine a9 ?_|exact bc _|exact bA _ _|refine bz ?_|exact aZ _)|exact ba hN rfl rfl|(refine bw hN rfl ?_;first|exact aF _|exact aG _)|exact a8 rfl rfl rfl|(simp only [bt,List.map_nil])|(with_reducible refine bN ?_)|(with_reducible refine And.intro ?_ ?_)|(refine ah ?_;omega)|(exact aU hN (by decide))))
 (refine bM (fun (k : Nat)=>(tmL [(32,.c (.int .i64 k)),(31,.c (.int .i64 (c9 g s).length)),(30,.sl (ν 6)),(7,.sl (ν 6)),(6,.ad (ν 5) 0),(4,.ad (ν 2) 0),(3,.ad (ν 1) 0),(2,.ad (ν 0) 0)],hpL hp0 ν [.box [.c (.I g.ar.own),.c (.R g.ar.nxt),.c (.I g.prio)],stE s,.box [.c .nul,.c .nul,.c (.int .i64 0)],.arr 2 .yes (.I s.won),.arr 2 .yes (.I (im g.prio.length (c9 g s) (gi s.region) s.at_ k)),.box [.sl (ν 3),.sl (ν 4),.c (.int .i64 s.at_)],.arr 2 .yes (.I (c9 g s))])) (fun (k : Nat)=>k ≤ (c9 g s).length) (fun (k : Nat)=>(c9 g s).length - k) ⟨0,?_,bj hX hN [] ?_ ?_⟩ ?_;(repeat' (first|(with_reducible first|exact clZ|refine bm ?_ ?_|refine bn ?_ ?_|rfl|refine suZ ?_)|refine bo rfl ?_ ?_|exact aJ hN _ rfl rfl rfl|exact aK hN _ rfl rfl rfl|exact ap hN _ rfl rfl rfl (Or.inr rfl)|(refine aL hN _ rfl rfl (by first|exact Or.inr rfl|exact Or.inl rfl) ?_;first|exact aF _|exact aG _)|refine aq hN rfl ?_|refine au hN rfl rfl ?_|exact ao hN _ rfl rfl|exact aw hN rfl rfl rfl rfl|(with_reducible first|refine stZ ?_|refine aI ?_)));(try (any_goals (first|(with_reducible rfl)|(refine ah ?_;omega)))))
 · rw [gx,← hlr];exact dg _
 intro k hk
 have hpk:=hpb k
 have htl:=io g.prio.length (c9 g s) (gi s.region) s.at_ k
 rcases Nat.lt_or_ge k (c9 g s).length with hkl|hkl
 · (repeat' (first|(with_reducible first|(apply hK;clear hK K)|refine stZ ?_|refine aQ rfl ?_|((first|apply ae|apply af);clear ae X af Y))|(with_reducible refine aT ?_;first|refine aR rfl ?_|refine aS rfl ?_)|(with_reducible refine bh ?_;first|refine aM rfl rfl rfl rfl ?_|refine bf rfl rfl rfl ?_|refine bB rfl rfl rfl rfl ?_)|(with_reducible refine bE ?_;first|refine bC rfl rfl rfl rfl ?_|refine bG rfl rfl rfl ?_|refine bY rfl rfl rfl rfl ?_|refine bH hN ?_)|((first|(with_reducible first|((first|refine aW ?_|refine bI ?_|refine aX ?_|refine bJ ?_);intro K hK)|(refine aC ?_;intro X Y ae af)|refine aD ?_)|(with_reducible refine bh ?_;refine aN rfl rfl fun X Y ae af=>?_)|(with_reducible refine bE ?_;refine bD rfl rfl fun X Y ae af=>?_));simp (disch:=first|decide|omega|(simp only [List.length_cons,List.length_nil];omega)) only [go_sem,↓aj hN,am hN,reduceIte,reduceCtorEq,Nat.reduceAdd,Nat.reduceLT,Nat.reduceLeDiff,Nat.reduceEqDiff,Nat.reduceSub])|(with_reducible refine And.intro (fun h=>?_) (fun h=>?_) <;> try (exfalso;omega))|(with_reducible refine aV aE hN ?_)|(with_reducible refine bi aE hN ?_)|(with_reducible refine And.intro ?_ ?_)|(refine ah ?_;omega)|(exact aU hN (by decide))))
   (refine ⟨k + 1,⟨?_,?_⟩,bj hX hN [] ?_ ?_⟩;(try any_goals dsimp only);(repeat' (first|(with_reducible first|exact clZ|refine bm ?_ ?_|refine bn ?_ ?_|rfl|refine suZ ?_)|refine bo rfl ?_ ?_|exact aJ hN _ rfl rfl rfl|exact aK hN _ rfl rfl rfl|exact ap hN _ rfl rfl rfl (Or.inr rfl)|(refine aL hN _ rfl rfl (by first|exact Or.inr rfl|exact Or.inl rfl) ?_;first|exact aF _|exact aG _)|refine aq hN rfl ?_|refine au hN rfl rfl ?_|exact ao hN _ rfl rfl|exact aw hN rfl rfl rfl rfl|(with_reducible first|refine stZ ?_|refine aI ?_)));(try (any_goals (first|(with_reducible rfl)|(refine ah ?_;omega)))))
   exact gy (by omega) (by omega)
 obtain rfl : k = (c9 g s).length:=by omega
 have hreg : im g.prio.length (c9 g s) (gi s.region) s.at_ (c9 g s).length = (cD g s).region:=ip (p:=Pul g s) (fun v hv=>iq hv) fun v _=>rfl
 rw [hreg]
 generalize hD : e8 (fun x=>¬ x ∈ c9 g s) (eT s s.at_) (eT s s.at_).length = D at *
 (repeat' (first|(with_reducible first|(apply hK;clear hK K)|refine stZ ?_|refine aQ rfl ?_|((first|apply ae|apply af);clear ae X af Y))|(with_reducible refine aT ?_;first|refine aR rfl ?_|refine aS rfl ?_)|(with_reducible refine bh ?_;first|refine aM rfl rfl rfl rfl ?_|refine bf rfl rfl rfl ?_|refine bB rfl rfl rfl rfl ?_)|(with_reducible refine bE ?_;first|refine bC rfl rfl rfl rfl ?_|refine bG rfl rfl rfl ?_|refine bY rfl rfl rfl rfl ?_|refine bH hN ?_)|((first|(with_reducible first|((first|refine aW ?_|refine bI ?_|refine aX ?_|refine bJ ?_);intro K hK)|(refine aC ?_;intro X Y ae af)|refine aD ?_)|(with_reducible refine bh ?_;refine aN rfl rfl fun X Y ae af=>?_)|(with_reducible refine bE ?_;refine bD rfl rfl fun X Y ae af=>?_));simp (disch:=first|decide|omega|(simp only [List.length_cons,List.length_nil];omega)) only [go_sem,↓aj hN,am hN,reduceIte,reduceCtorEq,Nat.reduceAdd,Nat.reduceLT,Nat.reduceLeDiff,Nat.reduceEqDiff,Nat.reduceSub])|(with_reducible refine And.intro (fun h=>?_) (fun h=>?_) <;> try (exfalso;omega))|(with_reducible refine aV aE hN ?_)|(with_reducible refine bi aE hN ?_)|((first|refine bd (hbl) ?_ rfl (fun _=>rfl) ?_|refine bd (hls) ?_ rfl (fun _=>rfl) ?_);focus ((repeat' (first|(with_reducible first|exact aA|refine ax ?_ ?_|exact bP _|refine a9 ?_|exact bc _|exact bA _ _|refine bz ?_|exact aZ _)|exact ba hN rfl rfl|(refine bw hN rfl ?_;first|exact aF _|exact aG _)|exact a8 rfl rfl rfl));done))|(with_reducible first|exact aA|refine ax ?_ ?_|exact bP _|refine a9 ?_|exact bc _|exact bA _ _|refine bz ?_|exact aZ _)|exact ba hN rfl rfl|(refine bw hN rfl ?_;first|exact aF _|exact aG _)|exact a8 rfl rfl rfl|(simp only [bt,List.map_nil])|(with_reducible refine bN ?_)|(with_reducible refine And.intro ?_ ?_)|(refine ah ?_;omega)|(exact aU hN (by decide))))
 (refine bM (fun (k : Nat)=>(tmL [(51,.c (.int .i64 k)),(50,.c (.int .i64 D.length)),(49,.sl (ν 8)),(6,.ad (ν 5) 0),(4,.ad (ν 2) 0),(3,.ad (ν 1) 0)],hpL hp0 ν [.dead,stE s,.box [.c .nul,.c .nul,.c (.int .i64 0)],.arr 2 .yes (.I s.won),.arr 2 .yes (.I (cD g s).region),.box [.sl (ν 3),.sl (ν 4),.c (.int .i64 (mxL (gi s.region) D k))],.dead,.dead,.arr 2 .yes (.I D)])) (fun (k : Nat)=>k ≤ D.length) (fun (k : Nat)=>D.length - k) ⟨0,?_,bj hX hN [] ?_ ?_⟩ ?_;(repeat' (first|(with_reducible first|exact clZ|refine bm ?_ ?_|refine bn ?_ ?_|rfl|refine suZ ?_)|refine bo rfl ?_ ?_|exact aJ hN _ rfl rfl rfl|exact aK hN _ rfl rfl rfl|exact ap hN _ rfl rfl rfl (Or.inr rfl)|(refine aL hN _ rfl rfl (by first|exact Or.inr rfl|exact Or.inl rfl) ?_;first|exact aF _|exact aG _)|refine aq hN rfl ?_|refine au hN rfl rfl ?_|exact ao hN _ rfl rfl|exact aw hN rfl rfl rfl rfl|(with_reducible first|refine stZ ?_|refine aI ?_)));(try (any_goals (first|(with_reducible rfl)|(refine ah ?_;omega)))))
 · rfl
 intro k hk
 have hdk:=hdb k
 rcases Nat.lt_or_ge k D.length with hkl2|hkl2
 · (repeat' (first|(with_reducible first|(apply hK;clear hK K)|refine stZ ?_|refine aQ rfl ?_|((first|apply ae|apply af);clear ae X af Y))|(with_reducible refine aT ?_;first|refine aR rfl ?_|refine aS rfl ?_)|(with_reducible refine bh ?_;first|refine aM rfl rfl rfl rfl ?_|refine bf rfl rfl rfl ?_|refine bB rfl rfl rfl rfl ?_)|(with_reducible refine bE ?_;first|refine bC rfl rfl rfl rfl ?_|refine bG rfl rfl rfl ?_|refine bY rfl rfl rfl rfl ?_|refine bH hN ?_)|((first|(with_reducible first|((first|refine aW ?_|refine bI ?_|refine aX ?_|refine bJ ?_);intro K hK)|(refine aC ?_;intro X Y ae af)|refine aD ?_)|(with_reducible refine bh ?_;refine aN rfl rfl fun X Y ae af=>?_)|(with_reducible refine bE ?_;refine bD rfl rfl fun X Y ae af=>?_));simp (disch:=first|decide|omega|(simp only [List.length_cons,List.length_nil];omega)) only [go_sem,↓aj hN,am hN,reduceIte,reduceCtorEq,Nat.reduceAdd,Nat.reduceLT,Nat.reduceLeDiff,Nat.reduceEqDiff,Nat.reduceSub])|(with_reducible refine And.intro (fun h=>?_) (fun h=>?_) <;> try (exfalso;omega))|(with_reducible refine aV aE hN ?_)|(with_reducible refine bi aE hN ?_)|(with_reducible refine And.intro ?_ ?_)|(refine ah ?_;omega)|(exact aU hN (by decide))))
   (refine ⟨k + 1,⟨?_,?_⟩,bj hX hN [] ?_ ?_⟩;(try any_goals dsimp only);(repeat' (first|(with_reducible first|exact clZ|refine bm ?_ ?_|refine bn ?_ ?_|rfl|refine suZ ?_)|refine bo rfl ?_ ?_|exact aJ hN _ rfl rfl rfl|exact aK hN _ rfl rfl rfl|exact ap hN _ rfl rfl rfl (Or.inr rfl)|(refine aL hN _ rfl rfl (by first|exact Or.inr rfl|exact Or.inl rfl) ?_;first|exact aF _|exact aG _)|refine aq hN rfl ?_|refine au hN rfl rfl ?_|exact ao hN _ rfl rfl|exact aw hN rfl rfl rfl rfl|(with_reducible first|refine stZ ?_|refine aI ?_)));(try (any_goals (first|(with_reducible rfl)|(refine ah ?_;omega)))))
   exact ub _ _ _
 obtain rfl : k = D.length:=by omega
 rw [hmx]
 (repeat' (first|(with_reducible first|(apply hK;clear hK K)|refine stZ ?_|refine aQ rfl ?_|((first|apply ae|apply af);clear ae X af Y))|(with_reducible refine aT ?_;first|refine aR rfl ?_|refine aS rfl ?_)|(with_reducible refine bh ?_;first|refine aM rfl rfl rfl rfl ?_|refine bf rfl rfl rfl ?_|refine bB rfl rfl rfl rfl ?_)|(with_reducible refine bE ?_;first|refine bC rfl rfl rfl rfl ?_|refine bG rfl rfl rfl ?_|refine bY rfl rfl rfl rfl ?_|refine bH hN ?_)|((first|(with_reducible first|((first|refine aW ?_|refine bI ?_|refine aX ?_|refine bJ ?_);intro K hK)|(refine aC ?_;intro X Y ae af)|refine aD ?_)|(with_reducible refine bh ?_;refine aN rfl rfl fun X Y ae af=>?_)|(with_reducible refine bE ?_;refine bD rfl rfl fun X Y ae af=>?_));simp (disch:=first|decide|omega|(simp only [List.length_cons,List.length_nil];omega)) only [go_sem,↓aj hN,am hN,reduceIte,reduceCtorEq,Nat.reduceAdd,Nat.reduceLT,Nat.reduceLeDiff,Nat.reduceEqDiff,Nat.reduceSub])|(with_reducible refine And.intro (fun h=>?_) (fun h=>?_) <;> try (exfalso;omega))|(with_reducible refine aV aE hN ?_)|(with_reducible refine bi aE hN ?_)|(with_reducible refine And.intro ?_ ?_)|(refine ah ?_;omega)|(exact aU hN (by decide))))
 (refine dL hN [3,4] (by decide) (.inr rfl) (by first|exact cr rfl rfl|exact b8 hN rfl rfl rfl rfl|exact bR hN rfl rfl rfl rfl rfl|(simp (disch:=first|decide|omega|(simp only [List.length_cons,List.length_nil];omega)) only [bS,bV,bW,b7,go_sem,beq_self_eq_true,↓az,↓aj hN,am hN,reduceIte,reduceCtorEq,Nat.reduceAdd,Nat.reduceLT,Nat.reduceLeDiff,Nat.reduceEqDiff,Nat.reduceSub];rfl)|rfl) ?_ fun νs hνs=>?_;(repeat' (first|exact Gone.nil|(refine Gone.cons rfl rfl ?_ ?_)|(with_reducible refine cZ ?_)|(with_reducible refine cY ?_)|(with_reducible refine SVs.cons ?_ ?_)|(with_reducible exact SVs.nil)|(simp only [List.drop,List.take])|(simp (disch:=first|decide|omega) only [↓az,reduceIte,reduceCtorEq,Nat.reduceEqDiff])|(with_reducible exact fM _)|(with_reducible exact cW _)|(exact cX rfl rfl rfl)|(exact cx 0 (by simp) rfl rfl)|(exact cx 1 (by simp) rfl rfl)|(refine dK hN rfl (c7 hN (by decide)) ?_)|(with_reducible refine dJ ?_)|(with_reducible rfl)|(with_reducible refine fN ?_)|(with_reducible refine fO ?_)|(with_reducible refine fP ?_)|(with_reducible refine fo ?_)|(with_reducible refine fQ ?_)|(refine ah ?_;omega))))
 all_goals rfl
end Go.Proofs.Ytdkkhhfhdijfmaa
