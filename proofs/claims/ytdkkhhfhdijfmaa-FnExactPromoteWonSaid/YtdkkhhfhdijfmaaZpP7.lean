/-
  Priority promotion, the program: a step.
-/
import Derived.Test.YtdkkhhfhdijfmaaZpP6
import Derived.Test.YtdkkhhfhdijfmaaZpFc
namespace Go.Proofs.Ytdkkhhfhdijfmaa
set_option linter.unusedVariables false
set_option linter.unusedSimpArgs false
open Go.RowKit
attribute [local irreducible] ay b8 Aw Le
noncomputable def ia (n : Nat) (xs : List Int) (f : Nat → Int) (x : Int) (k : Nat) : List Int:=tab n fun v=>@ite Int (∃ j,j < k ∧ gi xs j = v) (Classical.propDecidable _) x (f v)
theorem ib (n : Nat) (xs : List Int) (f : Nat → Int) (x : Int) (k : Nat) : (ia n xs f x k).length = n:=bQ _ _
theorem gm (n : Nat) (xs : List Int) (f : Nat → Int) (x : Int) : ia n xs f x 0 = tab n f:=bo fun v _=>if_neg (by rintro ⟨j,h,_⟩;omega)
theorem gn {n : Nat} {xs : List Int} {f : Nat → Int} {x : Int} {k : Nat} (h0 : 0 ≤ gi xs k) (h1 : gi xs k < n) : ia n xs f x (k + 1) = (ia n xs f x k).set (gi xs k).toNat x:=by
 unfold ia
 rw [gI (by omega)]
 refine bo fun v hv=>?_
 by_cases e : v = (gi xs k).toNat
 · rw [if_pos e,if_pos ⟨k,by omega,by omega⟩]
 · rw [if_neg e]
   by_cases h : ∃ t,t < k ∧ gi xs t = v
   · rw [if_pos h,if_pos (let ⟨t,a,b⟩:=h;⟨t,by omega,b⟩)]
   · rw [if_neg h,if_neg fun h2=>h (let ⟨t,a,b⟩:=h2;⟨t,by
      rcases Nat.lt_or_ge t k with h'|h'
      · exact h'
      · exact absurd (show v = (gi xs k).toNat by rw [show k = t by omega,b,Int.toNat_natCast]) e,b⟩)]
theorem ic {n : Nat} {xs : List Int} {f g : Nat → Int} {x : Int} {p : Nat → Prop} (hp : ∀ v,v < n → ((v : Int) ∈ xs ↔ p v)) (hg : ∀ v,v < n → g v = @ite Int (p v) (Classical.propDecidable _) x (f v)) : ia n xs f x xs.length = tab n g:=bo fun v hv=>by
 rw [hg v hv]
 have e : (∃ j,j < xs.length ∧ gi xs j = v) ↔ p v:=by rw [← hp v hv];exact gy.symm
 by_cases h : p v
 · rw [if_pos h,if_pos (e.2 h)]
 · rw [if_neg h,if_neg fun h'=>h (e.1 h')]
def mxL (f : Nat → Int) (xs : List Int) : Nat → Int
 | 0 => -1
 | k + 1 => max (mxL f xs k) (f (gi xs k).toNat)
theorem tJ (f : Nat → Int) (xs : List Int) (k : Nat) : (if mxL f xs k < f (gi xs k).toNat then f (gi xs k).toNat else mxL f xs k) = mxL f xs (k + 1):=by
 show _ = max _ _
 split <;> omega
theorem qN (f : Nat → Int) (xs : List Int) : ∀ k,-1 ≤ mxL f xs k ∧ ∀ j,j < k → f (gi xs j).toNat ≤ mxL f xs k
 | 0 => ⟨Int.le_refl _, fun j h => absurd h (Nat.not_lt_zero _)⟩
 | k + 1 => by
   obtain ⟨h1,h2⟩:=qN f xs k
   show -1 ≤ max _ _ ∧ ∀ j,j < k + 1 → _ ≤ max _ _
   refine ⟨by omega,fun j hj=>?_⟩
   rcases Nat.lt_or_ge j k with h|h
   · have:=h2 j h;omega
   · rw [show j = k by omega];omega
theorem qO (f : Nat → Int) (xs : List Int) : ∀ k,mxL f xs k = -1 ∨ ∃ j,j < k ∧ mxL f xs k = f (gi xs j).toNat
 | 0 => .inl rfl
 | k + 1 => by
   show max _ _ = _ ∨ ∃ j,j < k + 1 ∧ max _ _ = _
   rcases Int.lt_or_le (mxL f xs k) (f (gi xs k).toNat) with h|h
   · exact .inr ⟨k,by omega,by omega⟩
   · rcases qO f xs k with h'|⟨j,h1,h2⟩
     · exact .inl (by omega)
     · exact .inr ⟨j,by omega,by omega⟩
theorem tK {f : Nat → Int} {xs : List Int} {n : Nat} {p : Nat → Prop} (hb : Bnd xs n) (hp : ∀ v,v < n → ((v : Int) ∈ xs ↔ p v)) : mxL f xs xs.length = mxN p f n:=by
 obtain ⟨a1,a2⟩:=qN f xs xs.length
 have b1:=nj (p:=p) (f:=f) n
 have hm : ∀ j,j < xs.length → (gi xs j).toNat < n ∧ p (gi xs j).toNat:=fun j hj=>by
  have h:=hb j hj
  have h2 : (((gi xs j).toNat : Nat) : Int) = gi xs j:=Int.toNat_of_nonneg h.1
  exact ⟨by omega,(hp _ (by omega)).1 (by rw [h2];exact c8 hj)⟩
 have h1 : mxL f xs xs.length ≤ mxN p f n:=by
  rcases qO f xs xs.length with h|⟨j,h1,h2⟩
  · omega
  · rw [h2];exact jE n _ (hm j h1).1 (hm j h1).2
 have h2 : mxN p f n ≤ mxL f xs xs.length:=by
  rcases jF (p:=p) (f:=f) n with ⟨h,_⟩|⟨v,h1,h2,h3⟩
  · omega
  · obtain ⟨j,h4,h5⟩:=dX ((hp v h1).2 h2)
    have:=a2 j h4
    rw [h5,Int.toNat_natCast] at this
    omega
 omega
theorem ig {g : Pa} {s : St} {v : Nat} (hv : v < g.prio.length) : (v : Int) ∈ cY g s ↔ Pul g s v:=by
 unfold cY
 rw [fR]
 exact ⟨fun ⟨u,_,h2,h3⟩=>by
  have : u = v:=by omega
  subst this;exact h2,fun h=>⟨v,hv,h,rfl⟩⟩
theorem fO (s : St) (h1 : s.won.length ≤ 1048576) (h2 : s.region.length ≤ 1048576) : ay Try.prog 57 [stA s] [.arr 2 .yes (.I s.won),.arr 2 .yes (.I s.region)] (fun ns=>.agg [.sl (ns.getD 0 0),.sl (ns.getD 1 0),.c (.int .i64 s.at_)]):=by
 (refine bv aE Try.func57 rfl rfl (by kernel_rfl) fun hp0 ν hX hN=>?_;simp only [cr,Nat.reduceAdd])
 (repeat' (first|(with_reducible first|(apply hK;clear hK K)|refine stZ ?_|refine aP rfl ?_|((first|apply ae|apply af);clear ae X af Y))|(with_reducible refine aS ?_;first|refine aQ rfl ?_|refine aR rfl ?_)|(with_reducible refine bE ?_;refine bH hN ?_)|((with_reducible first|((first|refine aV ?_|refine bI ?_|refine aW ?_|refine bJ ?_);intro K hK)|(refine aB ?_;intro X Y ae af)|refine aC ?_);simp (disch:=first|decide|omega|(simp only [List.length_cons,List.length_nil];omega)) only [go_sem,↓aj hN,ak hN,reduceIte,reduceCtorEq,Nat.reduceAdd,Nat.reduceLT,Nat.reduceLeDiff,Nat.reduceEqDiff,Nat.reduceSub])|(with_reducible refine And.intro (fun h=>?_) (fun h=>?_) <;> try (exfalso;omega))|(with_reducible refine aU aE hN ?_)|(with_reducible refine bh aE hN ?_)|(with_reducible refine And.intro ?_ ?_)|(refine ah ?_;omega)|(exact aT hN (by decide))))
 (refine dz hN [3,5] (by decide) (.inr rfl) (by first|exact cg rfl rfl|exact bV hN rfl rfl rfl rfl|exact bP hN rfl rfl rfl rfl rfl|(simp (disch:=first|decide|omega|(simp only [List.length_cons,List.length_nil];omega)) only [bS,bU,bW,b7,go_sem,beq_self_eq_true,↓az,↓aj hN,ak hN,reduceIte,reduceCtorEq,Nat.reduceAdd,Nat.reduceLT,Nat.reduceLeDiff,Nat.reduceEqDiff,Nat.reduceSub];rfl)|rfl) ?_ fun νs hνs=>?_;(repeat' (first|exact Gone.nil|(refine Gone.cons rfl rfl ?_ ?_)|(with_reducible refine cR ?_)|(with_reducible refine cQ ?_)|(with_reducible refine SVs.cons ?_ ?_)|(with_reducible exact SVs.nil)|(simp only [List.drop,List.take])|(simp (disch:=first|decide|omega) only [↓az,reduceIte,reduceCtorEq,Nat.reduceEqDiff])|(with_reducible exact fi _)|(with_reducible exact cO _)|(exact cP rfl rfl rfl)|(exact cw 0 (by simp) rfl rfl)|(exact cw 1 (by simp) rfl rfl)|(refine dy hN rfl (cS hN (by decide)) ?_)|(with_reducible refine dx ?_)|(with_reducible rfl)|(with_reducible refine fj ?_)|(with_reducible refine fk ?_)|(with_reducible refine fl ?_)|(with_reducible refine fa ?_)|(with_reducible refine fm ?_)|(refine ah ?_;omega))))
set_option maxHeartbeats 2000000 in
theorem nr (g : Pa) (hg : PaOk g) (s : St) (hO : StOk g s) (h0 : 0 ≤ s.at_) (hn : ¬ cT g s) : ay Try.prog 37 [paA g,stA s] [.arr 2 .yes (.I (cE g s).won),.arr 2 .yes (.I (cE g s).region)] (fun ns=>.tup [.agg [.sl (ns.getD 0 0),.sl (ns.getD 1 0),.c (.int .i64 (cE g s).at_)],.c (.int .i64 1)]):=by
 have hl:=hg.len
 have hle:=hg.ar.le
 have hlr:=hO.lr
 have hlw:=hO.lw
 have ha : s.at_ ≤ 40:=by rcases hO.at' with h1|h1 <;> omega
 have hp:=ee g hg s hO h0
 have hps:=ef g s
 have hpb:=hps.bnd
 have hpl:=ck hps (by omega)
 have hbl:=eN s s.at_ (by omega)
 have hbs:=ec hO s.at_
 have hbl2:=ck hbs (by omega)
 have hsh:=jI g hg s hO h0
 rw [aD hn] at hsh
 have hcp:=fO s (by omega) (by omega)
 have hls:=kt (eM s s.at_) (cY g s) (by omega) (li hps) (by omega)
 have hds:=iS (p:=fun x=>¬ x ∈ cY g s) hbs
 have hdb:=hds.bnd
 have hdl:=ck hds (by omega)
 have hmx:=tK (f:=gi s.region) (p:=fun v=>Blw g s s.at_ v ∧ ¬ Pul g s v) hdb fun v hv=>by rw [iE,dK hO,ig hv]
 (refine bv aE Try.func37 rfl rfl (by kernel_rfl) fun hp0 ν hX hN=>?_;simp only [cr,Nat.reduceAdd])
 (repeat' (first|(with_reducible first|(apply hK;clear hK K)|refine stZ ?_|refine aP rfl ?_|((first|apply ae|apply af);clear ae X af Y))|(with_reducible refine aS ?_;first|refine aQ rfl ?_|refine aR rfl ?_)|(with_reducible refine bg ?_;first|refine aM rfl rfl rfl rfl ?_|refine bf rfl rfl rfl ?_|refine bB rfl rfl rfl rfl ?_)|(with_reducible refine bE ?_;first|refine bC rfl rfl rfl rfl ?_|refine bG rfl rfl rfl ?_|refine bY rfl rfl rfl rfl ?_|refine bH hN ?_)|((first|(with_reducible first|((first|refine aV ?_|refine bI ?_|refine aW ?_|refine bJ ?_);intro K hK)|(refine aB ?_;intro X Y ae af)|refine aC ?_)|(with_reducible refine bg ?_;refine aN rfl rfl fun X Y ae af=>?_)|(with_reducible refine bE ?_;refine bD rfl rfl fun X Y ae af=>?_));simp (disch:=first|decide|omega|(simp only [List.length_cons,List.length_nil];omega)) only [go_sem,↓aj hN,ak hN,reduceIte,reduceCtorEq,Nat.reduceAdd,Nat.reduceLT,Nat.reduceLeDiff,Nat.reduceEqDiff,Nat.reduceSub])|(with_reducible refine And.intro (fun h=>?_) (fun h=>?_) <;> try (exfalso;omega))|(with_reducible refine aU aE hN ?_)|(with_reducible refine bh aE hN ?_)|((first|refine bc (hcp) ?_ rfl (fun _=>rfl) ?_|refine bc (hp) ?_ rfl (fun _=>rfl) ?_|refine bc (hsh) ?_ rfl (fun _=>rfl) ?_);focus ((repeat' (first|(with_reducible first|exact aA|refine ax ?_ ?_|exact bO _|refine a8 ?_|exact ba _|exact bA _ _|refine bz ?_|exact aY _)|exact a9 hN rfl rfl|(refine bw hN rfl ?_;first|exact aF _|exact aG _)|exact aZ rfl rfl rfl));done))|(with_reducible first|exact aA|refine ax ?_ ?_|exact bO _|refine a8 ?_|exact ba _|exact bA _ _|refine bz ?_|exact aY _)|exact a9 hN rfl rfl|(refine bw hN rfl ?_;first|exact aF _|exact aG _)|exact aZ rfl rfl rfl|(simp only [bt,List.map_nil])|(with_reducible refine bM ?_)|(with_reducible refine And.intro ?_ ?_)|(refine ah ?_;omega)|(exact aT hN (by decide))))
 (refine bL (fun (k : Nat)=>(tmL [(32,.c (.int .i64 k)),(31,.c (.int .i64 (cY g s).length)),(30,.sl (ν 6)),(7,.sl (ν 6)),(6,.ad (ν 5) 0),(4,.ad (ν 2) 0),(3,.ad (ν 1) 0),(2,.ad (ν 0) 0)],hpL hp0 ν [.box [.c (.I g.ar.own),.c (.R g.ar.nxt),.c (.I g.prio)],stE s,.box [.c .nul,.c .nul,.c (.int .i64 0)],.arr 2 .yes (.I s.won),.arr 2 .yes (.I (ia g.prio.length (cY g s) (gi s.region) s.at_ k)),.box [.sl (ν 3),.sl (ν 4),.c (.int .i64 s.at_)],.arr 2 .yes (.I (cY g s))])) (fun (k : Nat)=>k ≤ (cY g s).length) (fun (k : Nat)=>(cY g s).length - k) ⟨0,?_,bi hX hN [] ?_ ?_⟩ ?_;(repeat' (first|(with_reducible first|exact clZ|refine bj ?_ ?_|refine bm ?_ ?_|rfl|refine suZ ?_)|refine bn rfl ?_ ?_|exact aI hN _ rfl rfl rfl|exact aJ hN _ rfl rfl rfl|exact ap hN _ rfl rfl rfl (Or.inr rfl)|(refine aK hN _ rfl rfl (by first|exact Or.inr rfl|exact Or.inl rfl) ?_;first|exact aF _|exact aG _)|refine aq hN rfl ?_|refine au hN rfl rfl ?_|exact ao hN _ rfl rfl|exact aw hN rfl rfl rfl rfl|(with_reducible first|refine stZ ?_|refine aH ?_)));(try (any_goals (first|(with_reducible rfl)|(refine ah ?_;omega)))))
 · rw [gm,← hlr];exact dd _
 intro k hk
 have hpk:=hpb k
 have htl:=ib g.prio.length (cY g s) (gi s.region) s.at_ k
 rcases Nat.lt_or_ge k (cY g s).length with hkl|hkl
 · (repeat' (first|(with_reducible first|(apply hK;clear hK K)|refine stZ ?_|refine aP rfl ?_|((first|apply ae|apply af);clear ae X af Y))|(with_reducible refine aS ?_;first|refine aQ rfl ?_|refine aR rfl ?_)|(with_reducible refine bg ?_;first|refine aM rfl rfl rfl rfl ?_|refine bf rfl rfl rfl ?_|refine bB rfl rfl rfl rfl ?_)|(with_reducible refine bE ?_;first|refine bC rfl rfl rfl rfl ?_|refine bG rfl rfl rfl ?_|refine bY rfl rfl rfl rfl ?_|refine bH hN ?_)|((first|(with_reducible first|((first|refine aV ?_|refine bI ?_|refine aW ?_|refine bJ ?_);intro K hK)|(refine aB ?_;intro X Y ae af)|refine aC ?_)|(with_reducible refine bg ?_;refine aN rfl rfl fun X Y ae af=>?_)|(with_reducible refine bE ?_;refine bD rfl rfl fun X Y ae af=>?_));simp (disch:=first|decide|omega|(simp only [List.length_cons,List.length_nil];omega)) only [go_sem,↓aj hN,ak hN,reduceIte,reduceCtorEq,Nat.reduceAdd,Nat.reduceLT,Nat.reduceLeDiff,Nat.reduceEqDiff,Nat.reduceSub])|(with_reducible refine And.intro (fun h=>?_) (fun h=>?_) <;> try (exfalso;omega))|(with_reducible refine aU aE hN ?_)|(with_reducible refine bh aE hN ?_)|(with_reducible refine And.intro ?_ ?_)|(refine ah ?_;omega)|(exact aT hN (by decide))))
   (refine ⟨k + 1,⟨?_,?_⟩,bi hX hN [] ?_ ?_⟩;(try any_goals dsimp only);(repeat' (first|(with_reducible first|exact clZ|refine bj ?_ ?_|refine bm ?_ ?_|rfl|refine suZ ?_)|refine bn rfl ?_ ?_|exact aI hN _ rfl rfl rfl|exact aJ hN _ rfl rfl rfl|exact ap hN _ rfl rfl rfl (Or.inr rfl)|(refine aK hN _ rfl rfl (by first|exact Or.inr rfl|exact Or.inl rfl) ?_;first|exact aF _|exact aG _)|refine aq hN rfl ?_|refine au hN rfl rfl ?_|exact ao hN _ rfl rfl|exact aw hN rfl rfl rfl rfl|(with_reducible first|refine stZ ?_|refine aH ?_)));(try (any_goals (first|(with_reducible rfl)|(refine ah ?_;omega)))))
   exact gn (by omega) (by omega)
 obtain rfl : k = (cY g s).length:=by omega
 have hreg : ia g.prio.length (cY g s) (gi s.region) s.at_ (cY g s).length = (cE g s).region:=ic (p:=Pul g s) (fun v hv=>ig hv) fun v _=>rfl
 rw [hreg]
 generalize hD : eU (fun x=>¬ x ∈ cY g s) (eM s s.at_) (eM s s.at_).length = D at *
 (repeat' (first|(with_reducible first|(apply hK;clear hK K)|refine stZ ?_|refine aP rfl ?_|((first|apply ae|apply af);clear ae X af Y))|(with_reducible refine aS ?_;first|refine aQ rfl ?_|refine aR rfl ?_)|(with_reducible refine bg ?_;first|refine aM rfl rfl rfl rfl ?_|refine bf rfl rfl rfl ?_|refine bB rfl rfl rfl rfl ?_)|(with_reducible refine bE ?_;first|refine bC rfl rfl rfl rfl ?_|refine bG rfl rfl rfl ?_|refine bY rfl rfl rfl rfl ?_|refine bH hN ?_)|((first|(with_reducible first|((first|refine aV ?_|refine bI ?_|refine aW ?_|refine bJ ?_);intro K hK)|(refine aB ?_;intro X Y ae af)|refine aC ?_)|(with_reducible refine bg ?_;refine aN rfl rfl fun X Y ae af=>?_)|(with_reducible refine bE ?_;refine bD rfl rfl fun X Y ae af=>?_));simp (disch:=first|decide|omega|(simp only [List.length_cons,List.length_nil];omega)) only [go_sem,↓aj hN,ak hN,reduceIte,reduceCtorEq,Nat.reduceAdd,Nat.reduceLT,Nat.reduceLeDiff,Nat.reduceEqDiff,Nat.reduceSub])|(with_reducible refine And.intro (fun h=>?_) (fun h=>?_) <;> try (exfalso;omega))|(with_reducible refine aU aE hN ?_)|(with_reducible refine bh aE hN ?_)|((first|refine bc (hbl) ?_ rfl (fun _=>rfl) ?_|refine bc (hls) ?_ rfl (fun _=>rfl) ?_);focus ((repeat' (first|(with_reducible first|exact aA|refine ax ?_ ?_|exact bO _|refine a8 ?_|exact ba _|exact bA _ _|refine bz ?_|exact aY _)|exact a9 hN rfl rfl|(refine bw hN rfl ?_;first|exact aF _|exact aG _)|exact aZ rfl rfl rfl));done))|(with_reducible first|exact aA|refine ax ?_ ?_|exact bO _|refine a8 ?_|exact ba _|exact bA _ _|refine bz ?_|exact aY _)|exact a9 hN rfl rfl|(refine bw hN rfl ?_;first|exact aF _|exact aG _)|exact aZ rfl rfl rfl|(simp only [bt,List.map_nil])|(with_reducible refine bM ?_)|(with_reducible refine And.intro ?_ ?_)|(refine ah ?_;omega)|(exact aT hN (by decide))))
 (refine bL (fun (k : Nat)=>(tmL [(51,.c (.int .i64 k)),(50,.c (.int .i64 D.length)),(49,.sl (ν 8)),(6,.ad (ν 5) 0),(4,.ad (ν 2) 0),(3,.ad (ν 1) 0)],hpL hp0 ν [.dead,stE s,.box [.c .nul,.c .nul,.c (.int .i64 0)],.arr 2 .yes (.I s.won),.arr 2 .yes (.I (cE g s).region),.box [.sl (ν 3),.sl (ν 4),.c (.int .i64 (mxL (gi s.region) D k))],.dead,.dead,.arr 2 .yes (.I D)])) (fun (k : Nat)=>k ≤ D.length) (fun (k : Nat)=>D.length - k) ⟨0,?_,bi hX hN [] ?_ ?_⟩ ?_;(repeat' (first|(with_reducible first|exact clZ|refine bj ?_ ?_|refine bm ?_ ?_|rfl|refine suZ ?_)|refine bn rfl ?_ ?_|exact aI hN _ rfl rfl rfl|exact aJ hN _ rfl rfl rfl|exact ap hN _ rfl rfl rfl (Or.inr rfl)|(refine aK hN _ rfl rfl (by first|exact Or.inr rfl|exact Or.inl rfl) ?_;first|exact aF _|exact aG _)|refine aq hN rfl ?_|refine au hN rfl rfl ?_|exact ao hN _ rfl rfl|exact aw hN rfl rfl rfl rfl|(with_reducible first|refine stZ ?_|refine aH ?_)));(try (any_goals (first|(with_reducible rfl)|(refine ah ?_;omega)))))
 · rfl
 intro k hk
 have hdk:=hdb k
 rcases Nat.lt_or_ge k D.length with hkl2|hkl2
 · (repeat' (first|(with_reducible first|(apply hK;clear hK K)|refine stZ ?_|refine aP rfl ?_|((first|apply ae|apply af);clear ae X af Y))|(with_reducible refine aS ?_;first|refine aQ rfl ?_|refine aR rfl ?_)|(with_reducible refine bg ?_;first|refine aM rfl rfl rfl rfl ?_|refine bf rfl rfl rfl ?_|refine bB rfl rfl rfl rfl ?_)|(with_reducible refine bE ?_;first|refine bC rfl rfl rfl rfl ?_|refine bG rfl rfl rfl ?_|refine bY rfl rfl rfl rfl ?_|refine bH hN ?_)|((first|(with_reducible first|((first|refine aV ?_|refine bI ?_|refine aW ?_|refine bJ ?_);intro K hK)|(refine aB ?_;intro X Y ae af)|refine aC ?_)|(with_reducible refine bg ?_;refine aN rfl rfl fun X Y ae af=>?_)|(with_reducible refine bE ?_;refine bD rfl rfl fun X Y ae af=>?_));simp (disch:=first|decide|omega|(simp only [List.length_cons,List.length_nil];omega)) only [go_sem,↓aj hN,ak hN,reduceIte,reduceCtorEq,Nat.reduceAdd,Nat.reduceLT,Nat.reduceLeDiff,Nat.reduceEqDiff,Nat.reduceSub])|(with_reducible refine And.intro (fun h=>?_) (fun h=>?_) <;> try (exfalso;omega))|(with_reducible refine aU aE hN ?_)|(with_reducible refine bh aE hN ?_)|(with_reducible refine And.intro ?_ ?_)|(refine ah ?_;omega)|(exact aT hN (by decide))))
   (refine ⟨k + 1,⟨?_,?_⟩,bi hX hN [] ?_ ?_⟩;(try any_goals dsimp only);(repeat' (first|(with_reducible first|exact clZ|refine bj ?_ ?_|refine bm ?_ ?_|rfl|refine suZ ?_)|refine bn rfl ?_ ?_|exact aI hN _ rfl rfl rfl|exact aJ hN _ rfl rfl rfl|exact ap hN _ rfl rfl rfl (Or.inr rfl)|(refine aK hN _ rfl rfl (by first|exact Or.inr rfl|exact Or.inl rfl) ?_;first|exact aF _|exact aG _)|refine aq hN rfl ?_|refine au hN rfl rfl ?_|exact ao hN _ rfl rfl|exact aw hN rfl rfl rfl rfl|(with_reducible first|refine stZ ?_|refine aH ?_)));(try (any_goals (first|(with_reducible rfl)|(refine ah ?_;omega)))))
   exact tJ _ _ _
 obtain rfl : k = D.length:=by omega
 rw [hmx]
 (repeat' (first|(with_reducible first|(apply hK;clear hK K)|refine stZ ?_|refine aP rfl ?_|((first|apply ae|apply af);clear ae X af Y))|(with_reducible refine aS ?_;first|refine aQ rfl ?_|refine aR rfl ?_)|(with_reducible refine bg ?_;first|refine aM rfl rfl rfl rfl ?_|refine bf rfl rfl rfl ?_|refine bB rfl rfl rfl rfl ?_)|(with_reducible refine bE ?_;first|refine bC rfl rfl rfl rfl ?_|refine bG rfl rfl rfl ?_|refine bY rfl rfl rfl rfl ?_|refine bH hN ?_)|((first|(with_reducible first|((first|refine aV ?_|refine bI ?_|refine aW ?_|refine bJ ?_);intro K hK)|(refine aB ?_;intro X Y ae af)|refine aC ?_)|(with_reducible refine bg ?_;refine aN rfl rfl fun X Y ae af=>?_)|(with_reducible refine bE ?_;refine bD rfl rfl fun X Y ae af=>?_));simp (disch:=first|decide|omega|(simp only [List.length_cons,List.length_nil];omega)) only [go_sem,↓aj hN,ak hN,reduceIte,reduceCtorEq,Nat.reduceAdd,Nat.reduceLT,Nat.reduceLeDiff,Nat.reduceEqDiff,Nat.reduceSub])|(with_reducible refine And.intro (fun h=>?_) (fun h=>?_) <;> try (exfalso;omega))|(with_reducible refine aU aE hN ?_)|(with_reducible refine bh aE hN ?_)|(with_reducible refine And.intro ?_ ?_)|(refine ah ?_;omega)|(exact aT hN (by decide))))
 (refine dz hN [3,4] (by decide) (.inr rfl) (by first|exact cg rfl rfl|exact bV hN rfl rfl rfl rfl|exact bP hN rfl rfl rfl rfl rfl|(simp (disch:=first|decide|omega|(simp only [List.length_cons,List.length_nil];omega)) only [bS,bU,bW,b7,go_sem,beq_self_eq_true,↓az,↓aj hN,ak hN,reduceIte,reduceCtorEq,Nat.reduceAdd,Nat.reduceLT,Nat.reduceLeDiff,Nat.reduceEqDiff,Nat.reduceSub];rfl)|rfl) ?_ fun νs hνs=>?_;(repeat' (first|exact Gone.nil|(refine Gone.cons rfl rfl ?_ ?_)|(with_reducible refine cR ?_)|(with_reducible refine cQ ?_)|(with_reducible refine SVs.cons ?_ ?_)|(with_reducible exact SVs.nil)|(simp only [List.drop,List.take])|(simp (disch:=first|decide|omega) only [↓az,reduceIte,reduceCtorEq,Nat.reduceEqDiff])|(with_reducible exact fi _)|(with_reducible exact cO _)|(exact cP rfl rfl rfl)|(exact cw 0 (by simp) rfl rfl)|(exact cw 1 (by simp) rfl rfl)|(refine dy hN rfl (cS hN (by decide)) ?_)|(with_reducible refine dx ?_)|(with_reducible rfl)|(with_reducible refine fj ?_)|(with_reducible refine fk ?_)|(with_reducible refine fl ?_)|(with_reducible refine fa ?_)|(with_reducible refine fm ?_)|(refine ah ?_;omega))))
 all_goals rfl
end Go.Proofs.Ytdkkhhfhdijfmaa
