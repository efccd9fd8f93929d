/-
  Priority promotion, the reference: is a set shut?
-/
import Derived.Test.YtdkkhhfhdijfmaaZsQ5
namespace Go.Proofs.Ytdkkhhfhdijfmaa
set_option linter.unusedVariables false
set_option linter.unusedSimpArgs false
open Go.RowKit
attribute [local irreducible] ay b9 Aw Le
theorem sK {g : Pa} (v u : Int) (h0 : 0 ≤ v) (h1 : v < g.prio.length) : edg (cf g) v u = true:=by
 have : gi (cf g).pick v.toNat = -1:=cI _ (by omega)
 simp [edg,this]
theorem nM {g : Pa} {inn : List Bool} {v : Int} (h0 : 0 ≤ v) (h1 : v < g.prio.length) : ∀ k,eB (cf g) inn v k = 0 ↔ ∀ i,i < k → gb inn (gi (gr g.ar.nxt v.toNat) i).toNat = false:=by
 intro k
 induction k with
 | zero => exact ⟨fun _ i hi => by omega, fun _ => rfl⟩
 | succ k ih =>
   rw [eB,sK v _ h0 h1,Bool.and_true]
   show eB (cf g) inn v k + (if gb inn (gi (gr g.ar.nxt v.toNat) k).toNat = true then 1 else 0) = 0 ↔ _
   constructor
   · intro h i hi
     rcases Nat.lt_or_ge i k with h'|h'
     · exact ih.1 (by omega) i h'
     · have : i = k:=by omega
       subst this
       cases hb : gb inn (gi (gr g.ar.nxt v.toNat) i).toNat with
       | false => rfl
       | true => rw [hb, if_pos rfl] at h; omega
   · intro h
     rw [ih.2 fun i hi=>h i (by omega),h k (by omega)]
     rfl
theorem sL {g : Pa} (hg : PaOk g) {s : St} {v : Nat} (hv : v < g.prio.length) : deg (cf g) (mks g.prio.length (Pul g s)) v = 0 ↔ ¬ ∃ i,i < (gr g.ar.nxt v).length ∧ Pul g s (df g v i):=by
 unfold deg
 rw [nM (by omega) (by omega)]
 rw [Int.toNat_natCast]
 constructor
 · rintro h ⟨i,h1,h2⟩
   have:=h i h1
   rw [cw.2 ⟨iL hg hv h1,h2⟩] at this
   cases this
 · intro h i hi
   cases hb : gb (mks g.prio.length (Pul g s)) (gi (gr g.ar.nxt v) i).toNat with
   | false => rfl
   | true => exact (h ⟨i, hi, (cw.1 hb).2⟩).elim
theorem nN {g : Pa} (hg : PaOk g) {s : St} {v : Nat} (hv : v < g.prio.length) : oH (cf g) (mks g.prio.length (Pul g s)) (mks g.prio.length (Blw g s s.at_)) v ↔ ¬ ∀ i,i < (gr g.ar.nxt v).length → Blw g s s.at_ (df g v i) → Pul g s (df g v i):=by
 constructor
 · rintro ⟨i,h1,h2,h3⟩ h
   have h4 : gb (mks g.prio.length (Pul g s)) (df g v i) = false:=h3
   rw [cw.2 ⟨iL hg hv h1,h i h1 (cw.1 h2).2⟩] at h4
   cases h4
 · intro h
   refine Classical.byContradiction fun hn=>h fun i hi hb=>Classical.byContradiction fun hp=>hn ⟨i,hi,cw.2 ⟨hb.1,hb⟩,?_⟩
   show gb (mks g.prio.length (Pul g s)) (gi (gr g.ar.nxt v) i).toNat = false
   cases hb' : gb (mks g.prio.length (Pul g s)) (gi (gr g.ar.nxt v) i).toNat with
   | false => rfl
   | true => exact (hp (cw.1 hb').2).elim
set_option maxHeartbeats 2000000 in
theorem iN (g : Pa) (hg : PaOk g) (s : St) (hO : StOk g s) (h0 : 0 ≤ s.at_) : ay Try.prog 46 [gmA (cf g),stA s,.c (.B (mks g.prio.length (Pul g s)))] [] (fun _=>.c (.bool (tf (cQ g s)))):=by
 have hle:=hg.ar.le
 have hl:=hg.len
 have hlr:=hO.lr
 have hlw:=hO.lw
 have hgm:=ib hg
 have hb:=gP s s.at_ (by omega) (by omega)
 have e : (mks s.won.length fun v=>gi s.won v < 0 ∧ gi s.region v ≤ s.at_) = mks g.prio.length (Blw g s s.at_):=by
  rw [hlw]
  exact fY fun v hv=>⟨fun ⟨h1,h2⟩=>⟨hv,(hO.won0 hg hv).1 h1,h2⟩,fun ⟨_,h1,h2⟩=>⟨(hO.won0 hg hv).2 h1,h2⟩⟩
 rw [e] at hb
 have hw1:=cH g.prio.length (Pul g s)
 have hw2:=cH g.prio.length (Blw g s s.at_)
 have hio:=hgm.own
 rw [show tf (cQ g s) = tf (∀ v,v < g.prio.length → CV g s v) from dp (ms hg)]
 (refine bv aE Try.func46 rfl rfl (by kernel_rfl) fun hp0 ν hX hN=>?_;simp only [co,Nat.reduceAdd])
 (repeat' (first|(with_reducible first|(apply hK;clear hK K)|refine stZ ?_|refine aQ rfl ?_|((first|apply ae|apply af);clear ae X af Y))|(with_reducible refine aT ?_;first|refine aR rfl ?_|refine aS rfl ?_)|(with_reducible refine bh ?_;first|refine aM rfl rfl rfl rfl ?_|refine bf rfl rfl rfl ?_|refine bB rfl rfl rfl rfl ?_)|(with_reducible refine bE ?_;first|refine bC rfl rfl rfl rfl ?_|refine bG rfl rfl rfl ?_|refine bY rfl rfl rfl rfl ?_|refine bH hN ?_)|((first|(with_reducible first|((first|refine aW ?_|refine bI ?_|refine aX ?_|refine bJ ?_);intro K hK)|(refine aC ?_;intro X Y ae af)|refine aD ?_)|(with_reducible refine bh ?_;refine aN rfl rfl fun X Y ae af=>?_)|(with_reducible refine bE ?_;refine bD rfl rfl fun X Y ae af=>?_));simp (disch:=first|decide|omega|(simp only [List.length_cons,List.length_nil];omega)) only [go_sem,↓aj hN,am hN,reduceIte,reduceCtorEq,Nat.reduceAdd,Nat.reduceLT,Nat.reduceLeDiff,Nat.reduceEqDiff,Nat.reduceSub])|(with_reducible refine And.intro (fun h=>?_) (fun h=>?_) <;> try (exfalso;omega))|(with_reducible refine aV aE hN ?_)|(with_reducible refine bi aE hN ?_)|(refine bd (hb) ?_ rfl (fun _=>rfl) ?_;focus ((repeat' (first|(with_reducible first|exact aA|refine ax ?_ ?_|exact bP _|refine a9 ?_|exact bc _|exact bA _ _|refine bz ?_|exact aZ _)|exact ba hN rfl rfl|(refine bw hN rfl ?_;first|exact aF _|exact aG _)|exact a8 rfl rfl rfl));done))|(with_reducible first|exact aA|refine ax ?_ ?_|exact bP _|refine a9 ?_|exact bc _|exact bA _ _|refine bz ?_|exact aZ _)|exact ba hN rfl rfl|(refine bw hN rfl ?_;first|exact aF _|exact aG _)|exact a8 rfl rfl rfl|(simp only [bt,List.map_nil])|(with_reducible refine bN ?_)|(with_reducible refine And.intro ?_ ?_)|(refine ah ?_;omega)|(exact aU hN (by decide))))
 (refine bM (fun (k : Nat)=>(tmL [(8,.c (.int .i64 k)),(7,.sl (ν 2)),(4,.ad (ν 1) 0),(3,.ad (ν 0) 0),(2,.c (.B (mks g.prio.length (Pul g s))))],hpL hp0 ν [.box [.c (.I (cf g).own),.c (.I (cf g).prio),.c (.R (cf g).nxt),.c (.R (cf g).prev),.c (.I (cf g).pick)],stE s,.arr 4 .yes (.B (mks g.prio.length (Blw g s s.at_)))])) (fun (k : Nat)=>k ≤ g.prio.length ∧ ∀ v,v < k → CV g s v) (fun (k : Nat)=>g.prio.length - k) ⟨0,?_,bj hX hN [] ?_ ?_⟩ ?_;(repeat' (first|(with_reducible first|exact clZ|refine bm ?_ ?_|refine bn ?_ ?_|rfl|refine suZ ?_)|refine bo rfl ?_ ?_|exact aJ hN _ rfl rfl rfl|exact aK hN _ rfl rfl rfl|exact ap hN _ rfl rfl rfl (Or.inr rfl)|(refine aL hN _ rfl rfl (by first|exact Or.inr rfl|exact Or.inl rfl) ?_;first|exact aF _|exact aG _)|refine aq hN rfl ?_|refine au hN rfl rfl ?_|exact ao hN _ rfl rfl|exact aw hN rfl rfl rfl rfl|(with_reducible first|refine stZ ?_|refine aI ?_)));(try (any_goals (first|(with_reducible rfl)|(refine ah ?_;omega)))))
 · exact ⟨Nat.zero_le _,fun v h=>absurd h (Nat.not_lt_zero _)⟩
 rintro k ⟨hk,ho'⟩
 have ho:=Lib.hid ho'
 clear ho'
 rcases Nat.lt_or_ge k g.prio.length with hkl|hkl
 · have c1:=jG (cf g) g.prio.length hgm (mks g.prio.length (Pul g s)) hw1 k (by omega) (by omega)
   have c2:=mE (cf g) g.prio.length hgm (mks g.prio.length (Pul g s)) (mks g.prio.length (Blw g s s.at_)) hw1 hw2 k hkl
   have hgb:=Lib.hid (cw (n:=g.prio.length) (v:=k) (p:=Pul g s))
   have hd:=Lib.hid (sL hg (s:=s) hkl)
   have hv:=Lib.hid (nN hg (s:=s) hkl)
   have hnx : CV g s k → ∀ v,v < k + 1 → CV g s v:=fun h' v hi=>by
    rcases Nat.lt_or_ge v k with h1|h1
    · exact ho.out v h1
    · obtain rfl : v = k:=by omega
      exact h'
   have hnx':=Lib.hid hnx
   clear hnx
   (repeat' (first|(with_reducible first|(apply hK;clear hK K)|refine stZ ?_|refine aQ rfl ?_|((first|apply ae|apply af);clear ae X af Y))|(with_reducible refine aT ?_;first|refine aR rfl ?_|refine aS rfl ?_)|(with_reducible refine bh ?_;first|refine aM rfl rfl rfl rfl ?_|refine bf rfl rfl rfl ?_|refine bB rfl rfl rfl rfl ?_)|(with_reducible refine bE ?_;first|refine bC rfl rfl rfl rfl ?_|refine bG rfl rfl rfl ?_|refine bY rfl rfl rfl rfl ?_|refine bH hN ?_)|((first|(with_reducible first|((first|refine aW ?_|refine bI ?_|refine aX ?_|refine bJ ?_);intro K hK)|(refine aC ?_;intro X Y ae af)|refine aD ?_)|(with_reducible refine bh ?_;refine aN rfl rfl fun X Y ae af=>?_)|(with_reducible refine bE ?_;refine bD rfl rfl fun X Y ae af=>?_));simp (disch:=first|decide|omega|(simp only [List.length_cons,List.length_nil];omega)) only [go_sem,↓aj hN,am hN,reduceIte,reduceCtorEq,Nat.reduceAdd,Nat.reduceLT,Nat.reduceLeDiff,Nat.reduceEqDiff,Nat.reduceSub])|(with_reducible refine And.intro (fun h=>?_) (fun h=>?_) <;> try (exfalso;omega))|(with_reducible refine aV aE hN ?_)|(with_reducible refine bi aE hN ?_)|((first|refine bd (c1) ?_ rfl (fun _=>rfl) ?_|refine bd (c2) ?_ rfl (fun _=>rfl) ?_);focus ((repeat' (first|(with_reducible first|exact aA|refine ax ?_ ?_|exact bP _|refine a9 ?_|exact bc _|exact bA _ _|refine bz ?_|exact aZ _)|exact ba hN rfl rfl|(refine bw hN rfl ?_;first|exact aF _|exact aG _)|exact a8 rfl rfl rfl));done))|(with_reducible first|exact aA|refine ax ?_ ?_|exact bP _|refine a9 ?_|exact bc _|exact bA _ _|refine bz ?_|exact aZ _)|exact ba hN rfl rfl|(refine bw hN rfl ?_;first|exact aF _|exact aG _)|exact a8 rfl rfl rfl|(simp only [bt,List.map_nil])|(with_reducible refine bN ?_)|(with_reducible refine And.intro ?_ ?_)|(refine ah ?_;omega)|(exact aU hN (by decide))))
   · (refine ⟨k + 1,⟨?_,?_⟩,bj hX hN [] ?_ ?_⟩;(try any_goals dsimp only);(repeat' (first|(with_reducible first|exact clZ|refine bm ?_ ?_|refine bn ?_ ?_|rfl|refine suZ ?_)|refine bo rfl ?_ ?_|exact aJ hN _ rfl rfl rfl|exact aK hN _ rfl rfl rfl|exact ap hN _ rfl rfl rfl (Or.inr rfl)|(refine aL hN _ rfl rfl (by first|exact Or.inr rfl|exact Or.inl rfl) ?_;first|exact aF _|exact aG _)|refine aq hN rfl ?_|refine au hN rfl rfl ?_|exact ao hN _ rfl rfl|exact aw hN rfl rfl rfl rfl|(with_reducible first|refine stZ ?_|refine aI ?_)));(try (any_goals (first|(with_reducible rfl)|(refine ah ?_;omega)))))
     refine ⟨by omega,hnx'.out fun hp=>?_⟩
     rw [hgb.out.2 ⟨hkl,hp⟩] at h
     cases h
   · (refine cU (.inr rfl) (by first|rfl|(simp (disch:=first|decide|omega|(simp only [List.length_cons,List.length_nil];omega)) only [bS,bV,bW,b7,go_sem,beq_self_eq_true,↓az,↓aj hN,am hN,reduceIte,reduceCtorEq,Nat.reduceAdd,Nat.reduceLT,Nat.reduceLeDiff,Nat.reduceEqDiff,Nat.reduceSub];rfl)) ?_)
     refine congrArg C.bool (aB fun hA=>?_).symm
     exact hd.out.1 (by omega) ((hA k hkl (hgb.out.1 (by assumption)).2).1 (by assumption))
   · (refine ⟨k + 1,⟨?_,?_⟩,bj hX hN [] ?_ ?_⟩;(try any_goals dsimp only);(repeat' (first|(with_reducible first|exact clZ|refine bm ?_ ?_|refine bn ?_ ?_|rfl|refine suZ ?_)|refine bo rfl ?_ ?_|exact aJ hN _ rfl rfl rfl|exact aK hN _ rfl rfl rfl|exact ap hN _ rfl rfl rfl (Or.inr rfl)|(refine aL hN _ rfl rfl (by first|exact Or.inr rfl|exact Or.inl rfl) ?_;first|exact aF _|exact aG _)|refine aq hN rfl ?_|refine au hN rfl rfl ?_|exact ao hN _ rfl rfl|exact aw hN rfl rfl rfl rfl|(with_reducible first|refine stZ ?_|refine aI ?_)));(try (any_goals (first|(with_reducible rfl)|(refine ah ?_;omega)))))
     have e1 : gi g.ar.own k = s.at_.tmod 2:=by assumption
     refine ⟨by omega,hnx'.out fun hp=>⟨fun _=>Classical.byContradiction fun hn=>?_,fun hne=>absurd e1 hne⟩⟩
     have e2 : ((deg (cf g) (mks g.prio.length (Pul g s)) k : Int) == 0) = false:=by assumption
     rw [hd.out.2 hn] at e2
     cases e2
   · (refine cU (.inr rfl) (by first|rfl|(simp (disch:=first|decide|omega|(simp only [List.length_cons,List.length_nil];omega)) only [bS,bV,bW,b7,go_sem,beq_self_eq_true,↓az,↓aj hN,am hN,reduceIte,reduceCtorEq,Nat.reduceAdd,Nat.reduceLT,Nat.reduceLeDiff,Nat.reduceEqDiff,Nat.reduceSub];rfl)) ?_)
     refine congrArg C.bool (aB fun hA=>?_).symm
     exact hv.out.1 h ((hA k hkl (hgb.out.1 (by assumption)).2).2 (by assumption))
   · (refine ⟨k + 1,⟨?_,?_⟩,bj hX hN [] ?_ ?_⟩;(try any_goals dsimp only);(repeat' (first|(with_reducible first|exact clZ|refine bm ?_ ?_|refine bn ?_ ?_|rfl|refine suZ ?_)|refine bo rfl ?_ ?_|exact aJ hN _ rfl rfl rfl|exact aK hN _ rfl rfl rfl|exact ap hN _ rfl rfl rfl (Or.inr rfl)|(refine aL hN _ rfl rfl (by first|exact Or.inr rfl|exact Or.inl rfl) ?_;first|exact aF _|exact aG _)|refine aq hN rfl ?_|refine au hN rfl rfl ?_|exact ao hN _ rfl rfl|exact aw hN rfl rfl rfl rfl|(with_reducible first|refine stZ ?_|refine aI ?_)));(try (any_goals (first|(with_reducible rfl)|(refine ah ?_;omega)))))
     refine ⟨by omega,hnx'.out fun hp=>⟨fun e1=>absurd e1 (by assumption),fun _=>Classical.byContradiction fun hn=>h (hv.out.2 hn)⟩⟩
   · have e1 : (gi (cf g).own k == s.at_.tmod 2) = false:=by assumption
     have e2 : (gi (cf g).own k != s.at_.tmod 2) = false:=h
     simp [bne,e1] at e2
 obtain rfl : k = g.prio.length:=by omega
 (repeat' (first|(with_reducible first|(apply hK;clear hK K)|refine stZ ?_|refine aQ rfl ?_|((first|apply ae|apply af);clear ae X af Y))|(with_reducible refine aT ?_;first|refine aR rfl ?_|refine aS rfl ?_)|(with_reducible refine bh ?_;first|refine aM rfl rfl rfl rfl ?_|refine bf rfl rfl rfl ?_|refine bB rfl rfl rfl rfl ?_)|(with_reducible refine bE ?_;first|refine bC rfl rfl rfl rfl ?_|refine bG rfl rfl rfl ?_|refine bY rfl rfl rfl rfl ?_|refine bH hN ?_)|((first|(with_reducible first|((first|refine aW ?_|refine bI ?_|refine aX ?_|refine bJ ?_);intro K hK)|(refine aC ?_;intro X Y ae af)|refine aD ?_)|(with_reducible refine bh ?_;refine aN rfl rfl fun X Y ae af=>?_)|(with_reducible refine bE ?_;refine bD rfl rfl fun X Y ae af=>?_));simp (disch:=first|decide|omega|(simp only [List.length_cons,List.length_nil];omega)) only [go_sem,↓aj hN,am hN,reduceIte,reduceCtorEq,Nat.reduceAdd,Nat.reduceLT,Nat.reduceLeDiff,Nat.reduceEqDiff,Nat.reduceSub])|(with_reducible refine And.intro (fun h=>?_) (fun h=>?_) <;> try (exfalso;omega))|(with_reducible refine aV aE hN ?_)|(with_reducible refine bi aE hN ?_)|(with_reducible refine And.intro ?_ ?_)|(refine ah ?_;omega)|(exact aU hN (by decide))))
 (refine cU (.inr rfl) (by first|rfl|(simp (disch:=first|decide|omega|(simp only [List.length_cons,List.length_nil];omega)) only [bS,bV,bW,b7,go_sem,beq_self_eq_true,↓az,↓aj hN,am hN,reduceIte,reduceCtorEq,Nat.reduceAdd,Nat.reduceLT,Nat.reduceLeDiff,Nat.reduceEqDiff,Nat.reduceSub];rfl)) ?_)
 exact congrArg C.bool (bg ho.out).symm
end Go.Proofs.Ytdkkhhfhdijfmaa
