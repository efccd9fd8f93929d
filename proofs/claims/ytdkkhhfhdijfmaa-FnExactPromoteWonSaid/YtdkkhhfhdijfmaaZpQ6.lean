/-
  Priority promotion, the reference: is a set shut?
-/
import Derived.Test.YtdkkhhfhdijfmaaZpQ5
namespace Go.Proofs.Ytdkkhhfhdijfmaa
set_option linter.unusedVariables false
set_option linter.unusedSimpArgs false
open Go.RowKit
attribute [local irreducible] ay b8 Aw Le
theorem sg {g : Pa} (v u : Int) (h0 : 0 ≤ v) (h1 : v < g.prio.length) : edg (cf g) v u = true:=by
 have : gi (cf g).pick v.toNat = -1:=cI _ (by omega)
 simp [edg,this]
theorem nB {g : Pa} {inn : List Bool} {v : Int} (h0 : 0 ≤ v) (h1 : v < g.prio.length) : ∀ k,er (cf g) inn v k = 0 ↔ ∀ i,i < k → gb inn (gi (gr g.ar.nxt v.toNat) i).toNat = false:=by
 intro k
 induction k with
 | zero => exact ⟨fun _ i hi => by omega, fun _ => rfl⟩
 | succ k ih =>
   rw [er,sg v _ h0 h1,Bool.and_true]
   show er (cf g) inn v k + (if gb inn (gi (gr g.ar.nxt v.toNat) k).toNat = true then 1 else 0) = 0 ↔ _
   constructor
   · intro h i hi
     rcases Nat.lt_or_ge i k with h'|h'
     · exact ih.1 (by omega) i h'
     · have : i = k:=by omega
       subst this
       cases hb : gb inn (gi (gr g.ar.nxt v.toNat) i).toNat with
       | false => rfl
       | true => rw [hb, if_pos rfl] at h; omega
   · intro h
     rw [ih.2 fun i hi=>h i (by omega),h k (by omega)]
     rfl
theorem si {g : Pa} (hg : PaOk g) {s : St} {v : Nat} (hv : v < g.prio.length) : deg (cf g) (mks g.prio.length (Pul g s)) v = 0 ↔ ¬ ∃ i,i < (gr g.ar.nxt v).length ∧ Pul g s (dc g v i):=by
 unfold deg
 rw [nB (by omega) (by omega)]
 rw [Int.toNat_natCast]
 constructor
 · rintro h ⟨i,h1,h2⟩
   have:=h i h1
   rw [cx.2 ⟨iF hg hv h1,h2⟩] at this
   cases this
 · intro h i hi
   cases hb : gb (mks g.prio.length (Pul g s)) (gi (gr g.ar.nxt v) i).toNat with
   | false => rfl
   | true => exact (h ⟨i, hi, (cx.1 hb).2⟩).elim
theorem nC {g : Pa} (hg : PaOk g) {s : St} {v : Nat} (hv : v < g.prio.length) : ou (cf g) (mks g.prio.length (Pul g s)) (mks g.prio.length (Blw g s s.at_)) v ↔ ¬ ∀ i,i < (gr g.ar.nxt v).length → Blw g s s.at_ (dc g v i) → Pul g s (dc g v i):=by
 constructor
 · rintro ⟨i,h1,h2,h3⟩ h
   have h4 : gb (mks g.prio.length (Pul g s)) (dc g v i) = false:=h3
   rw [cx.2 ⟨iF hg hv h1,h i h1 (cx.1 h2).2⟩] at h4
   cases h4
 · intro h
   refine Classical.byContradiction fun hn=>h fun i hi hb=>Classical.byContradiction fun hp=>hn ⟨i,hi,cx.2 ⟨hb.1,hb⟩,?_⟩
   show gb (mks g.prio.length (Pul g s)) (gi (gr g.ar.nxt v) i).toNat = false
   cases hb' : gb (mks g.prio.length (Pul g s)) (gi (gr g.ar.nxt v) i).toNat with
   | false => rfl
   | true => exact (hp (cx.1 hb').2).elim
set_option maxHeartbeats 2000000 in
theorem iH (g : Pa) (hg : PaOk g) (s : St) (hO : StOk g s) (h0 : 0 ≤ s.at_) : ay Try.prog 46 [gmA (cf g),stA s,.c (.B (mks g.prio.length (Pul g s)))] [] (fun _=>.c (.bool (tf (cT g s)))):=by
 have hle:=hg.ar.le
 have hl:=hg.len
 have hlr:=hO.lr
 have hlw:=hO.lw
 have hgm:=gZ hg
 have hb:=gH s s.at_ (by omega) (by omega)
 have e : (mks s.won.length fun v=>gi s.won v < 0 ∧ gi s.region v ≤ s.at_) = mks g.prio.length (Blw g s s.at_):=by
  rw [hlw]
  exact fS fun v hv=>⟨fun ⟨h1,h2⟩=>⟨hv,(hO.won0 hg hv).1 h1,h2⟩,fun ⟨_,h1,h2⟩=>⟨(hO.won0 hg hv).2 h1,h2⟩⟩
 rw [e] at hb
 have hw1:=cH g.prio.length (Pul g s)
 have hw2:=cH g.prio.length (Blw g s s.at_)
 have hio:=hgm.own
 rw [show tf (cT g s) = tf (∀ v,v < g.prio.length → CV g s v) from dl (mq hg)]
 (refine bv aE Try.func46 rfl rfl (by kernel_rfl) fun hp0 ν hX hN=>?_;simp only [cr,Nat.reduceAdd])
 (repeat' (first|(with_reducible first|(apply hK;clear hK K)|refine stZ ?_|refine aP rfl ?_|((first|apply ae|apply af);clear ae X af Y))|(with_reducible refine aS ?_;first|refine aQ rfl ?_|refine aR rfl ?_)|(with_reducible refine bg ?_;first|refine aM rfl rfl rfl rfl ?_|refine bf rfl rfl rfl ?_|refine bB rfl rfl rfl rfl ?_)|(with_reducible refine bE ?_;first|refine bC rfl rfl rfl rfl ?_|refine bG rfl rfl rfl ?_|refine bY rfl rfl rfl rfl ?_|refine bH hN ?_)|((first|(with_reducible first|((first|refine aV ?_|refine bI ?_|refine aW ?_|refine bJ ?_);intro K hK)|(refine aB ?_;intro X Y ae af)|refine aC ?_)|(with_reducible refine bg ?_;refine aN rfl rfl fun X Y ae af=>?_)|(with_reducible refine bE ?_;refine bD rfl rfl fun X Y ae af=>?_));simp (disch:=first|decide|omega|(simp only [List.length_cons,List.length_nil];omega)) only [go_sem,↓aj hN,ak hN,reduceIte,reduceCtorEq,Nat.reduceAdd,Nat.reduceLT,Nat.reduceLeDiff,Nat.reduceEqDiff,Nat.reduceSub])|(with_reducible refine And.intro (fun h=>?_) (fun h=>?_) <;> try (exfalso;omega))|(with_reducible refine aU aE hN ?_)|(with_reducible refine bh aE hN ?_)|(refine bc (hb) ?_ rfl (fun _=>rfl) ?_;focus ((repeat' (first|(with_reducible first|exact aA|refine ax ?_ ?_|exact bO _|refine a8 ?_|exact ba _|exact bA _ _|refine bz ?_|exact aY _)|exact a9 hN rfl rfl|(refine bw hN rfl ?_;first|exact aF _|exact aG _)|exact aZ rfl rfl rfl));done))|(with_reducible first|exact aA|refine ax ?_ ?_|exact bO _|refine a8 ?_|exact ba _|exact bA _ _|refine bz ?_|exact aY _)|exact a9 hN rfl rfl|(refine bw hN rfl ?_;first|exact aF _|exact aG _)|exact aZ rfl rfl rfl|(simp only [bt,List.map_nil])|(with_reducible refine bM ?_)|(with_reducible refine And.intro ?_ ?_)|(refine ah ?_;omega)|(exact aT hN (by decide))))
 (refine bL (fun (k : Nat)=>(tmL [(8,.c (.int .i64 k)),(7,.sl (ν 2)),(4,.ad (ν 1) 0),(3,.ad (ν 0) 0),(2,.c (.B (mks g.prio.length (Pul g s))))],hpL hp0 ν [.box [.c (.I (cf g).own),.c (.I (cf g).prio),.c (.R (cf g).nxt),.c (.R (cf g).prev),.c (.I (cf g).pick)],stE s,.arr 4 .yes (.B (mks g.prio.length (Blw g s s.at_)))])) (fun (k : Nat)=>k ≤ g.prio.length ∧ ∀ v,v < k → CV g s v) (fun (k : Nat)=>g.prio.length - k) ⟨0,?_,bi hX hN [] ?_ ?_⟩ ?_;(repeat' (first|(with_reducible first|exact clZ|refine bj ?_ ?_|refine bm ?_ ?_|rfl|refine suZ ?_)|refine bn rfl ?_ ?_|exact aI hN _ rfl rfl rfl|exact aJ hN _ rfl rfl rfl|exact ap hN _ rfl rfl rfl (Or.inr rfl)|(refine aK hN _ rfl rfl (by first|exact Or.inr rfl|exact Or.inl rfl) ?_;first|exact aF _|exact aG _)|refine aq hN rfl ?_|refine au hN rfl rfl ?_|exact ao hN _ rfl rfl|exact aw hN rfl rfl rfl rfl|(with_reducible first|refine stZ ?_|refine aH ?_)));(try (any_goals (first|(with_reducible rfl)|(refine ah ?_;omega)))))
 · exact ⟨Nat.zero_le _,fun v h=>absurd h (Nat.not_lt_zero _)⟩
 rintro k ⟨hk,ho'⟩
 have ho:=Lib.hid ho'
 clear ho'
 rcases Nat.lt_or_ge k g.prio.length with hkl|hkl
 · have c1:=jz (cf g) g.prio.length hgm (mks g.prio.length (Pul g s)) hw1 k (by omega) (by omega)
   have c2:=mz (cf g) g.prio.length hgm (mks g.prio.length (Pul g s)) (mks g.prio.length (Blw g s s.at_)) hw1 hw2 k hkl
   have hgb:=Lib.hid (cx (n:=g.prio.length) (v:=k) (p:=Pul g s))
   have hd:=Lib.hid (si hg (s:=s) hkl)
   have hv:=Lib.hid (nC hg (s:=s) hkl)
   have hnx : CV g s k → ∀ v,v < k + 1 → CV g s v:=fun h' v hi=>by
    rcases Nat.lt_or_ge v k with h1|h1
    · exact ho.out v h1
    · obtain rfl : v = k:=by omega
      exact h'
   have hnx':=Lib.hid hnx
   clear hnx
   (repeat' (first|(with_reducible first|(apply hK;clear hK K)|refine stZ ?_|refine aP rfl ?_|((first|apply ae|apply af);clear ae X af Y))|(with_reducible refine aS ?_;first|refine aQ rfl ?_|refine aR rfl ?_)|(with_reducible refine bg ?_;first|refine aM rfl rfl rfl rfl ?_|refine bf rfl rfl rfl ?_|refine bB rfl rfl rfl rfl ?_)|(with_reducible refine bE ?_;first|refine bC rfl rfl rfl rfl ?_|refine bG rfl rfl rfl ?_|refine bY rfl rfl rfl rfl ?_|refine bH hN ?_)|((first|(with_reducible first|((first|refine aV ?_|refine bI ?_|refine aW ?_|refine bJ ?_);intro K hK)|(refine aB ?_;intro X Y ae af)|refine aC ?_)|(with_reducible refine bg ?_;refine aN rfl rfl fun X Y ae af=>?_)|(with_reducible refine bE ?_;refine bD rfl rfl fun X Y ae af=>?_));simp (disch:=first|decide|omega|(simp only [List.length_cons,List.length_nil];omega)) only [go_sem,↓aj hN,ak hN,reduceIte,reduceCtorEq,Nat.reduceAdd,Nat.reduceLT,Nat.reduceLeDiff,Nat.reduceEqDiff,Nat.reduceSub])|(with_reducible refine And.intro (fun h=>?_) (fun h=>?_) <;> try (exfalso;omega))|(with_reducible refine aU aE hN ?_)|(with_reducible refine bh aE hN ?_)|((first|refine bc (c1) ?_ rfl (fun _=>rfl) ?_|refine bc (c2) ?_ rfl (fun _=>rfl) ?_);focus ((repeat' (first|(with_reducible first|exact aA|refine ax ?_ ?_|exact bO _|refine a8 ?_|exact ba _|exact bA _ _|refine bz ?_|exact aY _)|exact a9 hN rfl rfl|(refine bw hN rfl ?_;first|exact aF _|exact aG _)|exact aZ rfl rfl rfl));done))|(with_reducible first|exact aA|refine ax ?_ ?_|exact bO _|refine a8 ?_|exact ba _|exact bA _ _|refine bz ?_|exact aY _)|exact a9 hN rfl rfl|(refine bw hN rfl ?_;first|exact aF _|exact aG _)|exact aZ rfl rfl rfl|(simp only [bt,List.map_nil])|(with_reducible refine bM ?_)|(with_reducible refine And.intro ?_ ?_)|(refine ah ?_;omega)|(exact aT hN (by decide))))
   · (refine ⟨k + 1,⟨?_,?_⟩,bi hX hN [] ?_ ?_⟩;(try any_goals dsimp only);(repeat' (first|(with_reducible first|exact clZ|refine bj ?_ ?_|refine bm ?_ ?_|rfl|refine suZ ?_)|refine bn rfl ?_ ?_|exact aI hN _ rfl rfl rfl|exact aJ hN _ rfl rfl rfl|exact ap hN _ rfl rfl rfl (Or.inr rfl)|(refine aK hN _ rfl rfl (by first|exact Or.inr rfl|exact Or.inl rfl) ?_;first|exact aF _|exact aG _)|refine aq hN rfl ?_|refine au hN rfl rfl ?_|exact ao hN _ rfl rfl|exact aw hN rfl rfl rfl rfl|(with_reducible first|refine stZ ?_|refine aH ?_)));(try (any_goals (first|(with_reducible rfl)|(refine ah ?_;omega)))))
     refine ⟨by omega,hnx'.out fun hp=>?_⟩
     rw [hgb.out.2 ⟨hkl,hp⟩] at h
     cases h
   · (refine cW (.inr rfl) (by first|rfl|(simp (disch:=first|decide|omega|(simp only [List.length_cons,List.length_nil];omega)) only [bS,bU,bW,b7,go_sem,beq_self_eq_true,↓az,↓aj hN,ak hN,reduceIte,reduceCtorEq,Nat.reduceAdd,Nat.reduceLT,Nat.reduceLeDiff,Nat.reduceEqDiff,Nat.reduceSub];rfl)) ?_)
     refine congrArg C.bool (aD fun hA=>?_).symm
     exact hd.out.1 (by omega) ((hA k hkl (hgb.out.1 (by assumption)).2).1 (by assumption))
   · (refine ⟨k + 1,⟨?_,?_⟩,bi hX hN [] ?_ ?_⟩;(try any_goals dsimp only);(repeat' (first|(with_reducible first|exact clZ|refine bj ?_ ?_|refine bm ?_ ?_|rfl|refine suZ ?_)|refine bn rfl ?_ ?_|exact aI hN _ rfl rfl rfl|exact aJ hN _ rfl rfl rfl|exact ap hN _ rfl rfl rfl (Or.inr rfl)|(refine aK hN _ rfl rfl (by first|exact Or.inr rfl|exact Or.inl rfl) ?_;first|exact aF _|exact aG _)|refine aq hN rfl ?_|refine au hN rfl rfl ?_|exact ao hN _ rfl rfl|exact aw hN rfl rfl rfl rfl|(with_reducible first|refine stZ ?_|refine aH ?_)));(try (any_goals (first|(with_reducible rfl)|(refine ah ?_;omega)))))
     have e1 : gi g.ar.own k = s.at_.tmod 2:=by assumption
     refine ⟨by omega,hnx'.out fun hp=>⟨fun _=>Classical.byContradiction fun hn=>?_,fun hne=>absurd e1 hne⟩⟩
     have e2 : ((deg (cf g) (mks g.prio.length (Pul g s)) k : Int) == 0) = false:=by assumption
     rw [hd.out.2 hn] at e2
     cases e2
   · (refine cW (.inr rfl) (by first|rfl|(simp (disch:=first|decide|omega|(simp only [List.length_cons,List.length_nil];omega)) only [bS,bU,bW,b7,go_sem,beq_self_eq_true,↓az,↓aj hN,ak hN,reduceIte,reduceCtorEq,Nat.reduceAdd,Nat.reduceLT,Nat.reduceLeDiff,Nat.reduceEqDiff,Nat.reduceSub];rfl)) ?_)
     refine congrArg C.bool (aD fun hA=>?_).symm
     exact hv.out.1 h ((hA k hkl (hgb.out.1 (by assumption)).2).2 (by assumption))
   · (refine ⟨k + 1,⟨?_,?_⟩,bi hX hN [] ?_ ?_⟩;(try any_goals dsimp only);(repeat' (first|(with_reducible first|exact clZ|refine bj ?_ ?_|refine bm ?_ ?_|rfl|refine suZ ?_)|refine bn rfl ?_ ?_|exact aI hN _ rfl rfl rfl|exact aJ hN _ rfl rfl rfl|exact ap hN _ rfl rfl rfl (Or.inr rfl)|(refine aK hN _ rfl rfl (by first|exact Or.inr rfl|exact Or.inl rfl) ?_;first|exact aF _|exact aG _)|refine aq hN rfl ?_|refine au hN rfl rfl ?_|exact ao hN _ rfl rfl|exact aw hN rfl rfl rfl rfl|(with_reducible first|refine stZ ?_|refine aH ?_)));(try (any_goals (first|(with_reducible rfl)|(refine ah ?_;omega)))))
     refine ⟨by omega,hnx'.out fun hp=>⟨fun e1=>absurd e1 (by assumption),fun _=>Classical.byContradiction fun hn=>h (hv.out.2 hn)⟩⟩
   · have e1 : (gi (cf g).own k == s.at_.tmod 2) = false:=by assumption
     have e2 : (gi (cf g).own k != s.at_.tmod 2) = false:=h
     simp [bne,e1] at e2
 obtain rfl : k = g.prio.length:=by omega
 (repeat' (first|(with_reducible first|(apply hK;clear hK K)|refine stZ ?_|refine aP rfl ?_|((first|apply ae|apply af);clear ae X af Y))|(with_reducible refine aS ?_;first|refine aQ rfl ?_|refine aR rfl ?_)|(with_reducible refine bg ?_;first|refine aM rfl rfl rfl rfl ?_|refine bf rfl rfl rfl ?_|refine bB rfl rfl rfl rfl ?_)|(with_reducible refine bE ?_;first|refine bC rfl rfl rfl rfl ?_|refine bG rfl rfl rfl ?_|refine bY rfl rfl rfl rfl ?_|refine bH hN ?_)|((first|(with_reducible first|((first|refine aV ?_|refine bI ?_|refine aW ?_|refine bJ ?_);intro K hK)|(refine aB ?_;intro X Y ae af)|refine aC ?_)|(with_reducible refine bg ?_;refine aN rfl rfl fun X Y ae af=>?_)|(with_reducible refine bE ?_;refine bD rfl rfl fun X Y ae af=>?_));simp (disch:=first|decide|omega|(simp only [List.length_cons,List.length_nil];omega)) only [go_sem,↓aj hN,ak hN,reduceIte,reduceCtorEq,Nat.reduceAdd,Nat.reduceLT,Nat.reduceLeDiff,Nat.reduceEqDiff,Nat.reduceSub])|(with_reducible refine And.intro (fun h=>?_) (fun h=>?_) <;> try (exfalso;omega))|(with_reducible refine aU aE hN ?_)|(with_reducible refine bh aE hN ?_)|(with_reducible refine And.intro ?_ ?_)|(refine ah ?_;omega)|(exact aT hN (by decide))))
 (refine cW (.inr rfl) (by first|rfl|(simp (disch:=first|decide|omega|(simp only [List.length_cons,List.length_nil];omega)) only [bS,bU,bW,b7,go_sem,beq_self_eq_true,↓az,↓aj hN,ak hN,reduceIte,reduceCtorEq,Nat.reduceAdd,Nat.reduceLT,Nat.reduceLeDiff,Nat.reduceEqDiff,Nat.reduceSub];rfl)) ?_)
 exact congrArg C.bool (bp ho.out).symm
end Go.Proofs.Ytdkkhhfhdijfmaa
