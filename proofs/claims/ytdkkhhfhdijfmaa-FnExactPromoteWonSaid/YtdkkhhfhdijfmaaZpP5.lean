/-
  Priority promotion, the program: whether what is pulled is shut; where it may be left to.
-/
import Derived.Test.YtdkkhhfhdijfmaaZpP4
namespace Go.Proofs.Ytdkkhhfhdijfmaa
set_option linter.unusedVariables false
set_option linter.unusedSimpArgs false
open Go.RowKit
attribute [local irreducible] ay b8 Aw Le
abbrev dc (g : Pa) (v i : Nat) : Nat:=(gi (gr g.ar.nxt v) i).toNat
theorem iF {g : Pa} (hg : PaOk g) {v i : Nat} (hv : v < g.prio.length) (hi : i < (gr g.ar.nxt v).length) : dc g v i < g.prio.length:=by
 have hl:=hg.len
 have:=o7 hg.ar (by omega : v < g.ar.own.length) hi
 show (gi (gr g.ar.nxt v) i).toNat < _
 omega
theorem ku {g : Pa} (hg : PaOk g) {v u : Nat} (hv : v < g.prio.length) : (pgA g).E v u ↔ ∃ i,i < (gr g.ar.nxt v).length ∧ dc g v i = u:=by
 rw [ff]
 constructor
 · rintro ⟨_,_,t,h1,h2⟩;exact ⟨t,h1,by show (gi (gr g.ar.nxt v) t).toNat = u;rw [h2,Int.toNat_natCast]⟩
 · rintro ⟨i,h1,h2⟩
   have hl:=hg.len
   have h3:=o7 hg.ar (by omega : v < g.ar.own.length) h1
   have h4 : (gi (gr g.ar.nxt v) i).toNat = u:=h2
   exact ⟨hv,by omega,i,h1,by omega⟩
def CV (g : Pa) (s : St) (v : Nat) : Prop:=Pul g s v → (gi g.ar.own v = s.at_.tmod 2 → ∃ i,i < (gr g.ar.nxt v).length ∧ Pul g s (dc g v i)) ∧ (¬ gi g.ar.own v = s.at_.tmod 2 → ∀ i,i < (gr g.ar.nxt v).length → Blw g s s.at_ (dc g v i) → Pul g s (dc g v i))
theorem mq {g : Pa} (hg : PaOk g) {s : St} : cT g s ↔ ∀ v,v < g.prio.length → CV g s v:=by
 constructor
 · intro h v hv hp
   obtain ⟨h1,h2⟩:=h v hp
   rw [g6 hg hv] at h1 h2
   refine ⟨fun e=>?_,fun e i hi hb=>h2 e _ ((ku hg hv).2 ⟨i,hi,rfl⟩) hb⟩
   obtain ⟨u,h3,h4⟩:=h1 e
   obtain ⟨i,h5,h6⟩:=(ku hg hv).1 h3
   exact ⟨i,h5,by rw [h6];exact h4⟩
 · intro h v hp
   have hv:=(cz hp).1
   obtain ⟨h1,h2⟩:=h v hv hp
   rw [g6 hg hv]
   refine ⟨fun e=>?_,fun e u hE hb=>?_⟩
   · obtain ⟨i,h5,h6⟩:=h1 e
     exact ⟨_,(ku hg hv).2 ⟨i,h5,rfl⟩,h6⟩
   · obtain ⟨i,h5,h6⟩:=(ku hg hv).1 hE
     rw [← h6] at hb ⊢
     exact h2 e i h5 hb
theorem oq {g : Pa} {s : St} : (mks g.prio.length fun v=>(v : Int) ∈ cY g s) = mks g.prio.length (Pul g s):=fS fun v hv=>by
 unfold cY
 rw [fR]
 exact ⟨fun ⟨u,_,h2,h3⟩=>by
  have : u = v:=by omega
  subst this;exact h2,fun h=>⟨v,hv,h,rfl⟩⟩
theorem sc {g : Pa} {s : St} (h : StOk g s) (p : Int) : (mks g.prio.length fun v=>(v : Int) ∈ eM s p) = mks g.prio.length (Blw g s p):=fS fun v _=>dK h p v
theorem ef (g : Pa) (s : St) : cu (cY g s) g.prio.length:=gG _ _
set_option maxHeartbeats 1000000 in
theorem jI (g : Pa) (hg : PaOk g) (s : St) (h : StOk g s) (h0 : 0 ≤ s.at_) : ay Try.prog 59 [paA g,stA s] [] (fun _=>.c (.bool (tf (cT g s)))):=by
 have hl:=hg.len
 have hle:=hg.ar.le
 have hnl:=hg.ar.len
 have hlr:=h.lr
 have ha : s.at_ ≤ 40:=by rcases h.at' with h1|h1 <;> omega
 have hp:=ee g hg s h h0
 have hps:=ef g s
 have hpl:=ck hps (by omega)
 have hbl:=eN s s.at_ (by omega)
 have hbs:=ec h s.at_
 have hbl2:=ck hbs (by omega)
 have hm1:=gY g.ar (cY g s) (by rw [← hl];exact hps.bnd) (by omega) (by omega)
 have hm2:=gY g.ar (eM s s.at_) (by rw [← hl];exact hbs.bnd) (by omega) (by omega)
 rw [← hl,oq] at hm1
 rw [← hl,sc h] at hm2
 have hw1:=cH g.prio.length (Pul g s)
 have hw2:=cH g.prio.length (Blw g s s.at_)
 rw [show tf (cT g s) = tf (∀ v,v < g.prio.length → CV g s v) from dl (mq hg)]
 (refine bv aE Try.func59 rfl rfl (by kernel_rfl) fun hp0 ν hX hN=>?_;simp only [cr,Nat.reduceAdd])
 (repeat' (first|(with_reducible first|(apply hK;clear hK K)|refine stZ ?_|refine aP rfl ?_|((first|apply ae|apply af);clear ae X af Y))|(with_reducible refine aS ?_;first|refine aQ rfl ?_|refine aR rfl ?_)|(with_reducible refine bg ?_;first|refine aM rfl rfl rfl rfl ?_|refine bf rfl rfl rfl ?_|refine bB rfl rfl rfl rfl ?_)|(with_reducible refine bE ?_;first|refine bC rfl rfl rfl rfl ?_|refine bG rfl rfl rfl ?_|refine bY rfl rfl rfl rfl ?_|refine bH hN ?_)|((first|(with_reducible first|((first|refine aV ?_|refine bI ?_|refine aW ?_|refine bJ ?_);intro K hK)|(refine aB ?_;intro X Y ae af)|refine aC ?_)|(with_reducible refine bg ?_;refine aN rfl rfl fun X Y ae af=>?_)|(with_reducible refine bE ?_;refine bD rfl rfl fun X Y ae af=>?_));simp (disch:=first|decide|omega|(simp only [List.length_cons,List.length_nil];omega)) only [go_sem,↓aj hN,ak hN,reduceIte,reduceCtorEq,Nat.reduceAdd,Nat.reduceLT,Nat.reduceLeDiff,Nat.reduceEqDiff,Nat.reduceSub])|(with_reducible refine And.intro (fun h=>?_) (fun h=>?_) <;> try (exfalso;omega))|(with_reducible refine aU aE hN ?_)|(with_reducible refine bh aE hN ?_)|((first|refine bc (hp) ?_ rfl (fun _=>rfl) ?_|refine bc (hm1) ?_ rfl (fun _=>rfl) ?_|refine bc (hbl) ?_ rfl (fun _=>rfl) ?_);focus ((repeat' (first|(with_reducible first|exact aA|refine ax ?_ ?_|exact bO _|refine a8 ?_|exact ba _|exact bA _ _|refine bz ?_|exact aY _)|exact a9 hN rfl rfl|(refine bw hN rfl ?_;first|exact aF _|exact aG _)|exact aZ rfl rfl rfl));done))|(refine bc (hm2) ?_ rfl (fun _=>rfl) ?_;focus ((repeat' (first|(with_reducible first|exact aA|refine ax ?_ ?_|exact bO _|refine a8 ?_|exact ba _|exact bA _ _|refine bz ?_|exact aY _)|exact a9 hN rfl rfl|(refine bw hN rfl ?_;first|exact aF _|exact aG _)|exact aZ rfl rfl rfl));done))|(with_reducible first|exact aA|refine ax ?_ ?_|exact bO _|refine a8 ?_|exact ba _|exact bA _ _|refine bz ?_|exact aY _)|exact a9 hN rfl rfl|(refine bw hN rfl ?_;first|exact aF _|exact aG _)|exact aZ rfl rfl rfl|(simp only [bt,List.map_nil])|(with_reducible refine bM ?_)|(with_reducible refine And.intro ?_ ?_)|(refine ah ?_;omega)|(exact aT hN (by decide))))
 (refine bL (fun (k : Nat)=>(tmL [(27,.c (.int .i64 k)),(26,.c (.int .i64 g.prio.length)),(25,.sl (ν 3)),(5,.sl (ν 3)),(6,.sl (ν 5)),(2,.ad (ν 0) 0),(3,.ad (ν 1) 0)],hpL hp0 ν [.box [.c (.I g.ar.own),.c (.R g.ar.nxt),.c (.I g.prio)],stE s,.dead,.arr 4 .yes (.B (mks g.prio.length (Pul g s))),.dead,.arr 4 .yes (.B (mks g.prio.length (Blw g s s.at_)))])) (fun (k : Nat)=>k ≤ g.prio.length ∧ ∀ v,v < k → CV g s v) (fun (k : Nat)=>g.prio.length - k) ⟨0,?_,bi hX hN [] ?_ ?_⟩ ?_;(repeat' (first|(with_reducible first|exact clZ|refine bj ?_ ?_|refine bm ?_ ?_|rfl|refine suZ ?_)|refine bn rfl ?_ ?_|exact aI hN _ rfl rfl rfl|exact aJ hN _ rfl rfl rfl|exact ap hN _ rfl rfl rfl (Or.inr rfl)|(refine aK hN _ rfl rfl (by first|exact Or.inr rfl|exact Or.inl rfl) ?_;first|exact aF _|exact aG _)|refine aq hN rfl ?_|refine au hN rfl rfl ?_|exact ao hN _ rfl rfl|exact aw hN rfl rfl rfl rfl|(with_reducible first|refine stZ ?_|refine aH ?_)));(try (any_goals (first|(with_reducible rfl)|(refine ah ?_;omega)))))
 · exact ⟨Nat.zero_le _,fun v h=>absurd h (Nat.not_lt_zero _)⟩
 rintro k ⟨hk,ho⟩
 rcases Nat.lt_or_ge k g.prio.length with hkl|hkl
 · have hgk:=ez (Pul g s) hkl
   have hvt:=(hg.ar.vert k (by omega)).2.2
   obtain ⟨hv1,hv2,_⟩:=hvt

   (repeat' (first|(with_reducible first|(apply hK;clear hK K)|refine stZ ?_|refine aP rfl ?_|((first|apply ae|apply af);clear ae X af Y))|(with_reducible refine aS ?_;first|refine aQ rfl ?_|refine aR rfl ?_)|(with_reducible refine bg ?_;first|refine aM rfl rfl rfl rfl ?_|refine bf rfl rfl rfl ?_|refine bB rfl rfl rfl rfl ?_)|(with_reducible refine bE ?_;first|refine bC rfl rfl rfl rfl ?_|refine bG rfl rfl rfl ?_|refine bY rfl rfl rfl rfl ?_|refine bH hN ?_)|((first|(with_reducible first|((first|refine aV ?_|refine bI ?_|refine aW ?_|refine bJ ?_);intro K hK)|(refine aB ?_;intro X Y ae af)|refine aC ?_)|(with_reducible refine bg ?_;refine aN rfl rfl fun X Y ae af=>?_)|(with_reducible refine bE ?_;refine bD rfl rfl fun X Y ae af=>?_));simp (disch:=first|decide|omega|(simp only [List.length_cons,List.length_nil];omega)) only [go_sem,↓aj hN,ak hN,reduceIte,reduceCtorEq,Nat.reduceAdd,Nat.reduceLT,Nat.reduceLeDiff,Nat.reduceEqDiff,Nat.reduceSub])|(with_reducible refine And.intro (fun h=>?_) (fun h=>?_) <;> try (exfalso;omega))|(with_reducible refine aU aE hN ?_)|(with_reducible refine bh aE hN ?_)|(with_reducible refine And.intro ?_ ?_)|(refine ah ?_;omega)|(exact aT hN (by decide))))
   · have hnp : ¬ Pul g s k:=fun hp=>by
      have h' : gb (mks g.prio.length (Pul g s)) k = false:=by assumption
      rw [hgk,bp hp] at h';cases h'
     (refine ⟨k + 1,⟨?_,?_⟩,bi hX hN [] ?_ ?_⟩;(try any_goals dsimp only);(repeat' (first|(with_reducible first|exact clZ|refine bj ?_ ?_|refine bm ?_ ?_|rfl|refine suZ ?_)|refine bn rfl ?_ ?_|exact aI hN _ rfl rfl rfl|exact aJ hN _ rfl rfl rfl|exact ap hN _ rfl rfl rfl (Or.inr rfl)|(refine aK hN _ rfl rfl (by first|exact Or.inr rfl|exact Or.inl rfl) ?_;first|exact aF _|exact aG _)|refine aq hN rfl ?_|refine au hN rfl rfl ?_|exact ao hN _ rfl rfl|exact aw hN rfl rfl rfl rfl|(with_reducible first|refine stZ ?_|refine aH ?_)));(try (any_goals (first|(with_reducible rfl)|(refine ah ?_;omega)))))
     exact ⟨by omega,dJ ho fun hp=>absurd hp hnp⟩
   have hpk : Pul g s k:=by
    have h' : gb (mks g.prio.length (Pul g s)) k = true:=by assumption
    rw [hgk] at h';exact fq.1 h'
   (refine bL (fun (i : Nat)=>(tmL [(41,.c (.int .i64 i)),(40,.c (.int .i64 (gr g.ar.nxt k).length)),(39,.c (.I (gr g.ar.nxt k))),(9,.c (.bool (tf (∃ j,j < i ∧ Pul g s (dc g k j))))),(7,.c (.int .i64 k)),(27,.c (.int .i64 k)),(26,.c (.int .i64 g.prio.length)),(25,.sl (ν 3)),(5,.sl (ν 3)),(6,.sl (ν 5)),(2,.ad (ν 0) 0),(3,.ad (ν 1) 0)],hpL hp0 ν [.box [.c (.I g.ar.own),.c (.R g.ar.nxt),.c (.I g.prio)],stE s,.dead,.arr 4 .yes (.B (mks g.prio.length (Pul g s))),.dead,.arr 4 .yes (.B (mks g.prio.length (Blw g s s.at_)))])) (fun (i : Nat)=>i ≤ (gr g.ar.nxt k).length ∧ (¬ gi g.ar.own k = s.at_.tmod 2 → ∀ j,j < i → Blw g s s.at_ (dc g k j) → Pul g s (dc g k j))) (fun (i : Nat)=>(gr g.ar.nxt k).length - i) ⟨0,?_,bi hX hN [] ?_ ?_⟩ ?_;(repeat' (first|(with_reducible first|exact clZ|refine bj ?_ ?_|refine bm ?_ ?_|rfl|refine suZ ?_)|refine bn rfl ?_ ?_|exact aI hN _ rfl rfl rfl|exact aJ hN _ rfl rfl rfl|exact ap hN _ rfl rfl rfl (Or.inr rfl)|(refine aK hN _ rfl rfl (by first|exact Or.inr rfl|exact Or.inl rfl) ?_;first|exact aF _|exact aG _)|refine aq hN rfl ?_|refine au hN rfl rfl ?_|exact ao hN _ rfl rfl|exact aw hN rfl rfl rfl rfl|(with_reducible first|refine stZ ?_|refine aH ?_)));(try (any_goals (first|(with_reducible rfl)|(refine ah ?_;omega)))))
   · exact ⟨Nat.zero_le _,fun _ j h=>absurd h (Nat.not_lt_zero _)⟩
   · exact (aD fun ⟨j,h,_⟩=>absurd h (Nat.not_lt_zero _)).symm
   rintro i ⟨hi,hoi⟩
   have e1:=cM i fun j=>Pul g s (dc g k j)
   generalize hSo : tf (∃ j,j < i ∧ Pul g s (dc g k j)) = so at *
   clear e1
   have hn:=fun h=>o7 hg.ar (v:=k) (i:=i) (by omega) h
   rcases Nat.lt_or_ge i (gr g.ar.nxt k).length with hil|hil
   · have hsu:=iF hg hkl hil
     have hgp:=ez (Pul g s) hsu
     have hgb:=ez (Blw g s s.at_) hsu
     (repeat' (first|(with_reducible first|(apply hK;clear hK K)|refine stZ ?_|refine aP rfl ?_|((first|apply ae|apply af);clear ae X af Y))|(with_reducible refine aS ?_;first|refine aQ rfl ?_|refine aR rfl ?_)|(with_reducible refine bg ?_;first|refine aM rfl rfl rfl rfl ?_|refine bf rfl rfl rfl ?_|refine bB rfl rfl rfl rfl ?_)|(with_reducible refine bE ?_;first|refine bC rfl rfl rfl rfl ?_|refine bG rfl rfl rfl ?_|refine bY rfl rfl rfl rfl ?_|refine bH hN ?_)|((first|(with_reducible first|((first|refine aV ?_|refine bI ?_|refine aW ?_|refine bJ ?_);intro K hK)|(refine aB ?_;intro X Y ae af)|refine aC ?_)|(with_reducible refine bg ?_;refine aN rfl rfl fun X Y ae af=>?_)|(with_reducible refine bE ?_;refine bD rfl rfl fun X Y ae af=>?_));simp (disch:=first|decide|omega|(simp only [List.length_cons,List.length_nil];omega)) only [go_sem,↓aj hN,ak hN,reduceIte,reduceCtorEq,Nat.reduceAdd,Nat.reduceLT,Nat.reduceLeDiff,Nat.reduceEqDiff,Nat.reduceSub])|(with_reducible refine And.intro (fun h=>?_) (fun h=>?_) <;> try (exfalso;omega))|(with_reducible refine aU aE hN ?_)|(with_reducible refine bh aE hN ?_)|(with_reducible refine And.intro ?_ ?_)|(refine ah ?_;omega)|(exact aT hN (by decide))))
     all_goals have hP : Pul g s (dc g k i) ↔ gb (mks g.prio.length (Pul g s)) (gi (gr g.ar.nxt k) i).toNat = true:=by rw [show gb (mks g.prio.length (Pul g s)) (gi (gr g.ar.nxt k) i).toNat = _ from hgp];exact fq.symm
     all_goals have hB : Blw g s s.at_ (dc g k i) ↔ gb (mks g.prio.length (Blw g s s.at_)) (gi (gr g.ar.nxt k) i).toNat = true:=by rw [show gb (mks g.prio.length (Blw g s s.at_)) (gi (gr g.ar.nxt k) i).toNat = _ from hgb];exact fq.symm
     · (refine cW (.inr rfl) (by first|rfl|(simp (disch:=first|decide|omega|(simp only [List.length_cons,List.length_nil];omega)) only [bS,bU,bW,b7,go_sem,beq_self_eq_true,↓az,↓aj hN,ak hN,reduceIte,reduceCtorEq,Nat.reduceAdd,Nat.reduceLT,Nat.reduceLeDiff,Nat.reduceEqDiff,Nat.reduceSub];rfl)) ?_)
       exact congrArg C.bool (aD fun hall=>by
        have h1:=(hall k hkl hpk).2 (by assumption) i hil (hB.2 (by assumption))
        exact absurd ((hP.1 h1).symm.trans (by assumption : gb (mks g.prio.length (Pul g s)) (gi (gr g.ar.nxt k) i).toNat = false)) (by decide)).symm
     · (refine ⟨i + 1,⟨?_,?_⟩,bi hX hN [] ?_ ?_⟩;(try any_goals dsimp only);(repeat' (first|(with_reducible first|exact clZ|refine bj ?_ ?_|refine bm ?_ ?_|rfl|refine suZ ?_)|refine bn rfl ?_ ?_|exact aI hN _ rfl rfl rfl|exact aJ hN _ rfl rfl rfl|exact ap hN _ rfl rfl rfl (Or.inr rfl)|(refine aK hN _ rfl rfl (by first|exact Or.inr rfl|exact Or.inl rfl) ?_;first|exact aF _|exact aG _)|refine aq hN rfl ?_|refine au hN rfl rfl ?_|exact ao hN _ rfl rfl|exact aw hN rfl rfl rfl rfl|(with_reducible first|refine stZ ?_|refine aH ?_)));(try (any_goals (first|(with_reducible rfl)|(refine ah ?_;omega)))))
       · exact ⟨by omega,fun hne=>dJ (hoi hne) fun _=>hP.2 (by assumption)⟩
       · rw [cM,hSo,← hgp];simp [*]
     · (refine ⟨i + 1,⟨?_,?_⟩,bi hX hN [] ?_ ?_⟩;(try any_goals dsimp only);(repeat' (first|(with_reducible first|exact clZ|refine bj ?_ ?_|refine bm ?_ ?_|rfl|refine suZ ?_)|refine bn rfl ?_ ?_|exact aI hN _ rfl rfl rfl|exact aJ hN _ rfl rfl rfl|exact ap hN _ rfl rfl rfl (Or.inr rfl)|(refine aK hN _ rfl rfl (by first|exact Or.inr rfl|exact Or.inl rfl) ?_;first|exact aF _|exact aG _)|refine aq hN rfl ?_|refine au hN rfl rfl ?_|exact ao hN _ rfl rfl|exact aw hN rfl rfl rfl rfl|(with_reducible first|refine stZ ?_|refine aH ?_)));(try (any_goals (first|(with_reducible rfl)|(refine ah ?_;omega)))))
       · exact ⟨by omega,fun hne=>dJ (hoi hne) fun hb=>absurd ((hB.1 hb).symm.trans (by assumption : gb (mks g.prio.length (Blw g s s.at_)) (gi (gr g.ar.nxt k) i).toNat = false)) (by decide)⟩
       · rw [cM,hSo,← hgp];simp [*]
     · (refine ⟨i + 1,⟨?_,?_⟩,bi hX hN [] ?_ ?_⟩;(try any_goals dsimp only);(repeat' (first|(with_reducible first|exact clZ|refine bj ?_ ?_|refine bm ?_ ?_|rfl|refine suZ ?_)|refine bn rfl ?_ ?_|exact aI hN _ rfl rfl rfl|exact aJ hN _ rfl rfl rfl|exact ap hN _ rfl rfl rfl (Or.inr rfl)|(refine aK hN _ rfl rfl (by first|exact Or.inr rfl|exact Or.inl rfl) ?_;first|exact aF _|exact aG _)|refine aq hN rfl ?_|refine au hN rfl rfl ?_|exact ao hN _ rfl rfl|exact aw hN rfl rfl rfl rfl|(with_reducible first|refine stZ ?_|refine aH ?_)));(try (any_goals (first|(with_reducible rfl)|(refine ah ?_;omega)))))
       · exact ⟨by omega,fun hne=>absurd (mr (by assumption)) hne⟩
       · rw [cM,hSo,← hgp];simp [*]
     · (refine cW (.inr rfl) (by first|rfl|(simp (disch:=first|decide|omega|(simp only [List.length_cons,List.length_nil];omega)) only [bS,bU,bW,b7,go_sem,beq_self_eq_true,↓az,↓aj hN,ak hN,reduceIte,reduceCtorEq,Nat.reduceAdd,Nat.reduceLT,Nat.reduceLeDiff,Nat.reduceEqDiff,Nat.reduceSub];rfl)) ?_)
       exact congrArg C.bool (aD fun hall=>by
        have h1:=(hall k hkl hpk).2 (by assumption) i hil (hB.2 (by assumption))
        exact absurd ((hP.1 h1).symm.trans (by assumption : gb (mks g.prio.length (Pul g s)) (gi (gr g.ar.nxt k) i).toNat = false)) (by decide)).symm
     · (refine ⟨i + 1,⟨?_,?_⟩,bi hX hN [] ?_ ?_⟩;(try any_goals dsimp only);(repeat' (first|(with_reducible first|exact clZ|refine bj ?_ ?_|refine bm ?_ ?_|rfl|refine suZ ?_)|refine bn rfl ?_ ?_|exact aI hN _ rfl rfl rfl|exact aJ hN _ rfl rfl rfl|exact ap hN _ rfl rfl rfl (Or.inr rfl)|(refine aK hN _ rfl rfl (by first|exact Or.inr rfl|exact Or.inl rfl) ?_;first|exact aF _|exact aG _)|refine aq hN rfl ?_|refine au hN rfl rfl ?_|exact ao hN _ rfl rfl|exact aw hN rfl rfl rfl rfl|(with_reducible first|refine stZ ?_|refine aH ?_)));(try (any_goals (first|(with_reducible rfl)|(refine ah ?_;omega)))))
       · exact ⟨by omega,fun hne=>dJ (hoi hne) fun _=>hP.2 (by assumption)⟩
       · rw [cM,hSo,← hgp];simp [*]
     · (refine ⟨i + 1,⟨?_,?_⟩,bi hX hN [] ?_ ?_⟩;(try any_goals dsimp only);(repeat' (first|(with_reducible first|exact clZ|refine bj ?_ ?_|refine bm ?_ ?_|rfl|refine suZ ?_)|refine bn rfl ?_ ?_|exact aI hN _ rfl rfl rfl|exact aJ hN _ rfl rfl rfl|exact ap hN _ rfl rfl rfl (Or.inr rfl)|(refine aK hN _ rfl rfl (by first|exact Or.inr rfl|exact Or.inl rfl) ?_;first|exact aF _|exact aG _)|refine aq hN rfl ?_|refine au hN rfl rfl ?_|exact ao hN _ rfl rfl|exact aw hN rfl rfl rfl rfl|(with_reducible first|refine stZ ?_|refine aH ?_)));(try (any_goals (first|(with_reducible rfl)|(refine ah ?_;omega)))))
       · exact ⟨by omega,fun hne=>dJ (hoi hne) fun hb=>absurd ((hB.1 hb).symm.trans (by assumption : gb (mks g.prio.length (Blw g s s.at_)) (gi (gr g.ar.nxt k) i).toNat = false)) (by decide)⟩
       · rw [cM,hSo,← hgp];simp [*]
     · (refine ⟨i + 1,⟨?_,?_⟩,bi hX hN [] ?_ ?_⟩;(try any_goals dsimp only);(repeat' (first|(with_reducible first|exact clZ|refine bj ?_ ?_|refine bm ?_ ?_|rfl|refine suZ ?_)|refine bn rfl ?_ ?_|exact aI hN _ rfl rfl rfl|exact aJ hN _ rfl rfl rfl|exact ap hN _ rfl rfl rfl (Or.inr rfl)|(refine aK hN _ rfl rfl (by first|exact Or.inr rfl|exact Or.inl rfl) ?_;first|exact aF _|exact aG _)|refine aq hN rfl ?_|refine au hN rfl rfl ?_|exact ao hN _ rfl rfl|exact aw hN rfl rfl rfl rfl|(with_reducible first|refine stZ ?_|refine aH ?_)));(try (any_goals (first|(with_reducible rfl)|(refine ah ?_;omega)))))
       · exact ⟨by omega,fun hne=>absurd (mr (by assumption)) hne⟩
       · rw [cM,hSo,← hgp];simp [*]
   · obtain rfl : i = (gr g.ar.nxt k).length:=by omega
     (repeat' (first|(with_reducible first|(apply hK;clear hK K)|refine stZ ?_|refine aP rfl ?_|((first|apply ae|apply af);clear ae X af Y))|(with_reducible refine aS ?_;first|refine aQ rfl ?_|refine aR rfl ?_)|(with_reducible refine bg ?_;first|refine aM rfl rfl rfl rfl ?_|refine bf rfl rfl rfl ?_|refine bB rfl rfl rfl rfl ?_)|(with_reducible refine bE ?_;first|refine bC rfl rfl rfl rfl ?_|refine bG rfl rfl rfl ?_|refine bY rfl rfl rfl rfl ?_|refine bH hN ?_)|((first|(with_reducible first|((first|refine aV ?_|refine bI ?_|refine aW ?_|refine bJ ?_);intro K hK)|(refine aB ?_;intro X Y ae af)|refine aC ?_)|(with_reducible refine bg ?_;refine aN rfl rfl fun X Y ae af=>?_)|(with_reducible refine bE ?_;refine bD rfl rfl fun X Y ae af=>?_));simp (disch:=first|decide|omega|(simp only [List.length_cons,List.length_nil];omega)) only [go_sem,↓aj hN,ak hN,reduceIte,reduceCtorEq,Nat.reduceAdd,Nat.reduceLT,Nat.reduceLeDiff,Nat.reduceEqDiff,Nat.reduceSub])|(with_reducible refine And.intro (fun h=>?_) (fun h=>?_) <;> try (exfalso;omega))|(with_reducible refine aU aE hN ?_)|(with_reducible refine bh aE hN ?_)|(with_reducible refine And.intro ?_ ?_)|(refine ah ?_;omega)|(exact aT hN (by decide))))
     · (refine cW (.inr rfl) (by first|rfl|(simp (disch:=first|decide|omega|(simp only [List.length_cons,List.length_nil];omega)) only [bS,bU,bW,b7,go_sem,beq_self_eq_true,↓az,↓aj hN,ak hN,reduceIte,reduceCtorEq,Nat.reduceAdd,Nat.reduceLT,Nat.reduceLeDiff,Nat.reduceEqDiff,Nat.reduceSub];rfl)) ?_)
       exact congrArg C.bool (aD fun hall=>by
        have h1:=(hall k hkl hpk).1 (by assumption)
        rw [bp h1] at hSo
        simp_all).symm
     · (refine ⟨k + 1,⟨?_,?_⟩,bi hX hN [] ?_ ?_⟩;(try any_goals dsimp only);(repeat' (first|(with_reducible first|exact clZ|refine bj ?_ ?_|refine bm ?_ ?_|rfl|refine suZ ?_)|refine bn rfl ?_ ?_|exact aI hN _ rfl rfl rfl|exact aJ hN _ rfl rfl rfl|exact ap hN _ rfl rfl rfl (Or.inr rfl)|(refine aK hN _ rfl rfl (by first|exact Or.inr rfl|exact Or.inl rfl) ?_;first|exact aF _|exact aG _)|refine aq hN rfl ?_|refine au hN rfl rfl ?_|exact ao hN _ rfl rfl|exact aw hN rfl rfl rfl rfl|(with_reducible first|refine stZ ?_|refine aH ?_)));(try (any_goals (first|(with_reducible rfl)|(refine ah ?_;omega)))))
       exact ⟨by omega,dJ ho fun _=>⟨fun _=>fq.1 (hSo.trans (by assumption)),fun hne=>absurd (by assumption) hne⟩⟩
     · have hne : ¬ gi g.ar.own k = s.at_.tmod 2:=by simpa using (by assumption : (gi g.ar.own k == s.at_.tmod 2) = false)
       (refine ⟨k + 1,⟨?_,?_⟩,bi hX hN [] ?_ ?_⟩;(try any_goals dsimp only);(repeat' (first|(with_reducible first|exact clZ|refine bj ?_ ?_|refine bm ?_ ?_|rfl|refine suZ ?_)|refine bn rfl ?_ ?_|exact aI hN _ rfl rfl rfl|exact aJ hN _ rfl rfl rfl|exact ap hN _ rfl rfl rfl (Or.inr rfl)|(refine aK hN _ rfl rfl (by first|exact Or.inr rfl|exact Or.inl rfl) ?_;first|exact aF _|exact aG _)|refine aq hN rfl ?_|refine au hN rfl rfl ?_|exact ao hN _ rfl rfl|exact aw hN rfl rfl rfl rfl|(with_reducible first|refine stZ ?_|refine aH ?_)));(try (any_goals (first|(with_reducible rfl)|(refine ah ?_;omega)))))
       exact ⟨by omega,dJ ho fun _=>⟨fun e=>absurd e hne,hoi⟩⟩
 · (repeat' (first|(with_reducible first|(apply hK;clear hK K)|refine stZ ?_|refine aP rfl ?_|((first|apply ae|apply af);clear ae X af Y))|(with_reducible refine aS ?_;first|refine aQ rfl ?_|refine aR rfl ?_)|(with_reducible refine bg ?_;first|refine aM rfl rfl rfl rfl ?_|refine bf rfl rfl rfl ?_|refine bB rfl rfl rfl rfl ?_)|(with_reducible refine bE ?_;first|refine bC rfl rfl rfl rfl ?_|refine bG rfl rfl rfl ?_|refine bY rfl rfl rfl rfl ?_|refine bH hN ?_)|((first|(with_reducible first|((first|refine aV ?_|refine bI ?_|refine aW ?_|refine bJ ?_);intro K hK)|(refine aB ?_;intro X Y ae af)|refine aC ?_)|(with_reducible refine bg ?_;refine aN rfl rfl fun X Y ae af=>?_)|(with_reducible refine bE ?_;refine bD rfl rfl fun X Y ae af=>?_));simp (disch:=first|decide|omega|(simp only [List.length_cons,List.length_nil];omega)) only [go_sem,↓aj hN,ak hN,reduceIte,reduceCtorEq,Nat.reduceAdd,Nat.reduceLT,Nat.reduceLeDiff,Nat.reduceEqDiff,Nat.reduceSub])|(with_reducible refine And.intro (fun h=>?_) (fun h=>?_) <;> try (exfalso;omega))|(with_reducible refine aU aE hN ?_)|(with_reducible refine bh aE hN ?_)|(with_reducible refine And.intro ?_ ?_)|(refine ah ?_;omega)|(exact aT hN (by decide))))
   (refine cW (.inr rfl) (by first|rfl|(simp (disch:=first|decide|omega|(simp only [List.length_cons,List.length_nil];omega)) only [bS,bU,bW,b7,go_sem,beq_self_eq_true,↓az,↓aj hN,ak hN,reduceIte,reduceCtorEq,Nat.reduceAdd,Nat.reduceLT,Nat.reduceLeDiff,Nat.reduceEqDiff,Nat.reduceSub];rfl)) ?_)
   exact congrArg C.bool (bp fun v hv=>ho v (by omega)).symm
end Go.Proofs.Ytdkkhhfhdijfmaa
