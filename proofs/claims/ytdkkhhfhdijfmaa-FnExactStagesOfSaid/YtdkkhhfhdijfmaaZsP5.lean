/-
  Priority promotion, the program: whether what is pulled is shut; where it may be left to.
-/
import Derived.Test.YtdkkhhfhdijfmaaZsP4
namespace Go.Proofs.Ytdkkhhfhdijfmaa
set_option linter.unusedVariables false
set_option linter.unusedSimpArgs false
open Go.RowKit
attribute [local irreducible] ay b9 Aw Le
abbrev df (g : Pa) (v i : Nat) : Nat:=(gi (gr g.ar.nxt v) i).toNat
theorem iL {g : Pa} (hg : PaOk g) {v i : Nat} (hv : v < g.prio.length) (hi : i < (gr g.ar.nxt v).length) : df g v i < g.prio.length:=by
 have hl:=hg.len
 have:=pi hg.ar (by omega : v < g.ar.own.length) hi
 show (gi (gr g.ar.nxt v) i).toNat < _
 omega
theorem kA {g : Pa} (hg : PaOk g) {v u : Nat} (hv : v < g.prio.length) : (pgA g).E v u ↔ ∃ i,i < (gr g.ar.nxt v).length ∧ df g v i = u:=by
 rw [fk]
 constructor
 · rintro ⟨_,_,t,h1,h2⟩;exact ⟨t,h1,by show (gi (gr g.ar.nxt v) t).toNat = u;rw [h2,Int.toNat_natCast]⟩
 · rintro ⟨i,h1,h2⟩
   have hl:=hg.len
   have h3:=pi hg.ar (by omega : v < g.ar.own.length) h1
   have h4 : (gi (gr g.ar.nxt v) i).toNat = u:=h2
   exact ⟨hv,by omega,i,h1,by omega⟩
def CV (g : Pa) (s : St) (v : Nat) : Prop:=Pul g s v → (gi g.ar.own v = s.at_.tmod 2 → ∃ i,i < (gr g.ar.nxt v).length ∧ Pul g s (df g v i)) ∧ (¬ gi g.ar.own v = s.at_.tmod 2 → ∀ i,i < (gr g.ar.nxt v).length → Blw g s s.at_ (df g v i) → Pul g s (df g v i))
theorem ms {g : Pa} (hg : PaOk g) {s : St} : cQ g s ↔ ∀ v,v < g.prio.length → CV g s v:=by
 constructor
 · intro h v hv hp
   obtain ⟨h1,h2⟩:=h v hp
   rw [ic hg hv] at h1 h2
   refine ⟨fun e=>?_,fun e i hi hb=>h2 e _ ((kA hg hv).2 ⟨i,hi,rfl⟩) hb⟩
   obtain ⟨u,h3,h4⟩:=h1 e
   obtain ⟨i,h5,h6⟩:=(kA hg hv).1 h3
   exact ⟨i,h5,by rw [h6];exact h4⟩
 · intro h v hp
   have hv:=(cz hp).1
   obtain ⟨h1,h2⟩:=h v hv hp
   rw [ic hg hv]
   refine ⟨fun e=>?_,fun e u hE hb=>?_⟩
   · obtain ⟨i,h5,h6⟩:=h1 e
     exact ⟨_,(kA hg hv).2 ⟨i,h5,rfl⟩,h6⟩
   · obtain ⟨i,h5,h6⟩:=(kA hg hv).1 hE
     rw [← h6] at hb ⊢
     exact h2 e i h5 hb
theorem oF {g : Pa} {s : St} : (mks g.prio.length fun v=>(v : Int) ∈ c9 g s) = mks g.prio.length (Pul g s):=fY fun v hv=>by
 unfold c9
 rw [fX]
 exact ⟨fun ⟨u,_,h2,h3⟩=>by
  have : u = v:=by omega
  subst this;exact h2,fun h=>⟨v,hv,h,rfl⟩⟩
theorem sI {g : Pa} {s : St} (h : StOk g s) (p : Int) : (mks g.prio.length fun v=>(v : Int) ∈ eT s p) = mks g.prio.length (Blw g s p):=fY fun v _=>dN h p v
theorem ep (g : Pa) (s : St) : cu (c9 g s) g.prio.length:=gN _ _
set_option maxHeartbeats 1000000 in
theorem jP (g : Pa) (hg : PaOk g) (s : St) (h : StOk g s) (h0 : 0 ≤ s.at_) : ay Try.prog 59 [paA g,stA s] [] (fun _=>.c (.bool (tf (cQ g s)))):=by
 have hl:=hg.len
 have hle:=hg.ar.le
 have hnl:=hg.ar.len
 have hlr:=h.lr
 have ha : s.at_ ≤ 40:=by rcases h.at' with h1|h1 <;> omega
 have hp:=eo g hg s h h0
 have hps:=ep g s
 have hpl:=cj hps (by omega)
 have hbl:=eU s s.at_ (by omega)
 have hbs:=ej h s.at_
 have hbl2:=cj hbs (by omega)
 have hm1:=ia g.ar (c9 g s) (by rw [← hl];exact hps.bnd) (by omega) (by omega)
 have hm2:=ia g.ar (eT s s.at_) (by rw [← hl];exact hbs.bnd) (by omega) (by omega)
 rw [← hl,oF] at hm1
 rw [← hl,sI h] at hm2
 have hw1:=cH g.prio.length (Pul g s)
 have hw2:=cH g.prio.length (Blw g s s.at_)
 rw [show tf (cQ g s) = tf (∀ v,v < g.prio.length → CV g s v) from dp (ms hg)]
 (refine bv aE Try.func59 rfl rfl (by kernel_rfl) fun hp0 ν hX hN=>?_;simp only [co,Nat.reduceAdd])
 (repeat' (first|(with_reducible first|(apply hK;clear hK K)|refine stZ ?_|refine aQ rfl ?_|((first|apply ae|apply af);clear ae X af Y))|(with_reducible refine aT ?_;first|refine aR rfl ?_|refine aS rfl ?_)|(with_reducible refine bh ?_;first|refine aM rfl rfl rfl rfl ?_|refine bf rfl rfl rfl ?_|refine bB rfl rfl rfl rfl ?_)|(with_reducible refine bE ?_;first|refine bC rfl rfl rfl rfl ?_|refine bG rfl rfl rfl ?_|refine bY rfl rfl rfl rfl ?_|refine bH hN ?_)|((first|(with_reducible first|((first|refine aW ?_|refine bI ?_|refine aX ?_|refine bJ ?_);intro K hK)|(refine aC ?_;intro X Y ae af)|refine aD ?_)|(with_reducible refine bh ?_;refine aN rfl rfl fun X Y ae af=>?_)|(with_reducible refine bE ?_;refine bD rfl rfl fun X Y ae af=>?_));simp (disch:=first|decide|omega|(simp only [List.length_cons,List.length_nil];omega)) only [go_sem,↓aj hN,am hN,reduceIte,reduceCtorEq,Nat.reduceAdd,Nat.reduceLT,Nat.reduceLeDiff,Nat.reduceEqDiff,Nat.reduceSub])|(with_reducible refine And.intro (fun h=>?_) (fun h=>?_) <;> try (exfalso;omega))|(with_reducible refine aV aE hN ?_)|(with_reducible refine bi aE hN ?_)|((first|refine bd (hp) ?_ rfl (fun _=>rfl) ?_|refine bd (hm1) ?_ rfl (fun _=>rfl) ?_|refine bd (hbl) ?_ rfl (fun _=>rfl) ?_);focus ((repeat' (first|(with_reducible first|exact aA|refine ax ?_ ?_|exact bP _|refine a9 ?_|exact bc _|exact bA _ _|refine bz ?_|exact aZ _)|exact ba hN rfl rfl|(refine bw hN rfl ?_;first|exact aF _|exact aG _)|exact a8 rfl rfl rfl));done))|(refine bd (hm2) ?_ rfl (fun _=>rfl) ?_;focus ((repeat' (first|(with_reducible first|exact aA|refine ax ?_ ?_|exact bP _|refine a9 ?_|exact bc _|exact bA _ _|refine bz ?_|exact aZ _)|exact ba hN rfl rfl|(refine bw hN rfl ?_;first|exact aF _|exact aG _)|exact a8 rfl rfl rfl));done))|(with_reducible first|exact aA|refine ax ?_ ?_|exact bP _|refine a9 ?_|exact bc _|exact bA _ _|refine bz ?_|exact aZ _)|exact ba hN rfl rfl|(refine bw hN rfl ?_;first|exact aF _|exact aG _)|exact a8 rfl rfl rfl|(simp only [bt,List.map_nil])|(with_reducible refine bN ?_)|(with_reducible refine And.intro ?_ ?_)|(refine ah ?_;omega)|(exact aU hN (by decide))))
 (refine bM (fun (k : Nat)=>(tmL [(27,.c (.int .i64 k)),(26,.c (.int .i64 g.prio.length)),(25,.sl (ν 3)),(5,.sl (ν 3)),(6,.sl (ν 5)),(2,.ad (ν 0) 0),(3,.ad (ν 1) 0)],hpL hp0 ν [.box [.c (.I g.ar.own),.c (.R g.ar.nxt),.c (.I g.prio)],stE s,.dead,.arr 4 .yes (.B (mks g.prio.length (Pul g s))),.dead,.arr 4 .yes (.B (mks g.prio.length (Blw g s s.at_)))])) (fun (k : Nat)=>k ≤ g.prio.length ∧ ∀ v,v < k → CV g s v) (fun (k : Nat)=>g.prio.length - k) ⟨0,?_,bj hX hN [] ?_ ?_⟩ ?_;(repeat' (first|(with_reducible first|exact clZ|refine bm ?_ ?_|refine bn ?_ ?_|rfl|refine suZ ?_)|refine bo rfl ?_ ?_|exact aJ hN _ rfl rfl rfl|exact aK hN _ rfl rfl rfl|exact ap hN _ rfl rfl rfl (Or.inr rfl)|(refine aL hN _ rfl rfl (by first|exact Or.inr rfl|exact Or.inl rfl) ?_;first|exact aF _|exact aG _)|refine aq hN rfl ?_|refine au hN rfl rfl ?_|exact ao hN _ rfl rfl|exact aw hN rfl rfl rfl rfl|(with_reducible first|refine stZ ?_|refine aI ?_)));(try (any_goals (first|(with_reducible rfl)|(refine ah ?_;omega)))))
 · exact ⟨Nat.zero_le _,fun v h=>absurd h (Nat.not_lt_zero _)⟩
 rintro k ⟨hk,ho⟩
 rcases Nat.lt_or_ge k g.prio.length with hkl|hkl
 · have hgk:=eE (Pul g s) hkl
   have hvt:=(hg.ar.vert k (by omega)).2.2
   obtain ⟨hv1,hv2,_⟩:=hvt

   (repeat' (first|(with_reducible first|(apply hK;clear hK K)|refine stZ ?_|refine aQ rfl ?_|((first|apply ae|apply af);clear ae X af Y))|(with_reducible refine aT ?_;first|refine aR rfl ?_|refine aS rfl ?_)|(with_reducible refine bh ?_;first|refine aM rfl rfl rfl rfl ?_|refine bf rfl rfl rfl ?_|refine bB rfl rfl rfl rfl ?_)|(with_reducible refine bE ?_;first|refine bC rfl rfl rfl rfl ?_|refine bG rfl rfl rfl ?_|refine bY rfl rfl rfl rfl ?_|refine bH hN ?_)|((first|(with_reducible first|((first|refine aW ?_|refine bI ?_|refine aX ?_|refine bJ ?_);intro K hK)|(refine aC ?_;intro X Y ae af)|refine aD ?_)|(with_reducible refine bh ?_;refine aN rfl rfl fun X Y ae af=>?_)|(with_reducible refine bE ?_;refine bD rfl rfl fun X Y ae af=>?_));simp (disch:=first|decide|omega|(simp only [List.length_cons,List.length_nil];omega)) only [go_sem,↓aj hN,am hN,reduceIte,reduceCtorEq,Nat.reduceAdd,Nat.reduceLT,Nat.reduceLeDiff,Nat.reduceEqDiff,Nat.reduceSub])|(with_reducible refine And.intro (fun h=>?_) (fun h=>?_) <;> try (exfalso;omega))|(with_reducible refine aV aE hN ?_)|(with_reducible refine bi aE hN ?_)|(with_reducible refine And.intro ?_ ?_)|(refine ah ?_;omega)|(exact aU hN (by decide))))
   · have hnp : ¬ Pul g s k:=fun hp=>by
      have h' : gb (mks g.prio.length (Pul g s)) k = false:=by assumption
      rw [hgk,bg hp] at h';cases h'
     (refine ⟨k + 1,⟨?_,?_⟩,bj hX hN [] ?_ ?_⟩;(try any_goals dsimp only);(repeat' (first|(with_reducible first|exact clZ|refine bm ?_ ?_|refine bn ?_ ?_|rfl|refine suZ ?_)|refine bo rfl ?_ ?_|exact aJ hN _ rfl rfl rfl|exact aK hN _ rfl rfl rfl|exact ap hN _ rfl rfl rfl (Or.inr rfl)|(refine aL hN _ rfl rfl (by first|exact Or.inr rfl|exact Or.inl rfl) ?_;first|exact aF _|exact aG _)|refine aq hN rfl ?_|refine au hN rfl rfl ?_|exact ao hN _ rfl rfl|exact aw hN rfl rfl rfl rfl|(with_reducible first|refine stZ ?_|refine aI ?_)));(try (any_goals (first|(with_reducible rfl)|(refine ah ?_;omega)))))
     exact ⟨by omega,dM ho fun hp=>absurd hp hnp⟩
   have hpk : Pul g s k:=by
    have h' : gb (mks g.prio.length (Pul g s)) k = true:=by assumption
    rw [hgk] at h';exact fu.1 h'
   (refine bM (fun (i : Nat)=>(tmL [(41,.c (.int .i64 i)),(40,.c (.int .i64 (gr g.ar.nxt k).length)),(39,.c (.I (gr g.ar.nxt k))),(9,.c (.bool (tf (∃ j,j < i ∧ Pul g s (df g k j))))),(7,.c (.int .i64 k)),(27,.c (.int .i64 k)),(26,.c (.int .i64 g.prio.length)),(25,.sl (ν 3)),(5,.sl (ν 3)),(6,.sl (ν 5)),(2,.ad (ν 0) 0),(3,.ad (ν 1) 0)],hpL hp0 ν [.box [.c (.I g.ar.own),.c (.R g.ar.nxt),.c (.I g.prio)],stE s,.dead,.arr 4 .yes (.B (mks g.prio.length (Pul g s))),.dead,.arr 4 .yes (.B (mks g.prio.length (Blw g s s.at_)))])) (fun (i : Nat)=>i ≤ (gr g.ar.nxt k).length ∧ (¬ gi g.ar.own k = s.at_.tmod 2 → ∀ j,j < i → Blw g s s.at_ (df g k j) → Pul g s (df g k j))) (fun (i : Nat)=>(gr g.ar.nxt k).length - i) ⟨0,?_,bj hX hN [] ?_ ?_⟩ ?_;(repeat' (first|(with_reducible first|exact clZ|refine bm ?_ ?_|refine bn ?_ ?_|rfl|refine suZ ?_)|refine bo rfl ?_ ?_|exact aJ hN _ rfl rfl rfl|exact aK hN _ rfl rfl rfl|exact ap hN _ rfl rfl rfl (Or.inr rfl)|(refine aL hN _ rfl rfl (by first|exact Or.inr rfl|exact Or.inl rfl) ?_;first|exact aF _|exact aG _)|refine aq hN rfl ?_|refine au hN rfl rfl ?_|exact ao hN _ rfl rfl|exact aw hN rfl rfl rfl rfl|(with_reducible first|refine stZ ?_|refine aI ?_)));(try (any_goals (first|(with_reducible rfl)|(refine ah ?_;omega)))))
   · exact ⟨Nat.zero_le _,fun _ j h=>absurd h (Nat.not_lt_zero _)⟩
   · exact (aB fun ⟨j,h,_⟩=>absurd h (Nat.not_lt_zero _)).symm
   rintro i ⟨hi,hoi⟩
   have e1:=cO i fun j=>Pul g s (df g k j)
   generalize hSo : tf (∃ j,j < i ∧ Pul g s (df g k j)) = so at *
   clear e1
   have hn:=fun h=>pi hg.ar (v:=k) (i:=i) (by omega) h
   rcases Nat.lt_or_ge i (gr g.ar.nxt k).length with hil|hil
   · have hsu:=iL hg hkl hil
     have hgp:=eE (Pul g s) hsu
     have hgb:=eE (Blw g s s.at_) hsu
     (repeat' (first|(with_reducible first|(apply hK;clear hK K)|refine stZ ?_|refine aQ rfl ?_|((first|apply ae|apply af);clear ae X af Y))|(with_reducible refine aT ?_;first|refine aR rfl ?_|refine aS rfl ?_)|(with_reducible refine bh ?_;first|refine aM rfl rfl rfl rfl ?_|refine bf rfl rfl rfl ?_|refine bB rfl rfl rfl rfl ?_)|(with_reducible refine bE ?_;first|refine bC rfl rfl rfl rfl ?_|refine bG rfl rfl rfl ?_|refine bY rfl rfl rfl rfl ?_|refine bH hN ?_)|((first|(with_reducible first|((first|refine aW ?_|refine bI ?_|refine aX ?_|refine bJ ?_);intro K hK)|(refine aC ?_;intro X Y ae af)|refine aD ?_)|(with_reducible refine bh ?_;refine aN rfl rfl fun X Y ae af=>?_)|(with_reducible refine bE ?_;refine bD rfl rfl fun X Y ae af=>?_));simp (disch:=first|decide|omega|(simp only [List.length_cons,List.length_nil];omega)) only [go_sem,↓aj hN,am hN,reduceIte,reduceCtorEq,Nat.reduceAdd,Nat.reduceLT,Nat.reduceLeDiff,Nat.reduceEqDiff,Nat.reduceSub])|(with_reducible refine And.intro (fun h=>?_) (fun h=>?_) <;> try (exfalso;omega))|(with_reducible refine aV aE hN ?_)|(with_reducible refine bi aE hN ?_)|(with_reducible refine And.intro ?_ ?_)|(refine ah ?_;omega)|(exact aU hN (by decide))))
     all_goals have hP : Pul g s (df g k i) ↔ gb (mks g.prio.length (Pul g s)) (gi (gr g.ar.nxt k) i).toNat = true:=by rw [show gb (mks g.prio.length (Pul g s)) (gi (gr g.ar.nxt k) i).toNat = _ from hgp];exact fu.symm
     all_goals have hB : Blw g s s.at_ (df g k i) ↔ gb (mks g.prio.length (Blw g s s.at_)) (gi (gr g.ar.nxt k) i).toNat = true:=by rw [show gb (mks g.prio.length (Blw g s s.at_)) (gi (gr g.ar.nxt k) i).toNat = _ from hgb];exact fu.symm
     · (refine cU (.inr rfl) (by first|rfl|(simp (disch:=first|decide|omega|(simp only [List.length_cons,List.length_nil];omega)) only [bS,bV,bW,b7,go_sem,beq_self_eq_true,↓az,↓aj hN,am hN,reduceIte,reduceCtorEq,Nat.reduceAdd,Nat.reduceLT,Nat.reduceLeDiff,Nat.reduceEqDiff,Nat.reduceSub];rfl)) ?_)
       exact congrArg C.bool (aB fun hall=>by
        have h1:=(hall k hkl hpk).2 (by assumption) i hil (hB.2 (by assumption))
        exact absurd ((hP.1 h1).symm.trans (by assumption : gb (mks g.prio.length (Pul g s)) (gi (gr g.ar.nxt k) i).toNat = false)) (by decide)).symm
     · (refine ⟨i + 1,⟨?_,?_⟩,bj hX hN [] ?_ ?_⟩;(try any_goals dsimp only);(repeat' (first|(with_reducible first|exact clZ|refine bm ?_ ?_|refine bn ?_ ?_|rfl|refine suZ ?_)|refine bo rfl ?_ ?_|exact aJ hN _ rfl rfl rfl|exact aK hN _ rfl rfl rfl|exact ap hN _ rfl rfl rfl (Or.inr rfl)|(refine aL hN _ rfl rfl (by first|exact Or.inr rfl|exact Or.inl rfl) ?_;first|exact aF _|exact aG _)|refine aq hN rfl ?_|refine au hN rfl rfl ?_|exact ao hN _ rfl rfl|exact aw hN rfl rfl rfl rfl|(with_reducible first|refine stZ ?_|refine aI ?_)));(try (any_goals (first|(with_reducible rfl)|(refine ah ?_;omega)))))
       · exact ⟨by omega,fun hne=>dM (hoi hne) fun _=>hP.2 (by assumption)⟩
       · rw [cO,hSo,← hgp];simp [*]
     · (refine ⟨i + 1,⟨?_,?_⟩,bj hX hN [] ?_ ?_⟩;(try any_goals dsimp only);(repeat' (first|(with_reducible first|exact clZ|refine bm ?_ ?_|refine bn ?_ ?_|rfl|refine suZ ?_)|refine bo rfl ?_ ?_|exact aJ hN _ rfl rfl rfl|exact aK hN _ rfl rfl rfl|exact ap hN _ rfl rfl rfl (Or.inr rfl)|(refine aL hN _ rfl rfl (by first|exact Or.inr rfl|exact Or.inl rfl) ?_;first|exact aF _|exact aG _)|refine aq hN rfl ?_|refine au hN rfl rfl ?_|exact ao hN _ rfl rfl|exact aw hN rfl rfl rfl rfl|(with_reducible first|refine stZ ?_|refine aI ?_)));(try (any_goals (first|(with_reducible rfl)|(refine ah ?_;omega)))))
       · exact ⟨by omega,fun hne=>dM (hoi hne) fun hb=>absurd ((hB.1 hb).symm.trans (by assumption : gb (mks g.prio.length (Blw g s s.at_)) (gi (gr g.ar.nxt k) i).toNat = false)) (by decide)⟩
       · rw [cO,hSo,← hgp];simp [*]
     · (refine ⟨i + 1,⟨?_,?_⟩,bj hX hN [] ?_ ?_⟩;(try any_goals dsimp only);(repeat' (first|(with_reducible first|exact clZ|refine bm ?_ ?_|refine bn ?_ ?_|rfl|refine suZ ?_)|refine bo rfl ?_ ?_|exact aJ hN _ rfl rfl rfl|exact aK hN _ rfl rfl rfl|exact ap hN _ rfl rfl rfl (Or.inr rfl)|(refine aL hN _ rfl rfl (by first|exact Or.inr rfl|exact Or.inl rfl) ?_;first|exact aF _|exact aG _)|refine aq hN rfl ?_|refine au hN rfl rfl ?_|exact ao hN _ rfl rfl|exact aw hN rfl rfl rfl rfl|(with_reducible first|refine stZ ?_|refine aI ?_)));(try (any_goals (first|(with_reducible rfl)|(refine ah ?_;omega)))))
       · exact ⟨by omega,fun hne=>absurd (mt (by assumption)) hne⟩
       · rw [cO,hSo,← hgp];simp [*]
     · (refine cU (.inr rfl) (by first|rfl|(simp (disch:=first|decide|omega|(simp only [List.length_cons,List.length_nil];omega)) only [bS,bV,bW,b7,go_sem,beq_self_eq_true,↓az,↓aj hN,am hN,reduceIte,reduceCtorEq,Nat.reduceAdd,Nat.reduceLT,Nat.reduceLeDiff,Nat.reduceEqDiff,Nat.reduceSub];rfl)) ?_)
       exact congrArg C.bool (aB fun hall=>by
        have h1:=(hall k hkl hpk).2 (by assumption) i hil (hB.2 (by assumption))
        exact absurd ((hP.1 h1).symm.trans (by assumption : gb (mks g.prio.length (Pul g s)) (gi (gr g.ar.nxt k) i).toNat = false)) (by decide)).symm
     · (refine ⟨i + 1,⟨?_,?_⟩,bj hX hN [] ?_ ?_⟩;(try any_goals dsimp only);(repeat' (first|(with_reducible first|exact clZ|refine bm ?_ ?_|refine bn ?_ ?_|rfl|refine suZ ?_)|refine bo rfl ?_ ?_|exact aJ hN _ rfl rfl rfl|exact aK hN _ rfl rfl rfl|exact ap hN _ rfl rfl rfl (Or.inr rfl)|(refine aL hN _ rfl rfl (by first|exact Or.inr rfl|exact Or.inl rfl) ?_;first|exact aF _|exact aG _)|refine aq hN rfl ?_|refine au hN rfl rfl ?_|exact ao hN _ rfl rfl|exact aw hN rfl rfl rfl rfl|(with_reducible first|refine stZ ?_|refine aI ?_)));(try (any_goals (first|(with_reducible rfl)|(refine ah ?_;omega)))))
       · exact ⟨by omega,fun hne=>dM (hoi hne) fun _=>hP.2 (by assumption)⟩
       · rw [cO,hSo,← hgp];simp [*]
     · (refine ⟨i + 1,⟨?_,?_⟩,bj hX hN [] ?_ ?_⟩;(try any_goals dsimp only);(repeat' (first|(with_reducible first|exact clZ|refine bm ?_ ?_|refine bn ?_ ?_|rfl|refine suZ ?_)|refine bo rfl ?_ ?_|exact aJ hN _ rfl rfl rfl|exact aK hN _ rfl rfl rfl|exact ap hN _ rfl rfl rfl (Or.inr rfl)|(refine aL hN _ rfl rfl (by first|exact Or.inr rfl|exact Or.inl rfl) ?_;first|exact aF _|exact aG _)|refine aq hN rfl ?_|refine au hN rfl rfl ?_|exact ao hN _ rfl rfl|exact aw hN rfl rfl rfl rfl|(with_reducible first|refine stZ ?_|refine aI ?_)));(try (any_goals (first|(with_reducible rfl)|(refine ah ?_;omega)))))
       · exact ⟨by omega,fun hne=>dM (hoi hne) fun hb=>absurd ((hB.1 hb).symm.trans (by assumption : gb (mks g.prio.length (Blw g s s.at_)) (gi (gr g.ar.nxt k) i).toNat = false)) (by decide)⟩
       · rw [cO,hSo,← hgp];simp [*]
     · (refine ⟨i + 1,⟨?_,?_⟩,bj hX hN [] ?_ ?_⟩;(try any_goals dsimp only);(repeat' (first|(with_reducible first|exact clZ|refine bm ?_ ?_|refine bn ?_ ?_|rfl|refine suZ ?_)|refine bo rfl ?_ ?_|exact aJ hN _ rfl rfl rfl|exact aK hN _ rfl rfl rfl|exact ap hN _ rfl rfl rfl (Or.inr rfl)|(refine aL hN _ rfl rfl (by first|exact Or.inr rfl|exact Or.inl rfl) ?_;first|exact aF _|exact aG _)|refine aq hN rfl ?_|refine au hN rfl rfl ?_|exact ao hN _ rfl rfl|exact aw hN rfl rfl rfl rfl|(with_reducible first|refine stZ ?_|refine aI ?_)));(try (any_goals (first|(with_reducible rfl)|(refine ah ?_;omega)))))
       · exact ⟨by omega,fun hne=>absurd (mt (by assumption)) hne⟩
       · rw [cO,hSo,← hgp];simp [*]
   · obtain rfl : i = (gr g.ar.nxt k).length:=by omega
     (repeat' (first|(with_reducible first|(apply hK;clear hK K)|refine stZ ?_|refine aQ rfl ?_|((first|apply ae|apply af);clear ae X af Y))|(with_reducible refine aT ?_;first|refine aR rfl ?_|refine aS rfl ?_)|(with_reducible refine bh ?_;first|refine aM rfl rfl rfl rfl ?_|refine bf rfl rfl rfl ?_|refine bB rfl rfl rfl rfl ?_)|(with_reducible refine bE ?_;first|refine bC rfl rfl rfl rfl ?_|refine bG rfl rfl rfl ?_|refine bY rfl rfl rfl rfl ?_|refine bH hN ?_)|((first|(with_reducible first|((first|refine aW ?_|refine bI ?_|refine aX ?_|refine bJ ?_);intro K hK)|(refine aC ?_;intro X Y ae af)|refine aD ?_)|(with_reducible refine bh ?_;refine aN rfl rfl fun X Y ae af=>?_)|(with_reducible refine bE ?_;refine bD rfl rfl fun X Y ae af=>?_));simp (disch:=first|decide|omega|(simp only [List.length_cons,List.length_nil];omega)) only [go_sem,↓aj hN,am hN,reduceIte,reduceCtorEq,Nat.reduceAdd,Nat.reduceLT,Nat.reduceLeDiff,Nat.reduceEqDiff,Nat.reduceSub])|(with_reducible refine And.intro (fun h=>?_) (fun h=>?_) <;> try (exfalso;omega))|(with_reducible refine aV aE hN ?_)|(with_reducible refine bi aE hN ?_)|(with_reducible refine And.intro ?_ ?_)|(refine ah ?_;omega)|(exact aU hN (by decide))))
     · (refine cU (.inr rfl) (by first|rfl|(simp (disch:=first|decide|omega|(simp only [List.length_cons,List.length_nil];omega)) only [bS,bV,bW,b7,go_sem,beq_self_eq_true,↓az,↓aj hN,am hN,reduceIte,reduceCtorEq,Nat.reduceAdd,Nat.reduceLT,Nat.reduceLeDiff,Nat.reduceEqDiff,Nat.reduceSub];rfl)) ?_)
       exact congrArg C.bool (aB fun hall=>by
        have h1:=(hall k hkl hpk).1 (by assumption)
        rw [bg h1] at hSo
        simp_all).symm
     · (refine ⟨k + 1,⟨?_,?_⟩,bj hX hN [] ?_ ?_⟩;(try any_goals dsimp only);(repeat' (first|(with_reducible first|exact clZ|refine bm ?_ ?_|refine bn ?_ ?_|rfl|refine suZ ?_)|refine bo rfl ?_ ?_|exact aJ hN _ rfl rfl rfl|exact aK hN _ rfl rfl rfl|exact ap hN _ rfl rfl rfl (Or.inr rfl)|(refine aL hN _ rfl rfl (by first|exact Or.inr rfl|exact Or.inl rfl) ?_;first|exact aF _|exact aG _)|refine aq hN rfl ?_|refine au hN rfl rfl ?_|exact ao hN _ rfl rfl|exact aw hN rfl rfl rfl rfl|(with_reducible first|refine stZ ?_|refine aI ?_)));(try (any_goals (first|(with_reducible rfl)|(refine ah ?_;omega)))))
       exact ⟨by omega,dM ho fun _=>⟨fun _=>fu.1 (hSo.trans (by assumption)),fun hne=>absurd (by assumption) hne⟩⟩
     · have hne : ¬ gi g.ar.own k = s.at_.tmod 2:=by simpa using (by assumption : (gi g.ar.own k == s.at_.tmod 2) = false)
       (refine ⟨k + 1,⟨?_,?_⟩,bj hX hN [] ?_ ?_⟩;(try any_goals dsimp only);(repeat' (first|(with_reducible first|exact clZ|refine bm ?_ ?_|refine bn ?_ ?_|rfl|refine suZ ?_)|refine bo rfl ?_ ?_|exact aJ hN _ rfl rfl rfl|exact aK hN _ rfl rfl rfl|exact ap hN _ rfl rfl rfl (Or.inr rfl)|(refine aL hN _ rfl rfl (by first|exact Or.inr rfl|exact Or.inl rfl) ?_;first|exact aF _|exact aG _)|refine aq hN rfl ?_|refine au hN rfl rfl ?_|exact ao hN _ rfl rfl|exact aw hN rfl rfl rfl rfl|(with_reducible first|refine stZ ?_|refine aI ?_)));(try (any_goals (first|(with_reducible rfl)|(refine ah ?_;omega)))))
       exact ⟨by omega,dM ho fun _=>⟨fun e=>absurd e hne,hoi⟩⟩
 · (repeat' (first|(with_reducible first|(apply hK;clear hK K)|refine stZ ?_|refine aQ rfl ?_|((first|apply ae|apply af);clear ae X af Y))|(with_reducible refine aT ?_;first|refine aR rfl ?_|refine aS rfl ?_)|(with_reducible refine bh ?_;first|refine aM rfl rfl rfl rfl ?_|refine bf rfl rfl rfl ?_|refine bB rfl rfl rfl rfl ?_)|(with_reducible refine bE ?_;first|refine bC rfl rfl rfl rfl ?_|refine bG rfl rfl rfl ?_|refine bY rfl rfl rfl rfl ?_|refine bH hN ?_)|((first|(with_reducible first|((first|refine aW ?_|refine bI ?_|refine aX ?_|refine bJ ?_);intro K hK)|(refine aC ?_;intro X Y ae af)|refine aD ?_)|(with_reducible refine bh ?_;refine aN rfl rfl fun X Y ae af=>?_)|(with_reducible refine bE ?_;refine bD rfl rfl fun X Y ae af=>?_));simp (disch:=first|decide|omega|(simp only [List.length_cons,List.length_nil];omega)) only [go_sem,↓aj hN,am hN,reduceIte,reduceCtorEq,Nat.reduceAdd,Nat.reduceLT,Nat.reduceLeDiff,Nat.reduceEqDiff,Nat.reduceSub])|(with_reducible refine And.intro (fun h=>?_) (fun h=>?_) <;> try (exfalso;omega))|(with_reducible refine aV aE hN ?_)|(with_reducible refine bi aE hN ?_)|(with_reducible refine And.intro ?_ ?_)|(refine ah ?_;omega)|(exact aU hN (by decide))))
   (refine cU (.inr rfl) (by first|rfl|(simp (disch:=first|decide|omega|(simp only [List.length_cons,List.length_nil];omega)) only [bS,bV,bW,b7,go_sem,beq_self_eq_true,↓az,↓aj hN,am hN,reduceIte,reduceCtorEq,Nat.reduceAdd,Nat.reduceLT,Nat.reduceLeDiff,Nat.reduceEqDiff,Nat.reduceSub];rfl)) ?_)
   exact congrArg C.bool (bg fun v hv=>ho v (by omega)).symm
end Go.Proofs.Ytdkkhhfhdijfmaa
