/-
  Priority promotion, the program: the least region to which what is pulled may be left.
-/
import Derived.Test.YtdkkhhfhdijfmaaZsP5
namespace Go.Proofs.Ytdkkhhfhdijfmaa
set_option linter.unusedVariables false
set_option linter.unusedSimpArgs false
open Go.RowKit
attribute [local irreducible] ay b9 Aw Le
def ExA (g : Pa) (s : St) (v i : Nat) : Prop:=v < g.prio.length ∧ Pul g s v ∧ ¬ gi g.ar.own v = s.at_.tmod 2 ∧ i < (gr g.ar.nxt v).length ∧ 0 ≤ gi s.region (df g v i) ∧ ¬ Pul g s (df g v i)
def Bef (k i v j : Nat) : Prop:=v < k ∨ (v = k ∧ j < i)
def fq (g : Pa) (s : St) (k i : Nat) (L : Int) : Prop:=(L = -1 ∧ ∀ v j,Bef k i v j → ¬ ExA g s v j) ∨ (0 ≤ L ∧ (∃ v j,Bef k i v j ∧ ExA g s v j ∧ gi s.region (df g v j) = L) ∧ ∀ v j,Bef k i v j → ExA g s v j → L ≤ gi s.region (df g v j))
section
variable {g : Pa} {s : St}
theorem mu : fq g s 0 0 (-1):=.inl ⟨rfl,fun v j h=>by rcases h with h|⟨_,h⟩ <;> omega⟩
theorem nD {k i k' i' : Nat} {L : Int} (h : fq g s k i L) (hb : ∀ v j,ExA g s v j → (Bef k' i' v j ↔ Bef k i v j)) : fq g s k' i' L:=by
 rcases h with ⟨h1,h2⟩|⟨h1,⟨v,j,a,b,c⟩,h3⟩
 · exact .inl ⟨h1,fun v j h h'=>h2 v j ((hb v j h').1 h) h'⟩
 · exact .inr ⟨h1,⟨v,j,(hb v j b).2 a,b,c⟩,fun v j h h'=>h3 v j ((hb v j h').1 h) h'⟩
theorem mv {k i : Nat} {L : Int} (h : fq g s k i L) (hi : (gr g.ar.nxt k).length ≤ i) : fq g s (k + 1) 0 L:=nD h fun v j hE=>by
 have hj:=hE.2.2.2.1
 unfold Bef
 by_cases e : v = k
 · subst e;constructor <;> intro _ <;> omega
 · omega
theorem ij {k : Nat} {L : Int} (h : fq g s k 0 L) (hk : ∀ j,¬ ExA g s k j) : fq g s (k + 1) 0 L:=nD h fun v j hE=>by
 unfold Bef
 by_cases e : v = k
 · subst e;exact absurd hE (hk j)
 · omega
theorem ik {k i : Nat} {L : Int} (h : fq g s k i L) (hk : ¬ ExA g s k i) : fq g s k (i + 1) L:=nD h fun v j hE=>by
 unfold Bef
 by_cases e : v = k ∧ j = i
 · obtain ⟨rfl,rfl⟩:=e;exact absurd hE hk
 · omega
theorem mw {k i : Nat} {L : Int} (h : fq g s k i L) (h0 : 0 ≤ L) (hL : L ≤ gi s.region (df g k i)) : fq g s k (i + 1) L:=by
 rcases h with ⟨h1,_⟩|⟨_,⟨v,j,a,b,c⟩,h3⟩
 · omega
 · refine .inr ⟨h0,⟨v,j,by unfold Bef at *;omega,b,c⟩,fun v j h h'=>?_⟩
   by_cases e : v = k ∧ j = i
   · obtain ⟨rfl,rfl⟩:=e;exact hL
   · exact h3 v j (by unfold Bef at *;omega) h'
theorem il {k i : Nat} {L : Int} (h : fq g s k i L) (hk : ExA g s k i) (hL : L < 0 ∨ gi s.region (df g k i) < L) : fq g s k (i + 1) (gi s.region (df g k i)):=by
 refine .inr ⟨hk.2.2.2.2.1,⟨k,i,.inr ⟨rfl,Nat.lt_succ_self i⟩,hk,rfl⟩,fun v j hb hE=>?_⟩
 by_cases e : v = k ∧ j = i
 · obtain ⟨rfl,rfl⟩:=e;exact Int.le_refl _
 · have hb' : Bef k i v j:=by unfold Bef at *;omega
   rcases h with ⟨h1,h2⟩|⟨h1,_,h3⟩
   · exact absurd hE (h2 v j hb')
   · have:=h3 v j hb' hE;omega
theorem oG (hg : PaOk g) (hO : StOk g s) {L : Int} (h : fq g s g.prio.length 0 L) : L = upV g s:=by
 have hx : ∀ p : Nat,mo g s p ↔ ∃ v j,ExA g s v j ∧ gi s.region (df g v j) = (p : Int):=fun p=>by
  constructor
  · rintro ⟨v,u,h1,h2,h3,h4,h5⟩
    have hv:=(cz h1).1
    rw [ic hg hv] at h2
    obtain ⟨j,h6,h7⟩:=(kA hg hv).1 h3
    exact ⟨v,j,⟨hv,h1,h2,h6,by rw [h7];omega,by rw [h7];exact h4⟩,by rw [h7];exact h5⟩
  · rintro ⟨v,j,⟨hv,h1,h2,h3,h4,h5⟩,h6⟩
    exact ⟨v,_,h1,by rw [ic hg hv];exact h2,(kA hg hv).2 ⟨j,h3,rfl⟩,h5,h6⟩
 have hbe : ∀ v j,ExA g s v j → Bef g.prio.length 0 v j:=fun v j h=>.inl h.1
 have h40 : ∀ v j,ExA g s v j → gi s.region (df g v j) ≤ 40:=fun v j h=>(hO.opn (iL hg h.1 h.2.2.2.1) h.2.2.2.2.1).2.2
 unfold upV
 rcases ig (mo g s) 41 with ⟨e1,e2⟩|⟨p,e1,e2,e3,e4⟩ <;> rcases h with ⟨h1,h2⟩|⟨h1,⟨v,j,a,b,c⟩,h3⟩
 · rw [h1,e1]
 · have:=h40 v j b
   exact absurd ((hx L.toNat).2 ⟨v,j,b,by omega⟩) (e2 L.toNat (by omega))
 · obtain ⟨v,j,a,_⟩:=(hx p).1 e3
   exact absurd a (h2 v j (hbe v j a))
 · obtain ⟨v',j',a',c'⟩:=(hx p).1 e3
   have h4:=h3 v' j' (hbe v' j' a') a'
   rw [e2]
   rcases Nat.lt_or_ge L.toNat p with h5|h5
   · exact absurd ((hx L.toNat).2 ⟨v,j,b,by omega⟩) (e4 _ h5)
   · omega
end
set_option maxHeartbeats 1000000 in
theorem i5 (g : Pa) (hg : PaOk g) (s : St) (hO : StOk g s) (h0 : 0 ≤ s.at_) : ay Try.prog 62 [paA g,stA s] [] (fun _=>.c (.int .i64 (upV g s))):=by
 have hl:=hg.len
 have hle:=hg.ar.le
 have hnl:=hg.ar.len
 have hlr:=hO.lr
 have ha : s.at_ ≤ 40:=by rcases hO.at' with h1|h1 <;> omega
 have hp:=eo g hg s hO h0
 have hps:=ep g s
 have hpl:=cj hps (by omega)
 have hm1:=ia g.ar (c9 g s) (by rw [← hl];exact hps.bnd) (by omega) (by omega)
 rw [← hl,oF] at hm1
 have hw1:=cH g.prio.length (Pul g s)
 (refine bv aE Try.func62 rfl rfl (by kernel_rfl) fun hp0 ν hX hN=>?_;simp only [co,Nat.reduceAdd])
 (repeat' (first|(with_reducible first|(apply hK;clear hK K)|refine stZ ?_|refine aQ rfl ?_|((first|apply ae|apply af);clear ae X af Y))|(with_reducible refine aT ?_;first|refine aR rfl ?_|refine aS rfl ?_)|(with_reducible refine bh ?_;first|refine aM rfl rfl rfl rfl ?_|refine bf rfl rfl rfl ?_|refine bB rfl rfl rfl rfl ?_)|(with_reducible refine bE ?_;first|refine bC rfl rfl rfl rfl ?_|refine bG rfl rfl rfl ?_|refine bY rfl rfl rfl rfl ?_|refine bH hN ?_)|((first|(with_reducible first|((first|refine aW ?_|refine bI ?_|refine aX ?_|refine bJ ?_);intro K hK)|(refine aC ?_;intro X Y ae af)|refine aD ?_)|(with_reducible refine bh ?_;refine aN rfl rfl fun X Y ae af=>?_)|(with_reducible refine bE ?_;refine bD rfl rfl fun X Y ae af=>?_));simp (disch:=first|decide|omega|(simp only [List.length_cons,List.length_nil];omega)) only [go_sem,↓aj hN,am hN,reduceIte,reduceCtorEq,Nat.reduceAdd,Nat.reduceLT,Nat.reduceLeDiff,Nat.reduceEqDiff,Nat.reduceSub])|(with_reducible refine And.intro (fun h=>?_) (fun h=>?_) <;> try (exfalso;omega))|(with_reducible refine aV aE hN ?_)|(with_reducible refine bi aE hN ?_)|((first|refine bd (hp) ?_ rfl (fun _=>rfl) ?_|refine bd (hm1) ?_ rfl (fun _=>rfl) ?_);focus ((repeat' (first|(with_reducible first|exact aA|refine ax ?_ ?_|exact bP _|refine a9 ?_|exact bc _|exact bA _ _|refine bz ?_|exact aZ _)|exact ba hN rfl rfl|(refine bw hN rfl ?_;first|exact aF _|exact aG _)|exact a8 rfl rfl rfl));done))|(with_reducible first|exact aA|refine ax ?_ ?_|exact bP _|refine a9 ?_|exact bc _|exact bA _ _|refine bz ?_|exact aZ _)|exact ba hN rfl rfl|(refine bw hN rfl ?_;first|exact aF _|exact aG _)|exact a8 rfl rfl rfl|(simp only [bt,List.map_nil])|(with_reducible refine bN ?_)|(with_reducible refine And.intro ?_ ?_)|(refine ah ?_;omega)|(exact aU hN (by decide))))
 (refine bM (fun (y : Nat × Int)=>(tmL [(20,.c (.int .i64 y.1)),(19,.c (.int .i64 g.prio.length)),(18,.sl (ν 3)),(5,.sl (ν 3)),(6,.c (.int .i64 y.2)),(2,.ad (ν 0) 0),(3,.ad (ν 1) 0)],hpL hp0 ν [.box [.c (.I g.ar.own),.c (.R g.ar.nxt),.c (.I g.prio)],stE s,.dead,.arr 4 .yes (.B (mks g.prio.length (Pul g s)))])) (fun (y : Nat × Int)=>y.1 ≤ g.prio.length ∧ fq g s y.1 0 y.2) (fun (y : Nat × Int)=>g.prio.length - y.1) ⟨(0,-1),?_,bj hX hN [] ?_ ?_⟩ ?_;(repeat' (first|(with_reducible first|exact clZ|refine bm ?_ ?_|refine bn ?_ ?_|rfl|refine suZ ?_)|refine bo rfl ?_ ?_|exact aJ hN _ rfl rfl rfl|exact aK hN _ rfl rfl rfl|exact ap hN _ rfl rfl rfl (Or.inr rfl)|(refine aL hN _ rfl rfl (by first|exact Or.inr rfl|exact Or.inl rfl) ?_;first|exact aF _|exact aG _)|refine aq hN rfl ?_|refine au hN rfl rfl ?_|exact ao hN _ rfl rfl|exact aw hN rfl rfl rfl rfl|(with_reducible first|refine stZ ?_|refine aI ?_)));(try (any_goals (first|(with_reducible rfl)|(refine ah ?_;omega)))))
 · exact ⟨Nat.zero_le _,mu⟩
 rintro ⟨k,L⟩ ⟨hk,ho⟩
 dsimp only at hk ho ⊢
 rcases Nat.lt_or_ge k g.prio.length with hkl|hkl
 · have hgk:=eE (Pul g s) hkl
   have hvt:=(hg.ar.vert k (by omega)).2.2
   obtain ⟨hv1,hv2,_⟩:=hvt
   (repeat' (first|(with_reducible first|(apply hK;clear hK K)|refine stZ ?_|refine aQ rfl ?_|((first|apply ae|apply af);clear ae X af Y))|(with_reducible refine aT ?_;first|refine aR rfl ?_|refine aS rfl ?_)|(with_reducible refine bh ?_;first|refine aM rfl rfl rfl rfl ?_|refine bf rfl rfl rfl ?_|refine bB rfl rfl rfl rfl ?_)|(with_reducible refine bE ?_;first|refine bC rfl rfl rfl rfl ?_|refine bG rfl rfl rfl ?_|refine bY rfl rfl rfl rfl ?_|refine bH hN ?_)|((first|(with_reducible first|((first|refine aW ?_|refine bI ?_|refine aX ?_|refine bJ ?_);intro K hK)|(refine aC ?_;intro X Y ae af)|refine aD ?_)|(with_reducible refine bh ?_;refine aN rfl rfl fun X Y ae af=>?_)|(with_reducible refine bE ?_;refine bD rfl rfl fun X Y ae af=>?_));simp (disch:=first|decide|omega|(simp only [List.length_cons,List.length_nil];omega)) only [go_sem,↓aj hN,am hN,reduceIte,reduceCtorEq,Nat.reduceAdd,Nat.reduceLT,Nat.reduceLeDiff,Nat.reduceEqDiff,Nat.reduceSub])|(with_reducible refine And.intro (fun h=>?_) (fun h=>?_) <;> try (exfalso;omega))|(with_reducible refine aV aE hN ?_)|(with_reducible refine bi aE hN ?_)|(with_reducible refine And.intro ?_ ?_)|(refine ah ?_;omega)|(exact aU hN (by decide))))
   · have hnp : ¬ Pul g s k:=fun hp=>by
      have h' : gb (mks g.prio.length (Pul g s)) k = false:=by assumption
      rw [hgk,bg hp] at h';cases h'
     (refine ⟨(k + 1,L),⟨?_,?_⟩,bj hX hN [] ?_ ?_⟩;(try any_goals dsimp only);(repeat' (first|(with_reducible first|exact clZ|refine bm ?_ ?_|refine bn ?_ ?_|rfl|refine suZ ?_)|refine bo rfl ?_ ?_|exact aJ hN _ rfl rfl rfl|exact aK hN _ rfl rfl rfl|exact ap hN _ rfl rfl rfl (Or.inr rfl)|(refine aL hN _ rfl rfl (by first|exact Or.inr rfl|exact Or.inl rfl) ?_;first|exact aF _|exact aG _)|refine aq hN rfl ?_|refine au hN rfl rfl ?_|exact ao hN _ rfl rfl|exact aw hN rfl rfl rfl rfl|(with_reducible first|refine stZ ?_|refine aI ?_)));(try (any_goals (first|(with_reducible rfl)|(refine ah ?_;omega)))))
     exact ⟨by omega,ij ho fun j hE=>hnp hE.2.1⟩
   · (refine ⟨(k + 1,L),⟨?_,?_⟩,bj hX hN [] ?_ ?_⟩;(try any_goals dsimp only);(repeat' (first|(with_reducible first|exact clZ|refine bm ?_ ?_|refine bn ?_ ?_|rfl|refine suZ ?_)|refine bo rfl ?_ ?_|exact aJ hN _ rfl rfl rfl|exact aK hN _ rfl rfl rfl|exact ap hN _ rfl rfl rfl (Or.inr rfl)|(refine aL hN _ rfl rfl (by first|exact Or.inr rfl|exact Or.inl rfl) ?_;first|exact aF _|exact aG _)|refine aq hN rfl ?_|refine au hN rfl rfl ?_|exact ao hN _ rfl rfl|exact aw hN rfl rfl rfl rfl|(with_reducible first|refine stZ ?_|refine aI ?_)));(try (any_goals (first|(with_reducible rfl)|(refine ah ?_;omega)))))
     exact ⟨by omega,ij ho fun j hE=>hE.2.2.1 (by assumption)⟩
   have hpk : Pul g s k:=by
    have h' : gb (mks g.prio.length (Pul g s)) k = true:=by assumption
    rw [hgk] at h';exact fu.1 h'
   have hne : ¬ gi g.ar.own k = s.at_.tmod 2:=by simpa using (by assumption : (gi g.ar.own k == s.at_.tmod 2) = false)
   (refine bM (fun (z : Nat × Int)=>(tmL [(46,.c (.int .i64 z.1)),(45,.c (.int .i64 (gr g.ar.nxt k).length)),(44,.c (.I (gr g.ar.nxt k))),(6,.c (.int .i64 z.2)),(7,.c (.int .i64 k)),(20,.c (.int .i64 k)),(19,.c (.int .i64 g.prio.length)),(18,.sl (ν 3)),(5,.sl (ν 3)),(2,.ad (ν 0) 0),(3,.ad (ν 1) 0)],hpL hp0 ν [.box [.c (.I g.ar.own),.c (.R g.ar.nxt),.c (.I g.prio)],stE s,.dead,.arr 4 .yes (.B (mks g.prio.length (Pul g s)))])) (fun (z : Nat × Int)=>z.1 ≤ (gr g.ar.nxt k).length ∧ fq g s k z.1 z.2) (fun (z : Nat × Int)=>(gr g.ar.nxt k).length - z.1) ⟨(0,L),?_,bj hX hN [] ?_ ?_⟩ ?_;(repeat' (first|(with_reducible first|exact clZ|refine bm ?_ ?_|refine bn ?_ ?_|rfl|refine suZ ?_)|refine bo rfl ?_ ?_|exact aJ hN _ rfl rfl rfl|exact aK hN _ rfl rfl rfl|exact ap hN _ rfl rfl rfl (Or.inr rfl)|(refine aL hN _ rfl rfl (by first|exact Or.inr rfl|exact Or.inl rfl) ?_;first|exact aF _|exact aG _)|refine aq hN rfl ?_|refine au hN rfl rfl ?_|exact ao hN _ rfl rfl|exact aw hN rfl rfl rfl rfl|(with_reducible first|refine stZ ?_|refine aI ?_)));(try (any_goals (first|(with_reducible rfl)|(refine ah ?_;omega)))))
   · exact ⟨Nat.zero_le _,ho⟩
   rintro ⟨i,M⟩ ⟨hi,hoi⟩
   dsimp only at hi hoi ⊢
   have hn:=fun h=>pi hg.ar (v:=k) (i:=i) (by omega) h
   rcases Nat.lt_or_ge i (gr g.ar.nxt k).length with hil|hil
   · have hsu:=iL hg hkl hil
     have hgp:=eE (Pul g s) hsu
     (repeat' (first|(with_reducible first|(apply hK;clear hK K)|refine stZ ?_|refine aQ rfl ?_|((first|apply ae|apply af);clear ae X af Y))|(with_reducible refine aT ?_;first|refine aR rfl ?_|refine aS rfl ?_)|(with_reducible refine bh ?_;first|refine aM rfl rfl rfl rfl ?_|refine bf rfl rfl rfl ?_|refine bB rfl rfl rfl rfl ?_)|(with_reducible refine bE ?_;first|refine bC rfl rfl rfl rfl ?_|refine bG rfl rfl rfl ?_|refine bY rfl rfl rfl rfl ?_|refine bH hN ?_)|((first|(with_reducible first|((first|refine aW ?_|refine bI ?_|refine aX ?_|refine bJ ?_);intro K hK)|(refine aC ?_;intro X Y ae af)|refine aD ?_)|(with_reducible refine bh ?_;refine aN rfl rfl fun X Y ae af=>?_)|(with_reducible refine bE ?_;refine bD rfl rfl fun X Y ae af=>?_));simp (disch:=first|decide|omega|(simp only [List.length_cons,List.length_nil];omega)) only [go_sem,↓aj hN,am hN,reduceIte,reduceCtorEq,Nat.reduceAdd,Nat.reduceLT,Nat.reduceLeDiff,Nat.reduceEqDiff,Nat.reduceSub])|(with_reducible refine And.intro (fun h=>?_) (fun h=>?_) <;> try (exfalso;omega))|(with_reducible refine aV aE hN ?_)|(with_reducible refine bi aE hN ?_)|(with_reducible refine And.intro ?_ ?_)|(refine ah ?_;omega)|(exact aU hN (by decide))))
     all_goals have hP : Pul g s (df g k i) ↔ gb (mks g.prio.length (Pul g s)) (gi (gr g.ar.nxt k) i).toNat = true:=by rw [show gb (mks g.prio.length (Pul g s)) (gi (gr g.ar.nxt k) i).toNat = _ from hgp];exact fu.symm
     · have hnp : ¬ Pul g s (df g k i):=fun h=>absurd ((hP.1 h).symm.trans (by assumption : gb (mks g.prio.length (Pul g s)) (gi (gr g.ar.nxt k) i).toNat = false)) (by decide)
       (refine ⟨(i + 1,gi s.region (gi (gr g.ar.nxt k) i).toNat),⟨?_,?_⟩,bj hX hN [] ?_ ?_⟩;(try any_goals dsimp only);(repeat' (first|(with_reducible first|exact clZ|refine bm ?_ ?_|refine bn ?_ ?_|rfl|refine suZ ?_)|refine bo rfl ?_ ?_|exact aJ hN _ rfl rfl rfl|exact aK hN _ rfl rfl rfl|exact ap hN _ rfl rfl rfl (Or.inr rfl)|(refine aL hN _ rfl rfl (by first|exact Or.inr rfl|exact Or.inl rfl) ?_;first|exact aF _|exact aG _)|refine aq hN rfl ?_|refine au hN rfl rfl ?_|exact ao hN _ rfl rfl|exact aw hN rfl rfl rfl rfl|(with_reducible first|refine stZ ?_|refine aI ?_)));(try (any_goals (first|(with_reducible rfl)|(refine ah ?_;omega)))))
       exact ⟨by omega,il hoi ⟨hkl,hpk,hne,hil,by assumption,hnp⟩ (.inl (by assumption))⟩
     · have hnp : ¬ Pul g s (df g k i):=fun h=>absurd ((hP.1 h).symm.trans (by assumption : gb (mks g.prio.length (Pul g s)) (gi (gr g.ar.nxt k) i).toNat = false)) (by decide)
       (refine ⟨(i + 1,gi s.region (gi (gr g.ar.nxt k) i).toNat),⟨?_,?_⟩,bj hX hN [] ?_ ?_⟩;(try any_goals dsimp only);(repeat' (first|(with_reducible first|exact clZ|refine bm ?_ ?_|refine bn ?_ ?_|rfl|refine suZ ?_)|refine bo rfl ?_ ?_|exact aJ hN _ rfl rfl rfl|exact aK hN _ rfl rfl rfl|exact ap hN _ rfl rfl rfl (Or.inr rfl)|(refine aL hN _ rfl rfl (by first|exact Or.inr rfl|exact Or.inl rfl) ?_;first|exact aF _|exact aG _)|refine aq hN rfl ?_|refine au hN rfl rfl ?_|exact ao hN _ rfl rfl|exact aw hN rfl rfl rfl rfl|(with_reducible first|refine stZ ?_|refine aI ?_)));(try (any_goals (first|(with_reducible rfl)|(refine ah ?_;omega)))))
       exact ⟨by omega,il hoi ⟨hkl,hpk,hne,hil,by assumption,hnp⟩ (.inr (by assumption))⟩
     · (refine ⟨(i + 1,M),⟨?_,?_⟩,bj hX hN [] ?_ ?_⟩;(try any_goals dsimp only);(repeat' (first|(with_reducible first|exact clZ|refine bm ?_ ?_|refine bn ?_ ?_|rfl|refine suZ ?_)|refine bo rfl ?_ ?_|exact aJ hN _ rfl rfl rfl|exact aK hN _ rfl rfl rfl|exact ap hN _ rfl rfl rfl (Or.inr rfl)|(refine aL hN _ rfl rfl (by first|exact Or.inr rfl|exact Or.inl rfl) ?_;first|exact aF _|exact aG _)|refine aq hN rfl ?_|refine au hN rfl rfl ?_|exact ao hN _ rfl rfl|exact aw hN rfl rfl rfl rfl|(with_reducible first|refine stZ ?_|refine aI ?_)));(try (any_goals (first|(with_reducible rfl)|(refine ah ?_;omega)))))
       exact ⟨by omega,mw hoi (by omega) (by show M ≤ gi s.region (gi (gr g.ar.nxt k) i).toNat;omega)⟩
     · (refine ⟨(i + 1,M),⟨?_,?_⟩,bj hX hN [] ?_ ?_⟩;(try any_goals dsimp only);(repeat' (first|(with_reducible first|exact clZ|refine bm ?_ ?_|refine bn ?_ ?_|rfl|refine suZ ?_)|refine bo rfl ?_ ?_|exact aJ hN _ rfl rfl rfl|exact aK hN _ rfl rfl rfl|exact ap hN _ rfl rfl rfl (Or.inr rfl)|(refine aL hN _ rfl rfl (by first|exact Or.inr rfl|exact Or.inl rfl) ?_;first|exact aF _|exact aG _)|refine aq hN rfl ?_|refine au hN rfl rfl ?_|exact ao hN _ rfl rfl|exact aw hN rfl rfl rfl rfl|(with_reducible first|refine stZ ?_|refine aI ?_)));(try (any_goals (first|(with_reducible rfl)|(refine ah ?_;omega)))))
       exact ⟨by omega,ik hoi fun hE=>hE.2.2.2.2.2 (hP.2 (by assumption))⟩
     · (refine ⟨(i + 1,M),⟨?_,?_⟩,bj hX hN [] ?_ ?_⟩;(try any_goals dsimp only);(repeat' (first|(with_reducible first|exact clZ|refine bm ?_ ?_|refine bn ?_ ?_|rfl|refine suZ ?_)|refine bo rfl ?_ ?_|exact aJ hN _ rfl rfl rfl|exact aK hN _ rfl rfl rfl|exact ap hN _ rfl rfl rfl (Or.inr rfl)|(refine aL hN _ rfl rfl (by first|exact Or.inr rfl|exact Or.inl rfl) ?_;first|exact aF _|exact aG _)|refine aq hN rfl ?_|refine au hN rfl rfl ?_|exact ao hN _ rfl rfl|exact aw hN rfl rfl rfl rfl|(with_reducible first|refine stZ ?_|refine aI ?_)));(try (any_goals (first|(with_reducible rfl)|(refine ah ?_;omega)))))
       exact ⟨by omega,ik hoi fun hE=>absurd hE.2.2.2.2.1 (by assumption)⟩
   · (repeat' (first|(with_reducible first|(apply hK;clear hK K)|refine stZ ?_|refine aQ rfl ?_|((first|apply ae|apply af);clear ae X af Y))|(with_reducible refine aT ?_;first|refine aR rfl ?_|refine aS rfl ?_)|(with_reducible refine bh ?_;first|refine aM rfl rfl rfl rfl ?_|refine bf rfl rfl rfl ?_|refine bB rfl rfl rfl rfl ?_)|(with_reducible refine bE ?_;first|refine bC rfl rfl rfl rfl ?_|refine bG rfl rfl rfl ?_|refine bY rfl rfl rfl rfl ?_|refine bH hN ?_)|((first|(with_reducible first|((first|refine aW ?_|refine bI ?_|refine aX ?_|refine bJ ?_);intro K hK)|(refine aC ?_;intro X Y ae af)|refine aD ?_)|(with_reducible refine bh ?_;refine aN rfl rfl fun X Y ae af=>?_)|(with_reducible refine bE ?_;refine bD rfl rfl fun X Y ae af=>?_));simp (disch:=first|decide|omega|(simp only [List.length_cons,List.length_nil];omega)) only [go_sem,↓aj hN,am hN,reduceIte,reduceCtorEq,Nat.reduceAdd,Nat.reduceLT,Nat.reduceLeDiff,Nat.reduceEqDiff,Nat.reduceSub])|(with_reducible refine And.intro (fun h=>?_) (fun h=>?_) <;> try (exfalso;omega))|(with_reducible refine aV aE hN ?_)|(with_reducible refine bi aE hN ?_)|(with_reducible refine And.intro ?_ ?_)|(refine ah ?_;omega)|(exact aU hN (by decide))))
     (refine ⟨(k + 1,M),⟨?_,?_⟩,bj hX hN [] ?_ ?_⟩;(try any_goals dsimp only);(repeat' (first|(with_reducible first|exact clZ|refine bm ?_ ?_|refine bn ?_ ?_|rfl|refine suZ ?_)|refine bo rfl ?_ ?_|exact aJ hN _ rfl rfl rfl|exact aK hN _ rfl rfl rfl|exact ap hN _ rfl rfl rfl (Or.inr rfl)|(refine aL hN _ rfl rfl (by first|exact Or.inr rfl|exact Or.inl rfl) ?_;first|exact aF _|exact aG _)|refine aq hN rfl ?_|refine au hN rfl rfl ?_|exact ao hN _ rfl rfl|exact aw hN rfl rfl rfl rfl|(with_reducible first|refine stZ ?_|refine aI ?_)));(try (any_goals (first|(with_reducible rfl)|(refine ah ?_;omega)))))
     exact ⟨by omega,mv hoi (by omega)⟩
 · (repeat' (first|(with_reducible first|(apply hK;clear hK K)|refine stZ ?_|refine aQ rfl ?_|((first|apply ae|apply af);clear ae X af Y))|(with_reducible refine aT ?_;first|refine aR rfl ?_|refine aS rfl ?_)|(with_reducible refine bh ?_;first|refine aM rfl rfl rfl rfl ?_|refine bf rfl rfl rfl ?_|refine bB rfl rfl rfl rfl ?_)|(with_reducible refine bE ?_;first|refine bC rfl rfl rfl rfl ?_|refine bG rfl rfl rfl ?_|refine bY rfl rfl rfl rfl ?_|refine bH hN ?_)|((first|(with_reducible first|((first|refine aW ?_|refine bI ?_|refine aX ?_|refine bJ ?_);intro K hK)|(refine aC ?_;intro X Y ae af)|refine aD ?_)|(with_reducible refine bh ?_;refine aN rfl rfl fun X Y ae af=>?_)|(with_reducible refine bE ?_;refine bD rfl rfl fun X Y ae af=>?_));simp (disch:=first|decide|omega|(simp only [List.length_cons,List.length_nil];omega)) only [go_sem,↓aj hN,am hN,reduceIte,reduceCtorEq,Nat.reduceAdd,Nat.reduceLT,Nat.reduceLeDiff,Nat.reduceEqDiff,Nat.reduceSub])|(with_reducible refine And.intro (fun h=>?_) (fun h=>?_) <;> try (exfalso;omega))|(with_reducible refine aV aE hN ?_)|(with_reducible refine bi aE hN ?_)|(with_reducible refine And.intro ?_ ?_)|(refine ah ?_;omega)|(exact aU hN (by decide))))
   (refine cU (.inr rfl) (by first|rfl|(simp (disch:=first|decide|omega|(simp only [List.length_cons,List.length_nil];omega)) only [bS,bV,bW,b7,go_sem,beq_self_eq_true,↓az,↓aj hN,am hN,reduceIte,reduceCtorEq,Nat.reduceAdd,Nat.reduceLT,Nat.reduceLeDiff,Nat.reduceEqDiff,Nat.reduceSub];rfl)) ?_)
   obtain rfl : k = g.prio.length:=by omega
   exact congrArg (C.int _) (oG hg hO ho)
end Go.Proofs.Ytdkkhhfhdijfmaa
