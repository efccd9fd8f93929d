/-
  The program's attraction.
-/
import Derived.Test.YtiadchinhofieaaZcE8
namespace Go.Proofs.Ytiadchinhofieaa
set_option linter.unusedVariables false
set_option linter.unusedSimpArgs false
open Go.RowKit
attribute [local irreducible] aq ci Aw Le
abbrev soA (g : Gm) : AV:=elA [.I g.own,.R g.nxt,.I g.prio,.R g.prev]
def ge (g : Gm) (inn : List Bool) (v : Int) : Nat → Nat
 | 0 => 0
 | k + 1 => ge g inn v k + if gb inn (gi (gr g.nxt v.toNat) k).toNat then 1 else 0
theorem qZ (g : Gm) (inn : List Bool) (v : Int) (k : Nat) : ge g inn v k ≤ k:=by
 induction k with
 | zero => exact Nat.le_refl _
 | succ k ih => simp only [ge]; split <;> omega
theorem pj {g : Gm} {inn : List Bool} {v : Int} (h : gi g.pick v.toNat < 0) : ∀ k,ge g inn v k = fc g inn v k:=by
 intro k
 induction k with
 | zero => rfl
 | succ k ih => rw [ge, fc, ih]; simp [edg, h]
theorem uA {xs : List Int} {w : Nat} {x : Int} (h : gi xs w = x) : xs.set w x = xs:=by
 apply List.ext_getElem?
 intro j
 rw [List.getElem?_set]
 by_cases e : w = j
 · subst e
   by_cases hl : w < xs.length
   · rw [if_pos rfl,if_pos hl,← h,gi,List.getD_eq_getElem?_getD,List.getElem?_eq_getElem hl];rfl
   · rw [if_pos rfl,if_neg hl,List.getElem?_eq_none (by omega)]
 · rw [if_neg e]
theorem AInv.count {G : PG.Gm} {n : Nat} {row prv : Nat → List Int} {ok : Nat → Nat → Prop} {who : Int} {S T : Nat → Prop} {q : List Int} {i k w : Nat} {out : List Bool} {left : List Int} (h : AInv G n row prv ok who S T true q i k out left) (hw : w < n) (hS : S w) (ho : gb out w = false) (how : G.own w ≠ who) (h0 : gi left w = 0) {c : Int} (hc : c = rem row ok S (fun _ _=>False) w) :
  AInv G n row prv ok who S T true q i k out (left.set w c):=by
 have hlt : w < left.length:=by rw [h.ll];exact hw
 obtain ⟨r1,r2⟩:=h.yo w hS ho how
 have hno : ∀ u,¬ Dn G prv q i k w u:=by
  rcases r2 with r2|⟨_,_,r2⟩
  · omega
  · exact r2
 have e : rem row ok S (Dn G prv q i k) w = rem row ok S (fun _ _=>False) w:=dR fun u=>⟨fun x=>hno u x,fun x=>x.elim⟩
 refine ⟨h.ol,by rw [List.length_set];exact h.ll,h.qn,h.qr,h.qu,h.qo,h.ga,h.go,h.mi,fun v a b d=>?_⟩
 by_cases ev : v = w
 · subst ev
   exact ⟨r1,.inl (by rw [cB hlt,if_pos rfl,hc,e])⟩
 · obtain ⟨s1,s2⟩:=h.yo v a b d
   refine ⟨s1,?_⟩
   rw [cB hlt,if_neg ev];exact s2
theorem kC {G : PG.Gm} {n : Nat} {row prv : Nat → List Int} {ok : Nat → Nat → Prop} {who : Int} {S T : Nat → Prop} {q : List Int} {i k u w : Nat} {out : List Bool} {left : List Int} (hG : Gr G n row prv ok) (hi : i < q.length) (hu : gi q i = (u : Int)) (hk : k < (prv u).length) (hw : gi (prv u) k = (w : Int)) (hwn : w < n) (hS : S w) (ho : gb out w = false) (how : G.own w ≠ who) (hE : G.E w u) (h : AInv G n row prv ok who S T true q i k out left) (h0 : gi left w ≠ 0) (h1 : 0 < gi left w - 1) :
  AInv G n row prv ok who S T true q i (k + 1) out (left.set w (gi left w - 1)):=by
 obtain ⟨r1,r2⟩:=h.yo w hS ho how
 have r3 : gi left w = rem row ok S (Dn G prv q i k) w:=r2.elim id fun x=>absurd x.2.1 h0
 have r4:=iu hG hi hu hk hw h hE
 have e : gi left w - 1 = (rem row ok S (Dn G prv q i (k + 1)) w : Nat):=by omega
 rw [e]
 exact h.keep hG hi hu hk hw hwn how (by omega)
theorem kD {G : PG.Gm} {n : Nat} {row prv : Nat → List Int} {ok : Nat → Nat → Prop} {who : Int} {S T : Nat → Prop} {q : List Int} {i k u w : Nat} {out : List Bool} {left : List Int} (hG : Gr G n row prv ok) (hi : i < q.length) (hu : gi q i = (u : Int)) (hk : k < (prv u).length) (hw : gi (prv u) k = (w : Int)) (hwn : w < n) (hS : S w) (ho : gb out w = false) (how : G.own w ≠ who) (hE : G.E w u) (h : AInv G n row prv ok who S T true q i k out left) (h0 : gi left w ≠ 0) (h1 : ¬ 0 < gi left w - 1) :
  AInv G n row prv ok who S T true (q ++ [(w : Int)]) i (k + 1) (out.set w true) (left.set w (gi left w - 1)):=by
 have hlt : w < left.length:=by rw [h.ll];exact hwn
 obtain ⟨r1,r2⟩:=h.yo w hS ho how
 have r3 : gi left w = rem row ok S (Dn G prv q i k) w:=r2.elim id fun x=>absurd x.2.1 h0
 have r4:=iu hG hi hu hk hw h hE
 have ha:=h.shut hG hi hu hk hw hS how hE (by omega)
 exact h.mark hi hu hk hw hwn ho ha (by rw [List.length_set];exact h.ll) fun v hv=>by rw [cB hlt,if_neg hv]
theorem sN (q : List Int) (i j : Nat) : gi (q.drop i) j = gi q (i + j):=by simp [gi,List.getD_eq_getElem?_getD]
theorem nH {g : Gm} {n : Nat} (hg : GmOk g n) {inn goal : List Bool} (hi : inn.length = n) (hgl : goal.length = n) (hsub : ∀ v,gb goal v = true → gb inn v = true) (who : Int) (ht : PG.Total (bH g n) fun v=>gb inn v = true) :
  AInv (bH g n) n (gr g.nxt) (gr g.prev) (fun v u=>edg g v u = true) who (fun v=>gb inn v = true) (fun v=>gb goal v = true) true (cO goal n) 0 0 goal (List.replicate n 0):=by
 have hS : ∀ v,gb inn v = true → v < n:=fun v h=>by
  rcases Nat.lt_or_ge v n with h'|h'
  · exact h'
  · rw [gb,List.getD_eq_getElem?_getD,List.getElem?_eq_none (by omega)] at h;cases h
 have hm : ∀ j,j < (cO goal n).length → ∃ v,v < n ∧ gi (cO goal n) j = (v : Int) ∧ gb goal v = true:=fun j hj=>dl.1 (cE hj)
 refine AInv.start (oi hg) hS ht hgl List.length_replicate (gd _ _) (fun j hj=>?_) (fun a b ha hb e=>g6 (jM _ _) ha hb e) (fun v hv hb=>da (dl.2 ⟨v,hv,rfl,hb⟩)) (fun v hv=>⟨fun h=>⟨hsub v h,h⟩,fun h=>h.2⟩) (fun v hv _=>.inr ⟨rfl,?_⟩)
 · obtain ⟨v,h1,h2,h3⟩:=hm j hj
   rw [h2,Int.toNat_natCast]
   exact ⟨by omega,by omega,h3⟩
 · simp [gi,List.getD_eq_getElem?_getD,List.getElem?_replicate];split <;> rfl
set_option maxHeartbeats 4000000 in
theorem q6 (g : Gm) (n : Nat) (hg : GmOk g n) (hpk : ∀ v,v < n → gi g.pick v < 0) (inn goal : List Bool) (hi : inn.length = n) (hgl : goal.length = n) (hsub : ∀ v,gb goal v = true → gb inn v = true) (who : Int) (ht : PG.Total (bH g n) fun v=>gb inn v = true) :
  aq Try.prog 169 [soA g,.c (.int .i64 who),.c (.B inn),.c (.B goal)] [.arr 4 .yes (.B (mks n (PG.Attr (bH g n) who (fun v=>gb inn v = true) (fun v=>gb goal v = true))))] (fun ns=>.sl (ns.getD 0 0)):=by
 have hle:=hg.le
 have hgo:=hg.own
 have hgp:=hg.prev
 have hgx:=hg.nxt
 (refine bh aG Try.func169 rfl rfl (by kernel_rfl) fun hp0 ν hX hN=>?_;simp only [cx,Nat.reduceAdd])
 (repeat' (first|(with_reducible first|(apply hK;clear hK K)|refine stZ ?_|refine aM rfl ?_|((first|apply ae|apply af);clear ae X af Y))|(with_reducible refine aP ?_;first|refine aN rfl ?_|refine aO rfl ?_)|(with_reducible refine be ?_;first|refine aK rfl rfl rfl rfl ?_|refine bc rfl rfl rfl ?_|refine bp rfl rfl rfl rfl ?_)|((first|(with_reducible first|((first|refine aS ?_|refine aT ?_);intro K hK)|(refine az ?_;intro X Y ae af)|refine aA ?_)|(with_reducible refine be ?_;refine aL rfl rfl fun X Y ae af=>?_));simp (disch:=first|decide|omega|(simp only [List.length_cons,List.length_nil];omega)) only [go_sem,↓am hN,ao hN,reduceIte,reduceCtorEq,Nat.reduceAdd,Nat.reduceLT,Nat.reduceLeDiff,Nat.reduceEqDiff,Nat.reduceSub])|(with_reducible refine And.intro (fun h=>?_) (fun h=>?_) <;> try (exfalso;omega))|(with_reducible refine aR aG hN ?_)|(refine bE (ir goal (by omega)) ?_ rfl (fun _=>rfl) ?_)|(with_reducible first|exact aV|refine aJ ?_ ?_|exact cF _|refine bv ?_|exact bz _|exact bR _ _|refine bQ ?_|exact bt _)|exact bw hN rfl rfl|(refine bP hN rfl ?_;first|exact aZ _|exact a8 _)|exact bu rfl rfl rfl|(simp only [ba,List.map_nil])|(with_reducible refine bo ?_)|(with_reducible refine And.intro ?_ ?_)|(refine ak ?_;omega)|(exact aQ hN (by decide))))
 have hA0:=nH (goal:=goal) hg hi hgl hsub who ht
 rw [← hgl] at hA0
 have hG:=oi hg
 have hS : ∀ v,gb inn v = true → v < n:=fun v h=>by
  rcases Nat.lt_or_ge v n with h'|h'
  · exact h'
  · rw [gb,List.getD_eq_getElem?_getD,List.getElem?_eq_none (by omega)] at h;cases h
 rw [hgl] at hA0
 (refine cj (fun (x : Nat × List Int × List Bool × List Int)=>(tmL [(11,.sl (ν 3)),(10,.sl (ν 2)),(9,.sl (ν 1)),(0,soA g),(1,.c (.int .i64 who)),(2,.c (.B inn))],hpL hp0 ν [.dead,.arr 4 .yes (.B x.2.2.1),.arr 3 .yes (.I x.2.2.2),.arr 2 ⟨true,false⟩ (.I (x.2.1.drop x.1))])) (fun (x : Nat × List Int × List Bool × List Int)=>(x.1 ≤ x.2.1.length ∧ ∀ j,-(65536 * x.1 : Int) ≤ gi x.2.2.2 j ∧ gi x.2.2.2 j ≤ 65536) ∧ AInv (bH g n) n (gr g.nxt) (gr g.prev) (fun v u=>edg g v u = true) who (fun v=>gb inn v = true) (fun v=>gb goal v = true) true x.2.1 x.1 0 x.2.2.1 x.2.2.2) (fun (x : Nat × List Int × List Bool × List Int)=>n - x.1) ⟨(0,cO goal n,goal,List.replicate n 0),?_,bA hX hN [] ?_ ?_⟩ ?_;(repeat' (first|(with_reducible first|exact clZ|refine bB ?_ ?_|refine bC ?_ ?_|rfl|refine suZ ?_)|refine bD rfl ?_ ?_|exact aX hN _ rfl rfl rfl|exact aY hN _ rfl rfl rfl|exact aC hN _ rfl rfl rfl (Or.inr rfl)|(refine aU hN _ rfl rfl (by first|exact Or.inr rfl|exact Or.inl rfl) ?_;first|exact aZ _|exact a8 _)|refine aD hN rfl ?_|refine aE hN rfl rfl ?_|exact aB hN _ rfl rfl|exact aF hN rfl rfl rfl rfl|(with_reducible first|refine stZ ?_|refine aW ?_)));(try (any_goals (first|(with_reducible rfl)|(refine ak ?_;omega)))))
 · refine ⟨⟨Nat.zero_le _,fun j=>?_⟩,hA0⟩
   have : gi (List.replicate n 0) j = 0:=by simp [gi,List.getD_eq_getElem?_getD,List.getElem?_replicate];split <;> rfl
   rw [this];omega
 · rw [hi]
 · rw [hgl];rfl
 clear hA0
 rintro ⟨i,q,out,left⟩ ⟨⟨hiq,hlb⟩,hA⟩
 simp only at hiq hA hlb
 dsimp only
 have hqn:=hA.qle
 have hqr:=hA.qr i
 have hpv:=fun h=>hg.pv (gi q i).toNat h
 have hol:=hA.ol
 have e0 : gi (q.drop i) (Int.toNat 0) = gi q i:=by rw [sN];rfl
 have e1 : (q.drop i).length = q.length - i:=by simp
 have e2 : List.drop (Int.toNat 1) (List.take (q.drop i).length (q.drop i)) = q.drop (i + 1):=by rw [List.take_length,List.drop_drop];rfl
 (repeat' (first|(with_reducible first|(apply hK;clear hK K)|refine stZ ?_|refine aM rfl ?_|((first|apply ae|apply af);clear ae X af Y))|(with_reducible refine aP ?_;first|refine aN rfl ?_|refine aO rfl ?_)|(with_reducible refine be ?_;first|refine aK rfl rfl rfl rfl ?_|refine bc rfl rfl rfl ?_|refine bp rfl rfl rfl rfl ?_)|((first|(with_reducible first|((first|refine aS ?_|refine aT ?_);intro K hK)|(refine az ?_;intro X Y ae af)|refine aA ?_)|(with_reducible refine be ?_;refine aL rfl rfl fun X Y ae af=>?_));simp (disch:=first|decide|omega|(simp only [List.length_cons,List.length_nil];omega)) only [go_sem,↓am hN,ao hN,reduceIte,reduceCtorEq,Nat.reduceAdd,Nat.reduceLT,Nat.reduceLeDiff,Nat.reduceEqDiff,Nat.reduceSub])|(with_reducible refine And.intro (fun h=>?_) (fun h=>?_) <;> try (exfalso;omega))|(with_reducible refine aR aG hN ?_)|(with_reducible refine And.intro ?_ ?_)|(refine ak ?_;omega)|(exact aQ hN (by decide))))
 · simp only [e0,e2]
   have hiq' : i < q.length:=by omega
   have h3:=hqr hiq'
   have hu0 : gi q i = ((gi q i).toNat : Int):=(Int.toNat_of_nonneg h3.1).symm
   have hpl:=(hpv (by omega)).1
   have hun : (gi q i).toNat < n:=by omega
   (refine cj (fun (y : Nat × List Int × List Bool × List Int)=>(tmL [(41,.c (.int .i64 y.1)),(40,.c (.int .i64 (gr g.prev (gi q i).toNat).length)),(39,.c (.I (gr g.prev (gi q i).toNat))),(11,.sl (ν 4)),(10,.sl (ν 2)),(9,.sl (ν 1)),(0,soA g),(1,.c (.int .i64 who)),(2,.c (.B inn))],hpL hp0 ν [.dead,.arr 4 .yes (.B y.2.2.1),.arr 3 .yes (.I y.2.2.2),.dead,.arr 2 ⟨true,false⟩ (.I (y.2.1.drop (i + 1)))])) (fun (y : Nat × List Int × List Bool × List Int)=>(y.1 ≤ (gr g.prev (gi q i).toNat).length ∧ i < y.2.1.length ∧ gi y.2.1 i = gi q i ∧ ∀ j,-(65536 * i + y.1 : Int) ≤ gi y.2.2.2 j ∧ gi y.2.2.2 j ≤ 65536) ∧ AInv (bH g n) n (gr g.nxt) (gr g.prev) (fun v u=>edg g v u = true) who (fun v=>gb inn v = true) (fun v=>gb goal v = true) true y.2.1 i y.1 y.2.2.1 y.2.2.2) (fun (y : Nat × List Int × List Bool × List Int)=>(gr g.prev (gi q i).toNat).length - y.1) ⟨(0,q,out,left),?_,bA hX hN [] ?_ ?_⟩ ?_;(repeat' (first|(with_reducible first|exact clZ|refine bB ?_ ?_|refine bC ?_ ?_|rfl|refine suZ ?_)|refine bD rfl ?_ ?_|exact aX hN _ rfl rfl rfl|exact aY hN _ rfl rfl rfl|exact aC hN _ rfl rfl rfl (Or.inr rfl)|(refine aU hN _ rfl rfl (by first|exact Or.inr rfl|exact Or.inl rfl) ?_;first|exact aZ _|exact a8 _)|refine aD hN rfl ?_|refine aE hN rfl rfl ?_|exact aB hN _ rfl rfl|exact aF hN rfl rfl rfl rfl|(with_reducible first|refine stZ ?_|refine aW ?_)));(try (any_goals (first|(with_reducible rfl)|(refine ak ?_;omega)))))
   · exact ⟨⟨Nat.zero_le _,hiq',rfl,fun j=>by have:=hlb j;dsimp only;omega⟩,hA⟩
   have hwb:=(hpv hun).2
   clear hA hlb hqr hpv hol hiq e0 e1 e2
   rintro ⟨m,q',out',left'⟩ ⟨⟨hm,hiq2,hqe,hlb⟩,hB⟩
   simp only at hm hiq2 hqe hB hlb
   dsimp only
   have hol':=hB.ol
   have hll':=hB.ll
   have hqn':=hB.qle
   have hw:=hwb m
   have hlw:=hlb (gi (gr g.prev (gi q i).toNat) m).toNat
   have hqu:=hqe.trans hu0
   have hw0 : m < (gr g.prev (gi q i).toNat).length → gi (gr g.prev (gi q i).toNat) m = ((gi (gr g.prev (gi q i).toNat) m).toNat : Int):=fun h=>(Int.toNat_of_nonneg (hw h).1).symm
   have hown : m < (gr g.prev (gi q i).toNat).length → (bH g n).own (gi (gr g.prev (gi q i).toNat) m).toNat = gi g.own (gi (gr g.prev (gi q i).toNat) m).toNat:=fun h=>nG hg (by have:=hw h;omega)
   have hE : m < (gr g.prev (gi q i).toNat).length → ((bH g n).E (gi (gr g.prev (gi q i).toNat) m).toNat (gi q i).toNat):=fun h=>by
    have h5:=hw h
    have h6:=(hG.pv _ (gi (gr g.prev (gi q i).toNat) m).toNat hun).1 ⟨m,h,hw0 h⟩
    rw [hG.edge]
    exact ⟨by omega,hun,by have:=hpk (gi (gr g.prev (gi q i).toNat) m).toNat (by omega);unfold edg;rw [Int.toNat_natCast];simp [this],h6.2⟩
   have e3 : (q'.drop (i + 1)).length = q'.length - (i + 1):=by simp
   have hds : ∀ x : Int,List.drop (i + 1) (q' ++ [x]) = List.drop (i + 1) q' ++ [x]:=fun x=>List.drop_append_of_le_length (by omega)
   (repeat' (first|(with_reducible first|(apply hK;clear hK K)|refine stZ ?_|refine aM rfl ?_|((first|apply ae|apply af);clear ae X af Y))|(with_reducible refine aP ?_;first|refine aN rfl ?_|refine aO rfl ?_)|(with_reducible refine be ?_;first|refine aK rfl rfl rfl rfl ?_|refine bc rfl rfl rfl ?_|refine bp rfl rfl rfl rfl ?_)|((first|(with_reducible first|((first|refine aS ?_|refine aT ?_);intro K hK)|(refine az ?_;intro X Y ae af)|refine aA ?_)|(with_reducible refine be ?_;refine aL rfl rfl fun X Y ae af=>?_));simp (disch:=first|decide|omega|(simp only [List.length_cons,List.length_nil];omega)) only [go_sem,↓am hN,ao hN,reduceIte,reduceCtorEq,Nat.reduceAdd,Nat.reduceLT,Nat.reduceLeDiff,Nat.reduceEqDiff,Nat.reduceSub])|(with_reducible refine And.intro (fun h=>?_) (fun h=>?_) <;> try (exfalso;omega))|(with_reducible refine aR aG hN ?_)|(with_reducible refine And.intro ?_ ?_)|(refine ak ?_;omega)|(exact aQ hN (by decide))))
   · have hm' : m < (gr g.prev (gi q i).toNat).length:=by omega
     (refine ⟨(m + 1,q',out',left'),⟨?_,?_⟩,bA hX hN [] ?_ ?_⟩;(try any_goals dsimp only);(repeat' (first|(with_reducible first|exact clZ|refine bB ?_ ?_|refine bC ?_ ?_|rfl|refine suZ ?_)|refine bD rfl ?_ ?_|exact aX hN _ rfl rfl rfl|exact aY hN _ rfl rfl rfl|exact aC hN _ rfl rfl rfl (Or.inr rfl)|(refine aU hN _ rfl rfl (by first|exact Or.inr rfl|exact Or.inl rfl) ?_;first|exact aZ _|exact a8 _)|refine aD hN rfl ?_|refine aE hN rfl rfl ?_|exact aB hN _ rfl rfl|exact aF hN rfl rfl rfl rfl|(with_reducible first|refine stZ ?_|refine aW ?_)));(try (any_goals (first|(with_reducible rfl)|(refine ak ?_;omega)))))
     exact ⟨⟨by omega,hiq2,hqe,fun j=>by have:=hlb j;omega⟩,hB.skip hiq2 hqu hm' (hw0 hm') (.inr (.inl (by assumption)))⟩
   · have hm' : m < (gr g.prev (gi q i).toNat).length:=by omega
     (refine ⟨(m + 1,q',out',left'),⟨?_,?_⟩,bA hX hN [] ?_ ?_⟩;(try any_goals dsimp only);(repeat' (first|(with_reducible first|exact clZ|refine bB ?_ ?_|refine bC ?_ ?_|rfl|refine suZ ?_)|refine bD rfl ?_ ?_|exact aX hN _ rfl rfl rfl|exact aY hN _ rfl rfl rfl|exact aC hN _ rfl rfl rfl (Or.inr rfl)|(refine aU hN _ rfl rfl (by first|exact Or.inr rfl|exact Or.inl rfl) ?_;first|exact aZ _|exact a8 _)|refine aD hN rfl ?_|refine aE hN rfl rfl ?_|exact aB hN _ rfl rfl|exact aF hN rfl rfl rfl rfl|(with_reducible first|refine stZ ?_|refine aW ?_)));(try (any_goals (first|(with_reducible rfl)|(refine ak ?_;omega)))))
     exact ⟨⟨by omega,hiq2,hqe,fun j=>by have:=hlb j;omega⟩,hB.skip hiq2 hqu hm' (hw0 hm') (.inl (mv (by assumption)))⟩
   · have hm' : m < (gr g.prev (gi q i).toNat).length:=by omega
     obtain ⟨hw1,hw2⟩:=hw hm'
     have hwn : (gi (gr g.prev (gi q i).toNat) m).toNat < n:=by omega
     have ho : gb out' (gi (gr g.prev (gi q i).toNat) m).toNat = false:=by assumption
     have hSw : gb inn (gi (gr g.prev (gi q i).toNat) m).toNat = true:=by assumption
     have hno : (bH g n).own (gi (gr g.prev (gi q i).toNat) m).toNat ≠ who:=by rw [hown hm'];assumption
     have hz : gi left' (gi (gr g.prev (gi q i).toNat) m).toNat = 0:=by assumption
     have hnl:=hg.nx (gi (gr g.prev (gi q i).toNat) m).toNat hwn
     have hnl1:=hnl.1
     (refine cj (fun (t : Nat)=>(tmL [(82,.c (.int .i64 t)),(81,.c (.int .i64 (gr g.nxt (gi (gr g.prev (gi q i).toNat) m).toNat).length)),(80,.c (.I (gr g.nxt (gi (gr g.prev (gi q i).toNat) m).toNat))),(14,.c (.int .i64 (gi (gr g.prev (gi q i).toNat) m))),(41,.c (.int .i64 m)),(40,.c (.int .i64 (gr g.prev (gi q i).toNat).length)),(39,.c (.I (gr g.prev (gi q i).toNat))),(11,.sl (ν 4)),(10,.sl (ν 2)),(9,.sl (ν 1)),(0,soA g),(1,.c (.int .i64 who)),(2,.c (.B inn))],hpL hp0 ν [.dead,.arr 4 .yes (.B out'),.arr 3 .yes (.I (left'.set (gi (gr g.prev (gi q i).toNat) m).toNat (ge g inn (gi (gr g.prev (gi q i).toNat) m) t))),.dead,.arr 2 ⟨true,false⟩ (.I (q'.drop (i + 1)))])) (fun (t : Nat)=>t ≤ (gr g.nxt (gi (gr g.prev (gi q i).toNat) m).toNat).length) (fun (t : Nat)=>(gr g.nxt (gi (gr g.prev (gi q i).toNat) m).toNat).length - t) ⟨0,?_,bA hX hN [] ?_ ?_⟩ ?_;(repeat' (first|(with_reducible first|exact clZ|refine bB ?_ ?_|refine bC ?_ ?_|rfl|refine suZ ?_)|refine bD rfl ?_ ?_|exact aX hN _ rfl rfl rfl|exact aY hN _ rfl rfl rfl|exact aC hN _ rfl rfl rfl (Or.inr rfl)|(refine aU hN _ rfl rfl (by first|exact Or.inr rfl|exact Or.inl rfl) ?_;first|exact aZ _|exact a8 _)|refine aD hN rfl ?_|refine aE hN rfl rfl ?_|exact aB hN _ rfl rfl|exact aF hN rfl rfl rfl rfl|(with_reducible first|refine stZ ?_|refine aW ?_)));(try (any_goals (first|(with_reducible rfl)|(refine ak ?_;omega)))))
     · show left'.set _ ((0 : Nat) : Int) = left'
       exact uA hz
     intro t ht'
     have hnx:=hnl.2 t
     have hct:=qZ g inn (gi (gr g.prev (gi q i).toNat) m) t
     have hwl : (gi (gr g.prev (gi q i).toNat) m).toNat < left'.length:=by omega
     obtain ⟨L2,hL2⟩ : ∃ L2,L2 = left'.set (gi (gr g.prev (gi q i).toNat) m).toNat (ge g inn (gi (gr g.prev (gi q i).toNat) m) t):=⟨_,rfl⟩
     have hLl : L2.length = n:=by rw [hL2,List.length_set];exact hll'
     have hLg : gi L2 (gi (gr g.prev (gi q i).toNat) m).toNat = ge g inn (gi (gr g.prev (gi q i).toNat) m) t:=by rw [hL2,cB hwl,if_pos rfl]
     rw [← hL2]
     have hcn : t = (gr g.nxt (gi (gr g.prev (gi q i).toNat) m).toNat).length → (ge g inn (gi (gr g.prev (gi q i).toNat) m) t : Int) = rem (gr g.nxt) (fun v u=>edg g v u = true) (fun v=>gb inn v = true) (fun _ _=>False) (gi (gr g.prev (gi q i).toNat) m).toNat:=fun e=>by
      rw [← om hg inn hwn,pj (hpk _ hwn),e]
      unfold deg
      rw [← hw0 hm']
     have hpos : t = (gr g.nxt (gi (gr g.prev (gi q i).toNat) m).toNat).length → AInv (bH g n) n (gr g.nxt) (gr g.prev) (fun v u=>edg g v u = true) who (fun v=>gb inn v = true) (fun v=>gb goal v = true) true q' i m out' L2 ∧ gi L2 (gi (gr g.prev (gi q i).toNat) m).toNat ≠ 0:=fun e=>by
      refine ⟨by rw [hL2];exact hB.count hwn hSw ho hno hz (hcn e),?_⟩
      have h1:=(hB.yo _ hSw ho hno)
      have h2 : ∀ u,¬ Dn (bH g n) (gr g.prev) q' i m (gi (gr g.prev (gi q i).toNat) m).toNat u:=by
       rcases h1.2 with h2|⟨_,_,h2⟩
       · omega
       · exact h2
      have h3 : rem (gr g.nxt) (fun v u=>edg g v u = true) (fun v=>gb inn v = true) (Dn (bH g n) (gr g.prev) q' i m) (gi (gr g.prev (gi q i).toNat) m).toNat = rem (gr g.nxt) (fun v u=>edg g v u = true) (fun v=>gb inn v = true) (fun _ _=>False) (gi (gr g.prev (gi q i).toNat) m).toNat:=dR fun u=>⟨fun x=>h2 u x,fun x=>x.elim⟩
      have h4:=hcn e
      omega
     have hlb' : ∀ j,-(65536 * i + m : Int) ≤ gi L2 j ∧ gi L2 j ≤ 65536:=fun j=>by
      have:=hlb j
      rw [hL2,cB hwl]
      split <;> omega
     have hLw : (gi (gr g.prev (gi q i).toNat) m).toNat < L2.length:=by omega
     (repeat' (first|(with_reducible first|(apply hK;clear hK K)|refine stZ ?_|refine aM rfl ?_|((first|apply ae|apply af);clear ae X af Y))|(with_reducible refine aP ?_;first|refine aN rfl ?_|refine aO rfl ?_)|(with_reducible refine be ?_;first|refine aK rfl rfl rfl rfl ?_|refine bc rfl rfl rfl ?_|refine bp rfl rfl rfl rfl ?_)|((first|(with_reducible first|((first|refine aS ?_|refine aT ?_);intro K hK)|(refine az ?_;intro X Y ae af)|refine aA ?_)|(with_reducible refine be ?_;refine aL rfl rfl fun X Y ae af=>?_));simp (disch:=first|decide|omega|(simp only [List.length_cons,List.length_nil];omega)) only [go_sem,↓am hN,ao hN,reduceIte,reduceCtorEq,Nat.reduceAdd,Nat.reduceLT,Nat.reduceLeDiff,Nat.reduceEqDiff,Nat.reduceSub])|(with_reducible refine And.intro (fun h=>?_) (fun h=>?_) <;> try (exfalso;omega))|(with_reducible refine aR aG hN ?_)|(with_reducible refine And.intro ?_ ?_)|(refine ak ?_;omega)|(exact aQ hN (by decide))))
     · have hin : gb inn (gi (gr g.nxt (gi (gr g.prev (gi q i).toNat) m).toNat) t).toNat = true:=by assumption
       (refine ⟨t + 1,⟨?_,?_⟩,bA hX hN [] ?_ ?_⟩;(try any_goals dsimp only);(repeat' (first|(with_reducible first|exact clZ|refine bB ?_ ?_|refine bC ?_ ?_|rfl|refine suZ ?_)|refine bD rfl ?_ ?_|exact aX hN _ rfl rfl rfl|exact aY hN _ rfl rfl rfl|exact aC hN _ rfl rfl rfl (Or.inr rfl)|(refine aU hN _ rfl rfl (by first|exact Or.inr rfl|exact Or.inl rfl) ?_;first|exact aZ _|exact a8 _)|refine aD hN rfl ?_|refine aE hN rfl rfl ?_|exact aB hN _ rfl rfl|exact aF hN rfl rfl rfl rfl|(with_reducible first|refine stZ ?_|refine aW ?_)));(try (any_goals (first|(with_reducible rfl)|(refine ak ?_;omega)))))
       rw [hL2,List.set_set,ge,if_pos hin,cB hwl,if_pos rfl];rfl
     · have hin : gb inn (gi (gr g.nxt (gi (gr g.prev (gi q i).toNat) m).toNat) t).toNat = false:=by assumption
       (refine ⟨t + 1,⟨?_,?_⟩,bA hX hN [] ?_ ?_⟩;(try any_goals dsimp only);(repeat' (first|(with_reducible first|exact clZ|refine bB ?_ ?_|refine bC ?_ ?_|rfl|refine suZ ?_)|refine bD rfl ?_ ?_|exact aX hN _ rfl rfl rfl|exact aY hN _ rfl rfl rfl|exact aC hN _ rfl rfl rfl (Or.inr rfl)|(refine aU hN _ rfl rfl (by first|exact Or.inr rfl|exact Or.inl rfl) ?_;first|exact aZ _|exact a8 _)|refine aD hN rfl ?_|refine aE hN rfl rfl ?_|exact aB hN _ rfl rfl|exact aF hN rfl rfl rfl rfl|(with_reducible first|refine stZ ?_|refine aW ?_)));(try (any_goals (first|(with_reducible rfl)|(refine ak ?_;omega)))))
       rw [hL2,ge,if_neg (mv hin)];rfl
     · obtain ⟨hB2,hn0⟩:=hpos (by omega)
       have hz1:=cB (j:=(gi (gr g.prev (gi q i).toNat) m).toNat) (x:=gi L2 (gi (gr g.prev (gi q i).toNat) m).toNat - 1) hLw
       rw [if_pos rfl] at hz1
       have hzz : 0 < gi (L2.set (gi (gr g.prev (gi q i).toNat) m).toNat (gi L2 (gi (gr g.prev (gi q i).toNat) m).toNat - 1)) (gi (gr g.prev (gi q i).toNat) m).toNat:=by assumption
       (refine ⟨(m + 1,q',out',L2.set (gi (gr g.prev (gi q i).toNat) m).toNat (gi L2 (gi (gr g.prev (gi q i).toNat) m).toNat - 1)),⟨?_,?_⟩,bA hX hN [] ?_ ?_⟩;(try any_goals dsimp only);(repeat' (first|(with_reducible first|exact clZ|refine bB ?_ ?_|refine bC ?_ ?_|rfl|refine suZ ?_)|refine bD rfl ?_ ?_|exact aX hN _ rfl rfl rfl|exact aY hN _ rfl rfl rfl|exact aC hN _ rfl rfl rfl (Or.inr rfl)|(refine aU hN _ rfl rfl (by first|exact Or.inr rfl|exact Or.inl rfl) ?_;first|exact aZ _|exact a8 _)|refine aD hN rfl ?_|refine aE hN rfl rfl ?_|exact aB hN _ rfl rfl|exact aF hN rfl rfl rfl rfl|(with_reducible first|refine stZ ?_|refine aW ?_)));(try (any_goals (first|(with_reducible rfl)|(refine ak ?_;omega)))))
       exact ⟨⟨by omega,hiq2,hqe,fun j=>by have:=hlb' j;rw [cB hLw];split <;> omega⟩,kC hG hiq2 hqu hm' (hw0 hm') hwn hSw ho hno (hE hm') hB2 hn0 (by omega)⟩
     · obtain ⟨hB2,hn0⟩:=hpos (by omega)
       have hz1:=cB (j:=(gi (gr g.prev (gi q i).toNat) m).toNat) (x:=gi L2 (gi (gr g.prev (gi q i).toNat) m).toNat - 1) hLw
       rw [if_pos rfl] at hz1
       have hzz : ¬ 0 < gi (L2.set (gi (gr g.prev (gi q i).toNat) m).toNat (gi L2 (gi (gr g.prev (gi q i).toNat) m).toNat - 1)) (gi (gr g.prev (gi q i).toNat) m).toNat:=by assumption
       have hsh:=kD hG hiq2 hqu hm' (hw0 hm') hwn hSw ho hno (hE hm') hB2 hn0 (by omega)
       rw [← hw0 hm'] at hsh
       (refine ⟨(m + 1,q' ++ [gi (gr g.prev (gi q i).toNat) m],out'.set (gi (gr g.prev (gi q i).toNat) m).toNat true,L2.set (gi (gr g.prev (gi q i).toNat) m).toNat (gi L2 (gi (gr g.prev (gi q i).toNat) m).toNat - 1)),⟨?_,?_⟩,bA hX hN [(4,6)] ?_ ?_⟩;(try any_goals dsimp only);(repeat' (first|(with_reducible first|exact clZ|refine bB ?_ ?_|refine bC ?_ ?_|rfl|refine suZ ?_)|refine bD rfl ?_ ?_|exact aX hN _ rfl rfl rfl|exact aY hN _ rfl rfl rfl|exact aC hN _ rfl rfl rfl (Or.inr rfl)|(refine aU hN _ rfl rfl (by first|exact Or.inr rfl|exact Or.inl rfl) ?_;first|exact aZ _|exact a8 _)|refine aD hN rfl ?_|refine aE hN rfl rfl ?_|exact aB hN _ rfl rfl|exact aF hN rfl rfl rfl rfl|(with_reducible first|refine stZ ?_|refine aW ?_)));(try (any_goals (first|(with_reducible rfl)|(refine ak ?_;omega)))))
       · exact ⟨⟨by omega,by simp;omega,by rw [cz hiq2];exact hqe,fun j=>by have:=hlb' j;rw [cB hLw];split <;> omega⟩,hsh⟩
       · exact hds _
   · have hm' : m < (gr g.prev (gi q i).toNat).length:=by omega
     obtain ⟨hw1,hw2⟩:=hw hm'
     have hwn : (gi (gr g.prev (gi q i).toNat) m).toNat < n:=by omega
     have ho : gb out' (gi (gr g.prev (gi q i).toNat) m).toNat = false:=by assumption
     have hSw : gb inn (gi (gr g.prev (gi q i).toNat) m).toNat = true:=by assumption
     have hno : (bH g n).own (gi (gr g.prev (gi q i).toNat) m).toNat ≠ who:=by rw [hown hm'];assumption
     have hn0 : gi left' (gi (gr g.prev (gi q i).toNat) m).toNat ≠ 0:=beq_eq_false_iff_ne.1 (by assumption)
     have hlb':=hlb
     have hz1:=cB (j:=(gi (gr g.prev (gi q i).toNat) m).toNat) (x:=gi left' (gi (gr g.prev (gi q i).toNat) m).toNat - 1) (by omega : (gi (gr g.prev (gi q i).toNat) m).toNat < left'.length)
     rw [if_pos rfl] at hz1
     have hzz : 0 < gi (left'.set (gi (gr g.prev (gi q i).toNat) m).toNat (gi left' (gi (gr g.prev (gi q i).toNat) m).toNat - 1)) (gi (gr g.prev (gi q i).toNat) m).toNat:=by assumption
     (refine ⟨(m + 1,q',out',left'.set (gi (gr g.prev (gi q i).toNat) m).toNat (gi left' (gi (gr g.prev (gi q i).toNat) m).toNat - 1)),⟨?_,?_⟩,bA hX hN [] ?_ ?_⟩;(try any_goals dsimp only);(repeat' (first|(with_reducible first|exact clZ|refine bB ?_ ?_|refine bC ?_ ?_|rfl|refine suZ ?_)|refine bD rfl ?_ ?_|exact aX hN _ rfl rfl rfl|exact aY hN _ rfl rfl rfl|exact aC hN _ rfl rfl rfl (Or.inr rfl)|(refine aU hN _ rfl rfl (by first|exact Or.inr rfl|exact Or.inl rfl) ?_;first|exact aZ _|exact a8 _)|refine aD hN rfl ?_|refine aE hN rfl rfl ?_|exact aB hN _ rfl rfl|exact aF hN rfl rfl rfl rfl|(with_reducible first|refine stZ ?_|refine aW ?_)));(try (any_goals (first|(with_reducible rfl)|(refine ak ?_;omega)))))
     exact ⟨⟨by omega,hiq2,hqe,fun j=>by have:=hlb' j;rw [cB (by omega : (gi (gr g.prev (gi q i).toNat) m).toNat < left'.length)];split <;> omega⟩,kC hG hiq2 hqu hm' (hw0 hm') hwn hSw ho hno (hE hm') hB hn0 (by omega)⟩
   · have hm' : m < (gr g.prev (gi q i).toNat).length:=by omega
     obtain ⟨hw1,hw2⟩:=hw hm'
     have hwn : (gi (gr g.prev (gi q i).toNat) m).toNat < n:=by omega
     have ho : gb out' (gi (gr g.prev (gi q i).toNat) m).toNat = false:=by assumption
     have hSw : gb inn (gi (gr g.prev (gi q i).toNat) m).toNat = true:=by assumption
     have hno : (bH g n).own (gi (gr g.prev (gi q i).toNat) m).toNat ≠ who:=by rw [hown hm'];assumption
     have hn0 : gi left' (gi (gr g.prev (gi q i).toNat) m).toNat ≠ 0:=beq_eq_false_iff_ne.1 (by assumption)
     have hlb':=hlb
     have hz1:=cB (j:=(gi (gr g.prev (gi q i).toNat) m).toNat) (x:=gi left' (gi (gr g.prev (gi q i).toNat) m).toNat - 1) (by omega : (gi (gr g.prev (gi q i).toNat) m).toNat < left'.length)
     rw [if_pos rfl] at hz1
     have hzz : ¬ 0 < gi (left'.set (gi (gr g.prev (gi q i).toNat) m).toNat (gi left' (gi (gr g.prev (gi q i).toNat) m).toNat - 1)) (gi (gr g.prev (gi q i).toNat) m).toNat:=by assumption
     have hsh:=kD hG hiq2 hqu hm' (hw0 hm') hwn hSw ho hno (hE hm') hB hn0 (by omega)
     rw [← hw0 hm'] at hsh
     (refine ⟨(m + 1,q' ++ [gi (gr g.prev (gi q i).toNat) m],out'.set (gi (gr g.prev (gi q i).toNat) m).toNat true,left'.set (gi (gr g.prev (gi q i).toNat) m).toNat (gi left' (gi (gr g.prev (gi q i).toNat) m).toNat - 1)),⟨?_,?_⟩,bA hX hN [(4,6)] ?_ ?_⟩;(try any_goals dsimp only);(repeat' (first|(with_reducible first|exact clZ|refine bB ?_ ?_|refine bC ?_ ?_|rfl|refine suZ ?_)|refine bD rfl ?_ ?_|exact aX hN _ rfl rfl rfl|exact aY hN _ rfl rfl rfl|exact aC hN _ rfl rfl rfl (Or.inr rfl)|(refine aU hN _ rfl rfl (by first|exact Or.inr rfl|exact Or.inl rfl) ?_;first|exact aZ _|exact a8 _)|refine aD hN rfl ?_|refine aE hN rfl rfl ?_|exact aB hN _ rfl rfl|exact aF hN rfl rfl rfl rfl|(with_reducible first|refine stZ ?_|refine aW ?_)));(try (any_goals (first|(with_reducible rfl)|(refine ak ?_;omega)))))
     · exact ⟨⟨by omega,by simp;omega,by rw [cz hiq2];exact hqe,fun j=>by have:=hlb' j;rw [cB (by omega : (gi (gr g.prev (gi q i).toNat) m).toNat < left'.length)];split <;> omega⟩,hsh⟩
     · exact hds _
   · have hm' : m < (gr g.prev (gi q i).toNat).length:=by omega
     obtain ⟨hw1,hw2⟩:=hw hm'
     have hwn : (gi (gr g.prev (gi q i).toNat) m).toNat < n:=by omega
     have ho : gb out' (gi (gr g.prev (gi q i).toNat) m).toNat = false:=by assumption
     have hSw : gb inn (gi (gr g.prev (gi q i).toNat) m).toNat = true:=by assumption
     have ha:=PG.attr_mine (S:=fun v=>gb inn v = true) (T:=fun v=>gb goal v = true) hSw ((hown hm').trans (bne_eq_false_iff_eq.1 (by assumption))) (hE hm') (hB.ga _ hun (by have:=(hB.qr i hiq2).2.2;rwa [hqe] at this))
     have hmk:=hB.mark hiq2 hqu hm' (hw0 hm') hwn ho ha (left':=left') hB.ll (fun v hv=>rfl)
     rw [← hw0 hm'] at hmk
     (refine ⟨(m + 1,q' ++ [gi (gr g.prev (gi q i).toNat) m],out'.set (gi (gr g.prev (gi q i).toNat) m).toNat true,left'),⟨?_,?_⟩,bA hX hN [(4,6)] ?_ ?_⟩;(try any_goals dsimp only);(repeat' (first|(with_reducible first|exact clZ|refine bB ?_ ?_|refine bC ?_ ?_|rfl|refine suZ ?_)|refine bD rfl ?_ ?_|exact aX hN _ rfl rfl rfl|exact aY hN _ rfl rfl rfl|exact aC hN _ rfl rfl rfl (Or.inr rfl)|(refine aU hN _ rfl rfl (by first|exact Or.inr rfl|exact Or.inl rfl) ?_;first|exact aZ _|exact a8 _)|refine aD hN rfl ?_|refine aE hN rfl rfl ?_|exact aB hN _ rfl rfl|exact aF hN rfl rfl rfl rfl|(with_reducible first|refine stZ ?_|refine aW ?_)));(try (any_goals (first|(with_reducible rfl)|(refine ak ?_;omega)))))
     · exact ⟨⟨by omega,by simp;omega,by rw [cz hiq2];exact hqe,fun j=>by have:=hlb j;omega⟩,hmk⟩
     · exact hds _
   · have em : m = (gr g.prev (gi q i).toNat).length:=by omega
     (refine ⟨(i + 1,q',out',left'),⟨?_,?_⟩,bA hX hN [(3,4)] ?_ ?_⟩;(try any_goals dsimp only);(repeat' (first|(with_reducible first|exact clZ|refine bB ?_ ?_|refine bC ?_ ?_|rfl|refine suZ ?_)|refine bD rfl ?_ ?_|exact aX hN _ rfl rfl rfl|exact aY hN _ rfl rfl rfl|exact aC hN _ rfl rfl rfl (Or.inr rfl)|(refine aU hN _ rfl rfl (by first|exact Or.inr rfl|exact Or.inl rfl) ?_;first|exact aZ _|exact a8 _)|refine aD hN rfl ?_|refine aE hN rfl rfl ?_|exact aB hN _ rfl rfl|exact aF hN rfl rfl rfl rfl|(with_reducible first|refine stZ ?_|refine aW ?_)));(try (any_goals (first|(with_reducible rfl)|(refine ak ?_;omega)))))
     refine ⟨⟨by omega,fun j=>by have:=hlb j;omega⟩,?_⟩
     rw [em] at hB
     exact hB.next hG hiq2 hqu
 · (refine dw hN (i:=1) (.inr rfl) (by first|rfl|(simp (disch:=first|decide|omega|(simp only [List.length_cons,List.length_nil];omega)) only [bK,bS,bV,bY,go_sem,beq_self_eq_true,↓au,↓am hN,ao hN,reduceIte,reduceCtorEq,Nat.reduceAdd,Nat.reduceLT,Nat.reduceLeDiff,Nat.reduceEqDiff,Nat.reduceSub];rfl)) rfl ?_ rfl)
   refine congrArg C.B (dS hA.ol fun v hv=>?_)
   exact fB (hA.done hG hS (by omega) v hv)
end Go.Proofs.Ytiadchinhofieaa
