/-
  The winners of a whole game, on both sides.
-/
import Derived.Test.YtiadchinhofieaaZeE12
import Derived.Test.YtiadchinhofieaaZeG3
namespace Go.Proofs.Ytiadchinhofieaa
set_option linter.unusedVariables false
set_option linter.unusedSimpArgs false
open Go.RowKit
attribute [local irreducible] aq ce Aw Le
theorem l6 {g : Pa} (hg : PaOk g) : lZ g.ar (tab g.ar.own.length fun v=>v):=by
 have hm : ∀ x : Int,x ∈ (tab g.ar.own.length fun v=>(v : Int)) ↔ 0 ≤ x ∧ x < g.ar.own.length:=fun x=>by
  constructor
  · intro h
    obtain ⟨k,hk,e⟩:=cZ h
    rw [cQ] at hk
    rw [c8 _ hk] at e
    omega
  · intro h
    have : gi (tab g.ar.own.length fun v=>(v : Int)) x.toNat = x:=by rw [c8 _ (by omega)];omega
    rw [← this]
    exact cG (by rw [cQ];omega)
 refine ⟨fun k hk=>?_,fun k hk=>?_⟩
 · rw [cQ] at hk
   rw [c8 _ hk]
   refine ⟨by omega,by omega,fun h=>?_⟩
   rw [c8 _ (by omega)];omega
 · rw [cQ] at hk
   rw [c8 _ hk,Int.toNat_natCast]
   obtain ⟨_,_,h1,h2,h3⟩:=hg.ar.vert k hk
   have h4:=h3 0 (by omega)
   exact ⟨0,by omega,(hm _).2 ⟨h4.1,h4.2.1⟩⟩
noncomputable def wmk (n : Nat) (xs : List Int) (k : Nat) : List Int:=tab n fun v=>if tf (∃ j,j < k ∧ gi xs j = (v : Int)) then 1 else 0
theorem kr (n : Nat) (xs : List Int) (k : Nat) : (wmk n xs k).length = n:=cQ _ _
theorem po (n : Nat) (xs : List Int) : List.replicate n 0 = wmk n xs 0:=by
 refine gG List.length_replicate fun v hv=>?_
 rw [ap (by rintro ⟨j,h,_⟩;omega)]
 simp [gi,List.getD_eq_getElem?_getD,List.getElem?_replicate];split <;> rfl
theorem pp {n : Nat} {xs : List Int} {k : Nat} (h0 : 0 ≤ gi xs k) (h1 : gi xs k < n) : (wmk n xs k).set (gi xs k).toNat 1 = wmk n xs (k + 1):=by
 refine gG (by rw [List.length_set,kr]) fun v hv=>?_
 rw [cm (by rw [kr];omega)]
 by_cases e : v = (gi xs k).toNat
 · rw [if_pos e,aH ⟨k,by omega,by omega⟩];rfl
 · rw [if_neg e,wmk,c8 _ hv,dj (q:=∃ j,j < k + 1 ∧ gi xs j = (v : Int))]
   constructor
   · rintro ⟨j,a,b⟩;exact ⟨j,by omega,b⟩
   · rintro ⟨j,a,b⟩
     rcases Nat.lt_or_ge j k with h|h
     · exact ⟨j,h,b⟩
     · have : j = k:=by omega
       subst this;omega
theorem qV {g : Pa} (hg : PaOk g) : wmk g.prio.length (fW g (tab g.ar.own.length fun v=>v) 1) (fW g (tab g.ar.own.length fun v=>v) 1).length = du g:=by
 have hl:=hg.len
 have hm : ∀ v : Nat,(v : Int) ∈ (tab g.ar.own.length fun v=>(v : Int)) ↔ iX g v:=fun v=>by
  constructor
  · intro h
    obtain ⟨k,hk,e⟩:=cZ h
    rw [cQ] at hk
    rw [c8 _ hk] at e
    show _ < _
    omega
  · intro h
    have hv : v < g.ar.own.length:=by have : v < g.prio.length:=h;omega
    have : gi (tab g.ar.own.length fun v=>(v : Int)) v = (v : Int):=c8 _ hv
    rw [← this]
    exact cG (by rw [cQ];exact hv)
 have hw:=fun (i : Int) (v : Nat)=>pn (P:=pgP g) (i:=i) hm v
 have hmem : ∀ v : Nat,v < g.prio.length → ((∃ j,j < (fW g (tab g.ar.own.length fun v=>v) 1).length ∧ gi (fW g (tab g.ar.own.length fun v=>v) 1) j = (v : Int)) ↔ PG.Won (pgP g) 1 (iX g) v):=fun v hv=>by
  constructor
  · rintro ⟨j,a,b⟩
    obtain ⟨u,h1,h2,h3⟩:=cV.1 (cG a)
    have h2' : gi (fW g (tab g.ar.own.length fun v=>v) 1) j = (u : Int):=h2
    have : u = v:=by omega
    subst this
    rw [dU _ h1,gW] at h3
    exact (hw _ _).1 h3
  · intro h
    exact cZ (cV.2 ⟨v,hv,rfl,by rw [dU _ hv,gW];exact (hw _ _).2 h⟩)
 refine cc fun v hv=>?_
 rw [dj (hmem v hv),dj (PG.won_not ri (fun v h=>h) (jJ hg) (S:=iX g) (v:=v) hv)]
 by_cases h : PG.Won (pgP g) 0 (iX g) v
 · rw [aH h,ap (fun h'=>h' h)];rfl
 · rw [ap h,aH h];rfl
theorem jK (g : Pa) (hg : PaOk g) : aq Try.prog 107 [paA g] [.arr 2 .yes (.I (du g))] (fun ns=>.sl (ns.getD 0 0)):=by
 have hl:=hg.len
 have hle:=hg.ar.le
 have hwi:=qU g hg _ (l6 hg)
 have hend:=qV hg
 have hbd : ∀ j,j < (fW g (tab g.ar.own.length fun v=>v) 1).length → 0 ≤ gi (fW g (tab g.ar.own.length fun v=>v) 1) j ∧ gi (fW g (tab g.ar.own.length fun v=>v) 1) j < g.prio.length:=fun j hj=>by
  obtain ⟨u,h1,h2,h3⟩:=cV.1 (cG hj)
  have h2' : gi (fW g (tab g.ar.own.length fun v=>v) 1) j = (u : Int):=h2
  omega
 have hodl : (fW g (tab g.ar.own.length fun v=>v) 1).length ≤ g.prio.length:=gB _ _
 generalize fW g (tab g.ar.own.length fun v=>v) 1 = od at *
 generalize fW g (tab g.ar.own.length fun v=>v) 0 = ev at *
 (refine be aF Try.func107 rfl rfl (by kernel_rfl) fun hp0 ν hX hN=>?_;simp only [bX,Nat.reduceAdd])
 (repeat' (first|(with_reducible first|(apply hK;clear hK K)|refine stZ ?_|refine aM rfl ?_|((first|apply ae|apply af);clear ae X af Y))|(with_reducible refine aP ?_;first|refine aN rfl ?_|refine aO rfl ?_)|(with_reducible refine ca ?_;refine cw hN ?_)|((with_reducible first|((first|refine aS ?_|refine cx ?_|refine aT ?_|refine cy ?_);intro K hK)|(refine ay ?_;intro X Y ae af)|refine az ?_);simp (disch:=first|decide|omega|(simp only [List.length_cons,List.length_nil];omega)) only [go_sem,↓ak hN,am hN,reduceIte,reduceCtorEq,Nat.reduceAdd,Nat.reduceLT,Nat.reduceLeDiff,Nat.reduceEqDiff,Nat.reduceSub])|(with_reducible refine And.intro (fun h=>?_) (fun h=>?_) <;> try (exfalso;omega))|(with_reducible refine aR aF hN ?_)|(with_reducible refine bF aF hN ?_)|(refine br (pq g.ar hle) ?_ rfl (fun _=>rfl) ?_)|(refine br (hwi) ?_ rfl (fun _=>rfl) ?_)|(with_reducible first|exact a9|refine aK ?_ ?_|exact cF _|refine bB ?_|exact bD _|exact bQ _ _|refine bP ?_|exact bz _)|exact bC hN rfl rfl|(refine bO hN rfl ?_;first|exact ba _|exact bc _)|exact bA rfl rfl rfl|(simp only [aV,List.map_nil])|(with_reducible refine bn ?_)|(with_reducible refine And.intro ?_ ?_)|(refine ah ?_;omega)|(exact aQ hN (by decide))))
 (refine b8 (fun (k : Nat)=>(tmL [(22,.c (.int .i64 k)),(21,.c (.int .i64 od.length)),(20,.sl (ν 4)),(3,.sl (ν 1))],hpL hp0 ν [.dead,.arr 2 .yes (.I (wmk g.prio.length od k)),.dead,.dead,.arr 2 .yes (.I od)])) (fun (k : Nat)=>k ≤ od.length) (fun (k : Nat)=>od.length - k) ⟨0,?_,bt hX hN [] ?_ ?_⟩ ?_;(repeat' (first|(with_reducible first|exact clZ|refine bu ?_ ?_|refine bv ?_ ?_|rfl|refine suZ ?_)|refine bw rfl ?_ ?_|exact aX hN _ rfl rfl rfl|exact aY hN _ rfl rfl rfl|exact aB hN _ rfl rfl rfl (Or.inr rfl)|(refine aU hN _ rfl rfl (by first|exact Or.inr rfl|exact Or.inl rfl) ?_;first|exact ba _|exact bc _)|refine aC hN rfl ?_|refine aD hN rfl rfl ?_|exact aA hN _ rfl rfl|exact aE hN rfl rfl rfl rfl|(with_reducible first|refine stZ ?_|refine aW ?_)));(try (any_goals (first|(with_reducible rfl)|(refine ah ?_;omega)))))
 · exact (po _ _).symm
 intro k hk
 have hb:=hbd k
 have hml:=kr g.prio.length od k
 (repeat' (first|(with_reducible first|(apply hK;clear hK K)|refine stZ ?_|refine aM rfl ?_|((first|apply ae|apply af);clear ae X af Y))|(with_reducible refine aP ?_;first|refine aN rfl ?_|refine aO rfl ?_)|(with_reducible refine ca ?_;refine cw hN ?_)|((with_reducible first|((first|refine aS ?_|refine cx ?_|refine aT ?_|refine cy ?_);intro K hK)|(refine ay ?_;intro X Y ae af)|refine az ?_);simp (disch:=first|decide|omega|(simp only [List.length_cons,List.length_nil];omega)) only [go_sem,↓ak hN,am hN,reduceIte,reduceCtorEq,Nat.reduceAdd,Nat.reduceLT,Nat.reduceLeDiff,Nat.reduceEqDiff,Nat.reduceSub])|(with_reducible refine And.intro (fun h=>?_) (fun h=>?_) <;> try (exfalso;omega))|(with_reducible refine aR aF hN ?_)|(with_reducible refine bF aF hN ?_)|(with_reducible refine And.intro ?_ ?_)|(refine ah ?_;omega)|(exact aQ hN (by decide))))
 · (refine ⟨k + 1,⟨?_,?_⟩,bt hX hN [] ?_ ?_⟩;(try any_goals dsimp only);(repeat' (first|(with_reducible first|exact clZ|refine bu ?_ ?_|refine bv ?_ ?_|rfl|refine suZ ?_)|refine bw rfl ?_ ?_|exact aX hN _ rfl rfl rfl|exact aY hN _ rfl rfl rfl|exact aB hN _ rfl rfl rfl (Or.inr rfl)|(refine aU hN _ rfl rfl (by first|exact Or.inr rfl|exact Or.inl rfl) ?_;first|exact ba _|exact bc _)|refine aC hN rfl ?_|refine aD hN rfl rfl ?_|exact aA hN _ rfl rfl|exact aE hN rfl rfl rfl rfl|(with_reducible first|refine stZ ?_|refine aW ?_)));(try (any_goals (first|(with_reducible rfl)|(refine ah ?_;omega)))))
   exact (pp (hbd k (by omega)).1 (hbd k (by omega)).2).symm
 · (refine df hN (i:=1) (.inr rfl) (by first|rfl|(simp (disch:=first|decide|omega|(simp only [List.length_cons,List.length_nil];omega)) only [bI,bJ,bL,bN,go_sem,beq_self_eq_true,↓au,↓ak hN,am hN,reduceIte,reduceCtorEq,Nat.reduceAdd,Nat.reduceLT,Nat.reduceLeDiff,Nat.reduceEqDiff,Nat.reduceSub];rfl)) rfl ?_ rfl)
   rw [show k = od.length by omega,hend]
theorem mF (g : Pa) (hg : PaOk g) : aq Try.prog 70 [paA g] [.arr 2 .yes (.I (du g))] (fun ns=>.sl (ns.getD 0 0)):=by
 have hl:=hg.len
 have hle:=hg.ar.le
 have hP : (fun v=>gb (bR g.prio.length fun _=>true) v = true) = iX g:=funext fun v=>propext (by
  rcases Nat.lt_or_ge v g.prio.length with h|h
  · rw [cW _ h];exact ⟨fun _=>h,fun _=>rfl⟩
  · refine ⟨fun h'=>?_,fun h'=>?_⟩
    · have:=eH h';rw [bS] at this;omega
    · have : v < g.prio.length:=h';omega)
 have hw:=qQ (ep g) g.prio.length (mz hg) _ (bR g.prio.length fun _=>true) (bS _ _) (Nat.lt_succ_self _) (by rw [hP];exact jJ hg)
 rw [hP] at hw
 clear hP
 change aq _ _ _ [.arr _ _ (.B (mks g.prio.length (PG.Won (pgP g) 0 (iX g))))] _ at hw
 have hal:=qJ g.prio.length (by omega)
 have hend : (tab g.prio.length fun v=>1 - (if gb (mks g.prio.length (PG.Won (pgP g) 0 (iX g))) v = true then (1 : Int) else 0)) = du g:=by
  refine cc fun v hv=>?_
  rw [dU _ hv]
  split <;> rfl
 have hwl : (mks g.prio.length (PG.Won (pgP g) 0 (iX g))).length = g.prio.length:=cn _ _
 generalize mks g.prio.length (PG.Won (pgP g) 0 (iX g)) = win at *
 generalize (bR g.prio.length fun _=>true) = al at *
 (refine be aF Try.func70 rfl rfl (by kernel_rfl) fun hp0 ν hX hN=>?_;simp only [bX,Nat.reduceAdd])
 (repeat' (first|(with_reducible first|(apply hK;clear hK K)|refine stZ ?_|refine aM rfl ?_|((first|apply ae|apply af);clear ae X af Y))|(with_reducible refine aP ?_;first|refine aN rfl ?_|refine aO rfl ?_)|(with_reducible refine ca ?_;refine cw hN ?_)|((with_reducible first|((first|refine aS ?_|refine cx ?_|refine aT ?_|refine cy ?_);intro K hK)|(refine ay ?_;intro X Y ae af)|refine az ?_);simp (disch:=first|decide|omega|(simp only [List.length_cons,List.length_nil];omega)) only [go_sem,↓ak hN,am hN,reduceIte,reduceCtorEq,Nat.reduceAdd,Nat.reduceLT,Nat.reduceLeDiff,Nat.reduceEqDiff,Nat.reduceSub])|(with_reducible refine And.intro (fun h=>?_) (fun h=>?_) <;> try (exfalso;omega))|(with_reducible refine aR aF hN ?_)|(with_reducible refine bF aF hN ?_)|(refine cS (sA g hg) ?_ rfl rfl ?_)|(refine br hal ?_ rfl (fun _=>rfl) ?_)|(refine br hw ?_ rfl (fun _=>rfl) ?_)|(with_reducible first|exact a9|refine aK ?_ ?_|exact cF _|refine bB ?_|exact bD _|exact bQ _ _|refine bP ?_|exact bz _)|exact bC hN rfl rfl|(refine bO hN rfl ?_;first|exact ba _|exact bc _)|exact bA rfl rfl rfl|(simp only [aV,List.map_nil])|(with_reducible refine bn ?_)|(with_reducible refine And.intro ?_ ?_)|(refine ah ?_;omega)|(exact aQ hN (by decide))))
 (refine b8 (fun (k : Nat)=>(tmL [(5,.c (.int .i64 k)),(4,.sl (ν 3)),(3,.sl (ν 2))],hpL hp0 ν [.dead,.dead,.arr 4 .yes (.B win),.arr 2 .yes (.I (tab k fun v=>1 - (if gb win v = true then (1 : Int) else 0)))])) (fun (k : Nat)=>k ≤ g.prio.length) (fun (k : Nat)=>g.prio.length - k) ⟨0,?_,bt hX hN [] ?_ ?_⟩ ?_;(repeat' (first|(with_reducible first|exact clZ|refine bu ?_ ?_|refine bv ?_ ?_|rfl|refine suZ ?_)|refine bw rfl ?_ ?_|exact aX hN _ rfl rfl rfl|exact aY hN _ rfl rfl rfl|exact aB hN _ rfl rfl rfl (Or.inr rfl)|(refine aU hN _ rfl rfl (by first|exact Or.inr rfl|exact Or.inl rfl) ?_;first|exact ba _|exact bc _)|refine aC hN rfl ?_|refine aD hN rfl rfl ?_|exact aA hN _ rfl rfl|exact aE hN rfl rfl rfl rfl|(with_reducible first|refine stZ ?_|refine aW ?_)));(try (any_goals (first|(with_reducible rfl)|(refine ah ?_;omega)))))
 · rfl
 intro k hk
 have hlen:=cQ k fun v=>1 - (if gb win v = true then (1 : Int) else 0)
 (repeat' (first|(with_reducible first|(apply hK;clear hK K)|refine stZ ?_|refine aM rfl ?_|((first|apply ae|apply af);clear ae X af Y))|(with_reducible refine aP ?_;first|refine aN rfl ?_|refine aO rfl ?_)|(with_reducible refine ca ?_;refine cw hN ?_)|((with_reducible first|((first|refine aS ?_|refine cx ?_|refine aT ?_|refine cy ?_);intro K hK)|(refine ay ?_;intro X Y ae af)|refine az ?_);simp (disch:=first|decide|omega|(simp only [List.length_cons,List.length_nil];omega)) only [go_sem,↓ak hN,am hN,reduceIte,reduceCtorEq,Nat.reduceAdd,Nat.reduceLT,Nat.reduceLeDiff,Nat.reduceEqDiff,Nat.reduceSub])|(with_reducible refine And.intro (fun h=>?_) (fun h=>?_) <;> try (exfalso;omega))|(with_reducible refine aR aF hN ?_)|(with_reducible refine bF aF hN ?_)|(refine br (pt ?_) ?_ rfl (fun _=>rfl) ?_)|(with_reducible first|exact a9|refine aK ?_ ?_|exact cF _|refine bB ?_|exact bD _|exact bQ _ _|refine bP ?_|exact bz _)|exact bC hN rfl rfl|(refine bO hN rfl ?_;first|exact ba _|exact bc _)|exact bA rfl rfl rfl|(simp only [aV,List.map_nil])|(with_reducible refine bn ?_)|(with_reducible refine And.intro ?_ ?_)|(refine ah ?_;omega)|(exact aQ hN (by decide))))
 · (refine ⟨k + 1,⟨?_,?_⟩,bt hX hN [(3,5)] ?_ ?_⟩;(try any_goals dsimp only);(repeat' (first|(with_reducible first|exact clZ|refine bu ?_ ?_|refine bv ?_ ?_|rfl|refine suZ ?_)|refine bw rfl ?_ ?_|exact aX hN _ rfl rfl rfl|exact aY hN _ rfl rfl rfl|exact aB hN _ rfl rfl rfl (Or.inr rfl)|(refine aU hN _ rfl rfl (by first|exact Or.inr rfl|exact Or.inl rfl) ?_;first|exact ba _|exact bc _)|refine aC hN rfl ?_|refine aD hN rfl rfl ?_|exact aA hN _ rfl rfl|exact aE hN rfl rfl rfl rfl|(with_reducible first|refine stZ ?_|refine aW ?_)));(try (any_goals (first|(with_reducible rfl)|(refine ah ?_;omega)))))
   exact kB k fun v=>1 - (if gb win v = true then (1 : Int) else 0)
 · (refine df hN (i:=3) (.inr rfl) (by first|rfl|(simp (disch:=first|decide|omega|(simp only [List.length_cons,List.length_nil];omega)) only [bI,bJ,bL,bN,go_sem,beq_self_eq_true,↓au,↓ak hN,am hN,reduceIte,reduceCtorEq,Nat.reduceAdd,Nat.reduceLT,Nat.reduceLeDiff,Nat.reduceEqDiff,Nat.reduceSub];rfl)) rfl ?_ rfl)
   rw [show k = g.prio.length by omega,hend]
theorem pw (g : Pa) : (du g).length = g.prio.length:=cQ _ _
theorem mG {g : Pa} (hg : PaOk g) : (du g).length ≤ 1048576:=by
 have h1:=hg.ar.le
 have h2:=hg.len
 rw [pw];omega
end Go.Proofs.Ytiadchinhofieaa
