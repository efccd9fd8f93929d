/-
  The winners of a whole game, on both sides.
-/
import Derived.Test.YtiadchinhofieaaZcE12
import Derived.Test.YtiadchinhofieaaZcG3
namespace Go.Proofs.Ytiadchinhofieaa
set_option linter.unusedVariables false
set_option linter.unusedSimpArgs false
open Go.RowKit
attribute [local irreducible] aq ci Aw Le
theorem nI {g : Pa} (hg : PaOk g) : nC g.ar (tab g.ar.own.length fun v=>v):=by
 have hm : ∀ x : Int,x ∈ (tab g.ar.own.length fun v=>(v : Int)) ↔ 0 ≤ x ∧ x < g.ar.own.length:=fun x=>by
  constructor
  · intro h
    obtain ⟨k,hk,e⟩:=da h
    rw [db] at hk
    rw [dc _ hk] at e
    omega
  · intro h
    have : gi (tab g.ar.own.length fun v=>(v : Int)) x.toNat = x:=by rw [dc _ (by omega)];omega
    rw [← this]
    exact cE (by rw [db];omega)
 refine ⟨fun k hk=>?_,fun k hk=>?_⟩
 · rw [db] at hk
   rw [dc _ hk]
   refine ⟨by omega,by omega,fun h=>?_⟩
   rw [dc _ (by omega)];omega
 · rw [db] at hk
   rw [dc _ hk,Int.toNat_natCast]
   obtain ⟨_,_,h1,h2,h3⟩:=hg.ar.vert k hk
   have h4:=h3 0 (by omega)
   exact ⟨0,by omega,(hm _).2 ⟨h4.1,h4.2.1⟩⟩
noncomputable def wmk (n : Nat) (xs : List Int) (k : Nat) : List Int:=tab n fun v=>if tf (∃ j,j < k ∧ gi xs j = (v : Int)) then 1 else 0
theorem lD (n : Nat) (xs : List Int) (k : Nat) : (wmk n xs k).length = n:=db _ _
theorem rj (n : Nat) (xs : List Int) : List.replicate n 0 = wmk n xs 0:=by
 refine iB List.length_replicate fun v hv=>?_
 rw [ax (by rintro ⟨j,h,_⟩;omega)]
 simp [gi,List.getD_eq_getElem?_getD,List.getElem?_replicate];split <;> rfl
theorem rk {n : Nat} {xs : List Int} {k : Nat} (h0 : 0 ≤ gi xs k) (h1 : gi xs k < n) : (wmk n xs k).set (gi xs k).toNat 1 = wmk n xs (k + 1):=by
 refine iB (by rw [List.length_set,lD]) fun v hv=>?_
 rw [cB (by rw [lD];omega)]
 by_cases e : v = (gi xs k).toNat
 · rw [if_pos e,aH ⟨k,by omega,by omega⟩];rfl
 · rw [if_neg e,wmk,dc _ hv,eg (q:=∃ j,j < k + 1 ∧ gi xs j = (v : Int))]
   constructor
   · rintro ⟨j,a,b⟩;exact ⟨j,by omega,b⟩
   · rintro ⟨j,a,b⟩
     rcases Nat.lt_or_ge j k with h|h
     · exact ⟨j,h,b⟩
     · have : j = k:=by omega
       subst this;omega
theorem sT {g : Pa} (hg : PaOk g) : wmk g.prio.length (gP g (tab g.ar.own.length fun v=>v) 1) (gP g (tab g.ar.own.length fun v=>v) 1).length = bX g:=by
 have hl:=hg.len
 have hm : ∀ v : Nat,(v : Int) ∈ (tab g.ar.own.length fun v=>(v : Int)) ↔ fh g v:=fun v=>by
  constructor
  · intro h
    obtain ⟨k,hk,e⟩:=da h
    rw [db] at hk
    rw [dc _ hk] at e
    show _ < _
    omega
  · intro h
    have hv : v < g.ar.own.length:=by have : v < g.prio.length:=h;omega
    have : gi (tab g.ar.own.length fun v=>(v : Int)) v = (v : Int):=dc _ hv
    rw [← this]
    exact cE (by rw [db];exact hv)
 have hw:=fun (i : Int) (v : Nat)=>ri (P:=pgP g) (i:=i) hm v
 have hmem : ∀ v : Nat,v < g.prio.length → ((∃ j,j < (gP g (tab g.ar.own.length fun v=>v) 1).length ∧ gi (gP g (tab g.ar.own.length fun v=>v) 1) j = (v : Int)) ↔ PG.Won (pgP g) 1 (fh g) v):=fun v hv=>by
  constructor
  · rintro ⟨j,a,b⟩
    obtain ⟨u,h1,h2,h3⟩:=dl.1 (cE a)
    have h2' : gi (gP g (tab g.ar.own.length fun v=>v) 1) j = (u : Int):=h2
    have : u = v:=by omega
    subst this
    rw [eo _ h1,iQ] at h3
    exact (hw _ _).1 h3
  · intro h
    exact da (dl.2 ⟨v,hv,rfl,by rw [eo _ hv,iQ];exact (hw _ _).2 h⟩)
 refine ck fun v hv=>?_
 rw [eg (hmem v hv),eg (PG.won_not ov (fun v h=>h) (gJ hg) (S:=fh g) (v:=v) hv)]
 by_cases h : PG.Won (pgP g) 0 (fh g) v
 · rw [aH h,ax (fun h'=>h' h)];rfl
 · rw [ax h,aH h];rfl
theorem kE (g : Pa) (hg : PaOk g) : aq Try.prog 107 [paA g] [.arr 2 .yes (.I (bX g))] (fun ns=>.sl (ns.getD 0 0)):=by
 have hl:=hg.len
 have hle:=hg.ar.le
 have hwi:=sS g hg _ (nI hg)
 have hend:=sT hg
 have hbd : ∀ j,j < (gP g (tab g.ar.own.length fun v=>v) 1).length → 0 ≤ gi (gP g (tab g.ar.own.length fun v=>v) 1) j ∧ gi (gP g (tab g.ar.own.length fun v=>v) 1) j < g.prio.length:=fun j hj=>by
  obtain ⟨u,h1,h2,h3⟩:=dl.1 (cE hj)
  have h2' : gi (gP g (tab g.ar.own.length fun v=>v) 1) j = (u : Int):=h2
  omega
 have hodl : (gP g (tab g.ar.own.length fun v=>v) 1).length ≤ g.prio.length:=iq _ _
 generalize gP g (tab g.ar.own.length fun v=>v) 1 = od at *
 generalize gP g (tab g.ar.own.length fun v=>v) 0 = ev at *
 (refine bh aG Try.func107 rfl rfl (by kernel_rfl) fun hp0 ν hX hN=>?_;simp only [cx,Nat.reduceAdd])
 (repeat' (first|(with_reducible first|(apply hK;clear hK K)|refine stZ ?_|refine aM rfl ?_|((first|apply ae|apply af);clear ae X af Y))|(with_reducible refine aP ?_;first|refine aN rfl ?_|refine aO rfl ?_)|(with_reducible refine bU ?_;refine b8 hN ?_)|((with_reducible first|((first|refine aS ?_|refine b9 ?_|refine aT ?_|refine ca ?_);intro K hK)|(refine az ?_;intro X Y ae af)|refine aA ?_);simp (disch:=first|decide|omega|(simp only [List.length_cons,List.length_nil];omega)) only [go_sem,↓am hN,ao hN,reduceIte,reduceCtorEq,Nat.reduceAdd,Nat.reduceLT,Nat.reduceLeDiff,Nat.reduceEqDiff,Nat.reduceSub])|(with_reducible refine And.intro (fun h=>?_) (fun h=>?_) <;> try (exfalso;omega))|(with_reducible refine aR aG hN ?_)|(with_reducible refine bn aG hN ?_)|(refine bE (rl g.ar hle) ?_ rfl (fun _=>rfl) ?_)|(refine bE (hwi) ?_ rfl (fun _=>rfl) ?_)|(with_reducible first|exact aV|refine aJ ?_ ?_|exact cF _|refine bv ?_|exact bz _|exact bR _ _|refine bQ ?_|exact bt _)|exact bw hN rfl rfl|(refine bP hN rfl ?_;first|exact aZ _|exact a8 _)|exact bu rfl rfl rfl|(simp only [ba,List.map_nil])|(with_reducible refine bo ?_)|(with_reducible refine And.intro ?_ ?_)|(refine ak ?_;omega)|(exact aQ hN (by decide))))
 (refine cj (fun (k : Nat)=>(tmL [(22,.c (.int .i64 k)),(21,.c (.int .i64 od.length)),(20,.sl (ν 4)),(3,.sl (ν 1))],hpL hp0 ν [.dead,.arr 2 .yes (.I (wmk g.prio.length od k)),.dead,.dead,.arr 2 .yes (.I od)])) (fun (k : Nat)=>k ≤ od.length) (fun (k : Nat)=>od.length - k) ⟨0,?_,bA hX hN [] ?_ ?_⟩ ?_;(repeat' (first|(with_reducible first|exact clZ|refine bB ?_ ?_|refine bC ?_ ?_|rfl|refine suZ ?_)|refine bD rfl ?_ ?_|exact aX hN _ rfl rfl rfl|exact aY hN _ rfl rfl rfl|exact aC hN _ rfl rfl rfl (Or.inr rfl)|(refine aU hN _ rfl rfl (by first|exact Or.inr rfl|exact Or.inl rfl) ?_;first|exact aZ _|exact a8 _)|refine aD hN rfl ?_|refine aE hN rfl rfl ?_|exact aB hN _ rfl rfl|exact aF hN rfl rfl rfl rfl|(with_reducible first|refine stZ ?_|refine aW ?_)));(try (any_goals (first|(with_reducible rfl)|(refine ak ?_;omega)))))
 · exact (rj _ _).symm
 intro k hk
 have hb:=hbd k
 have hml:=lD g.prio.length od k
 (repeat' (first|(with_reducible first|(apply hK;clear hK K)|refine stZ ?_|refine aM rfl ?_|((first|apply ae|apply af);clear ae X af Y))|(with_reducible refine aP ?_;first|refine aN rfl ?_|refine aO rfl ?_)|(with_reducible refine bU ?_;refine b8 hN ?_)|((with_reducible first|((first|refine aS ?_|refine b9 ?_|refine aT ?_|refine ca ?_);intro K hK)|(refine az ?_;intro X Y ae af)|refine aA ?_);simp (disch:=first|decide|omega|(simp only [List.length_cons,List.length_nil];omega)) only [go_sem,↓am hN,ao hN,reduceIte,reduceCtorEq,Nat.reduceAdd,Nat.reduceLT,Nat.reduceLeDiff,Nat.reduceEqDiff,Nat.reduceSub])|(with_reducible refine And.intro (fun h=>?_) (fun h=>?_) <;> try (exfalso;omega))|(with_reducible refine aR aG hN ?_)|(with_reducible refine bn aG hN ?_)|(with_reducible refine And.intro ?_ ?_)|(refine ak ?_;omega)|(exact aQ hN (by decide))))
 · (refine ⟨k + 1,⟨?_,?_⟩,bA hX hN [] ?_ ?_⟩;(try any_goals dsimp only);(repeat' (first|(with_reducible first|exact clZ|refine bB ?_ ?_|refine bC ?_ ?_|rfl|refine suZ ?_)|refine bD rfl ?_ ?_|exact aX hN _ rfl rfl rfl|exact aY hN _ rfl rfl rfl|exact aC hN _ rfl rfl rfl (Or.inr rfl)|(refine aU hN _ rfl rfl (by first|exact Or.inr rfl|exact Or.inl rfl) ?_;first|exact aZ _|exact a8 _)|refine aD hN rfl ?_|refine aE hN rfl rfl ?_|exact aB hN _ rfl rfl|exact aF hN rfl rfl rfl rfl|(with_reducible first|refine stZ ?_|refine aW ?_)));(try (any_goals (first|(with_reducible rfl)|(refine ak ?_;omega)))))
   exact (rk (hbd k (by omega)).1 (hbd k (by omega)).2).symm
 · (refine dw hN (i:=1) (.inr rfl) (by first|rfl|(simp (disch:=first|decide|omega|(simp only [List.length_cons,List.length_nil];omega)) only [bK,bS,bV,bY,go_sem,beq_self_eq_true,↓au,↓am hN,ao hN,reduceIte,reduceCtorEq,Nat.reduceAdd,Nat.reduceLT,Nat.reduceLeDiff,Nat.reduceEqDiff,Nat.reduceSub];rfl)) rfl ?_ rfl)
   rw [show k = od.length by omega,hend]
theorem ow (g : Pa) (hg : PaOk g) : aq Try.prog 70 [paA g] [.arr 2 .yes (.I (bX g))] (fun ns=>.sl (ns.getD 0 0)):=by
 have hl:=hg.len
 have hle:=hg.ar.le
 have hP : (fun v=>gb (bZ g.prio.length fun _=>true) v = true) = fh g:=funext fun v=>propext (by
  rcases Nat.lt_or_ge v g.prio.length with h|h
  · rw [dm _ h];exact ⟨fun _=>h,fun _=>rfl⟩
  · refine ⟨fun h'=>?_,fun h'=>?_⟩
    · have:=fg h';rw [ce] at this;omega
    · have : v < g.prio.length:=h';omega)
 have hw:=sO (eS g) g.prio.length (ly hg) _ (bZ g.prio.length fun _=>true) (ce _ _) (Nat.lt_succ_self _) (by rw [hP];exact gJ hg)
 rw [hP] at hw
 clear hP
 change aq _ _ _ [.arr _ _ (.B (mks g.prio.length (PG.Won (pgP g) 0 (fh g))))] _ at hw
 have hal:=sI g.prio.length (by omega)
 have hend : (tab g.prio.length fun v=>1 - (if gb (mks g.prio.length (PG.Won (pgP g) 0 (fh g))) v = true then (1 : Int) else 0)) = bX g:=by
  refine ck fun v hv=>?_
  rw [eo _ hv]
  split <;> rfl
 have hwl : (mks g.prio.length (PG.Won (pgP g) 0 (fh g))).length = g.prio.length:=cC _ _
 generalize mks g.prio.length (PG.Won (pgP g) 0 (fh g)) = win at *
 generalize (bZ g.prio.length fun _=>true) = al at *
 (refine bh aG Try.func70 rfl rfl (by kernel_rfl) fun hp0 ν hX hN=>?_;simp only [cx,Nat.reduceAdd])
 (repeat' (first|(with_reducible first|(apply hK;clear hK K)|refine stZ ?_|refine aM rfl ?_|((first|apply ae|apply af);clear ae X af Y))|(with_reducible refine aP ?_;first|refine aN rfl ?_|refine aO rfl ?_)|(with_reducible refine bU ?_;refine b8 hN ?_)|((with_reducible first|((first|refine aS ?_|refine b9 ?_|refine aT ?_|refine ca ?_);intro K hK)|(refine az ?_;intro X Y ae af)|refine aA ?_);simp (disch:=first|decide|omega|(simp only [List.length_cons,List.length_nil];omega)) only [go_sem,↓am hN,ao hN,reduceIte,reduceCtorEq,Nat.reduceAdd,Nat.reduceLT,Nat.reduceLeDiff,Nat.reduceEqDiff,Nat.reduceSub])|(with_reducible refine And.intro (fun h=>?_) (fun h=>?_) <;> try (exfalso;omega))|(with_reducible refine aR aG hN ?_)|(with_reducible refine bn aG hN ?_)|(refine cK (uD g hg) ?_ rfl rfl ?_)|(refine bE hal ?_ rfl (fun _=>rfl) ?_)|(refine bE hw ?_ rfl (fun _=>rfl) ?_)|(with_reducible first|exact aV|refine aJ ?_ ?_|exact cF _|refine bv ?_|exact bz _|exact bR _ _|refine bQ ?_|exact bt _)|exact bw hN rfl rfl|(refine bP hN rfl ?_;first|exact aZ _|exact a8 _)|exact bu rfl rfl rfl|(simp only [ba,List.map_nil])|(with_reducible refine bo ?_)|(with_reducible refine And.intro ?_ ?_)|(refine ak ?_;omega)|(exact aQ hN (by decide))))
 (refine cj (fun (k : Nat)=>(tmL [(5,.c (.int .i64 k)),(4,.sl (ν 3)),(3,.sl (ν 2))],hpL hp0 ν [.dead,.dead,.arr 4 .yes (.B win),.arr 2 .yes (.I (tab k fun v=>1 - (if gb win v = true then (1 : Int) else 0)))])) (fun (k : Nat)=>k ≤ g.prio.length) (fun (k : Nat)=>g.prio.length - k) ⟨0,?_,bA hX hN [] ?_ ?_⟩ ?_;(repeat' (first|(with_reducible first|exact clZ|refine bB ?_ ?_|refine bC ?_ ?_|rfl|refine suZ ?_)|refine bD rfl ?_ ?_|exact aX hN _ rfl rfl rfl|exact aY hN _ rfl rfl rfl|exact aC hN _ rfl rfl rfl (Or.inr rfl)|(refine aU hN _ rfl rfl (by first|exact Or.inr rfl|exact Or.inl rfl) ?_;first|exact aZ _|exact a8 _)|refine aD hN rfl ?_|refine aE hN rfl rfl ?_|exact aB hN _ rfl rfl|exact aF hN rfl rfl rfl rfl|(with_reducible first|refine stZ ?_|refine aW ?_)));(try (any_goals (first|(with_reducible rfl)|(refine ak ?_;omega)))))
 · rfl
 intro k hk
 have hlen:=db k fun v=>1 - (if gb win v = true then (1 : Int) else 0)
 (repeat' (first|(with_reducible first|(apply hK;clear hK K)|refine stZ ?_|refine aM rfl ?_|((first|apply ae|apply af);clear ae X af Y))|(with_reducible refine aP ?_;first|refine aN rfl ?_|refine aO rfl ?_)|(with_reducible refine bU ?_;refine b8 hN ?_)|((with_reducible first|((first|refine aS ?_|refine b9 ?_|refine aT ?_|refine ca ?_);intro K hK)|(refine az ?_;intro X Y ae af)|refine aA ?_);simp (disch:=first|decide|omega|(simp only [List.length_cons,List.length_nil];omega)) only [go_sem,↓am hN,ao hN,reduceIte,reduceCtorEq,Nat.reduceAdd,Nat.reduceLT,Nat.reduceLeDiff,Nat.reduceEqDiff,Nat.reduceSub])|(with_reducible refine And.intro (fun h=>?_) (fun h=>?_) <;> try (exfalso;omega))|(with_reducible refine aR aG hN ?_)|(with_reducible refine bn aG hN ?_)|(refine bE (rm ?_) ?_ rfl (fun _=>rfl) ?_)|(with_reducible first|exact aV|refine aJ ?_ ?_|exact cF _|refine bv ?_|exact bz _|exact bR _ _|refine bQ ?_|exact bt _)|exact bw hN rfl rfl|(refine bP hN rfl ?_;first|exact aZ _|exact a8 _)|exact bu rfl rfl rfl|(simp only [ba,List.map_nil])|(with_reducible refine bo ?_)|(with_reducible refine And.intro ?_ ?_)|(refine ak ?_;omega)|(exact aQ hN (by decide))))
 · (refine ⟨k + 1,⟨?_,?_⟩,bA hX hN [(3,5)] ?_ ?_⟩;(try any_goals dsimp only);(repeat' (first|(with_reducible first|exact clZ|refine bB ?_ ?_|refine bC ?_ ?_|rfl|refine suZ ?_)|refine bD rfl ?_ ?_|exact aX hN _ rfl rfl rfl|exact aY hN _ rfl rfl rfl|exact aC hN _ rfl rfl rfl (Or.inr rfl)|(refine aU hN _ rfl rfl (by first|exact Or.inr rfl|exact Or.inl rfl) ?_;first|exact aZ _|exact a8 _)|refine aD hN rfl ?_|refine aE hN rfl rfl ?_|exact aB hN _ rfl rfl|exact aF hN rfl rfl rfl rfl|(with_reducible first|refine stZ ?_|refine aW ?_)));(try (any_goals (first|(with_reducible rfl)|(refine ak ?_;omega)))))
   exact lS k fun v=>1 - (if gb win v = true then (1 : Int) else 0)
 · (refine dw hN (i:=3) (.inr rfl) (by first|rfl|(simp (disch:=first|decide|omega|(simp only [List.length_cons,List.length_nil];omega)) only [bK,bS,bV,bY,go_sem,beq_self_eq_true,↓au,↓am hN,ao hN,reduceIte,reduceCtorEq,Nat.reduceAdd,Nat.reduceLT,Nat.reduceLeDiff,Nat.reduceEqDiff,Nat.reduceSub];rfl)) rfl ?_ rfl)
   rw [show k = g.prio.length by omega,hend]
theorem jP (g : Pa) : (bX g).length = g.prio.length:=db _ _
theorem ox {g : Pa} (hg : PaOk g) : (bX g).length ≤ 1048576:=by
 have h1:=hg.ar.le
 have h2:=hg.len
 rw [jP];omega
end Go.Proofs.Ytiadchinhofieaa
