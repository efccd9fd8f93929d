/-
  The winners of a whole game, on both sides.
-/
import Derived.Test.YtfaefmabjjndeaaZgE12
import Derived.Test.YtfaefmabjjndeaaZgG3
namespace Go.Proofs.Ytfaefmabjjndeaa
set_option linter.unusedVariables false
set_option linter.unusedSimpArgs false
open Go.RowKit
attribute [local irreducible] aG cO Aw Le
theorem oq {g : Pa} (hg : PaOk g) : kp g.ar (tab g.ar.own.length fun v=>v):=by
 have hm : ∀ x : Int,x ∈ (tab g.ar.own.length fun v=>(v : Int)) ↔ 0 ≤ x ∧ x < g.ar.own.length:=fun x=>by
  constructor
  · intro h
    obtain ⟨k,hk,e⟩:=dc h
    rw [cR] at hk
    rw [df _ hk] at e
    omega
  · intro h
    have : gi (tab g.ar.own.length fun v=>(v : Int)) x.toNat = x:=by rw [df _ (by omega)];omega
    rw [← this]
    exact dr (by rw [cR];omega)
 refine ⟨fun k hk=>?_,fun k hk=>?_⟩
 · rw [cR] at hk
   rw [df _ hk]
   refine ⟨by omega,by omega,fun h=>?_⟩
   rw [df _ (by omega)];omega
 · rw [cR] at hk
   rw [df _ hk,Int.toNat_natCast]
   obtain ⟨_,_,h1,h2,h3⟩:=hg.ar.vert k hk
   have h4:=h3 0 (by omega)
   exact ⟨0,by omega,(hm _).2 ⟨h4.1,h4.2.1⟩⟩
noncomputable def wmk (n : Nat) (xs : List Int) (k : Nat) : List Int:=tab n fun v=>if tf (∃ j,j < k ∧ gi xs j = (v : Int)) then 1 else 0
theorem mn (n : Nat) (xs : List Int) (k : Nat) : (wmk n xs k).length = n:=cR _ _
theorem rR (n : Nat) (xs : List Int) : List.replicate n 0 = wmk n xs 0:=by
 refine i5 List.length_replicate fun v hv=>?_
 rw [aX (by rintro ⟨j,h,_⟩;omega)]
 simp [gi,List.getD_eq_getElem?_getD,List.getElem?_replicate];split <;> rfl
theorem rS {n : Nat} {xs : List Int} {k : Nat} (h0 : 0 ≤ gi xs k) (h1 : gi xs k < n) : (wmk n xs k).set (gi xs k).toNat 1 = wmk n xs (k + 1):=by
 refine i5 (by rw [List.length_set,mn]) fun v hv=>?_
 rw [cU (by rw [mn];omega)]
 by_cases e : v = (gi xs k).toNat
 · rw [if_pos e,bZ ⟨k,by omega,by omega⟩];rfl
 · rw [if_neg e,wmk,df _ hv,dP (q:=∃ j,j < k + 1 ∧ gi xs j = (v : Int))]
   constructor
   · rintro ⟨j,a,b⟩;exact ⟨j,by omega,b⟩
   · rintro ⟨j,a,b⟩
     rcases Nat.lt_or_ge j k with h|h
     · exact ⟨j,h,b⟩
     · have : j = k:=by omega
       subst this;omega
theorem tL {g : Pa} (hg : PaOk g) : wmk g.prio.length (fW g (tab g.ar.own.length fun v=>v) 1) (fW g (tab g.ar.own.length fun v=>v) 1).length = bH g:=by
 have hl:=hg.len
 have hm : ∀ v : Nat,(v : Int) ∈ (tab g.ar.own.length fun v=>(v : Int)) ↔ fU g v:=fun v=>by
  constructor
  · intro h
    obtain ⟨k,hk,e⟩:=dc h
    rw [cR] at hk
    rw [df _ hk] at e
    show _ < _
    omega
  · intro h
    have hv : v < g.ar.own.length:=by have : v < g.prio.length:=h;omega
    have : gi (tab g.ar.own.length fun v=>(v : Int)) v = (v : Int):=df _ hv
    rw [← this]
    exact dr (by rw [cR];exact hv)
 have hw:=fun (i : Int) (v : Nat)=>rQ (P:=pgP g) (i:=i) hm v
 have hmem : ∀ v : Nat,v < g.prio.length → ((∃ j,j < (fW g (tab g.ar.own.length fun v=>v) 1).length ∧ gi (fW g (tab g.ar.own.length fun v=>v) 1) j = (v : Int)) ↔ PG.Won (pgP g) 1 (fU g) v):=fun v hv=>by
  constructor
  · rintro ⟨j,a,b⟩
    obtain ⟨u,h1,h2,h3⟩:=dR.1 (dr a)
    have h2' : gi (fW g (tab g.ar.own.length fun v=>v) 1) j = (u : Int):=h2
    have : u = v:=by omega
    subst this
    rw [dY _ h1,gw] at h3
    exact (hw _ _).1 h3
  · intro h
    exact dc (dR.2 ⟨v,hv,rfl,by rw [dY _ hv,gw];exact (hw _ _).2 h⟩)
 refine dl fun v hv=>?_
 rw [dP (hmem v hv),dP (PG.won_not kw (fun v h=>h) (fV hg) (S:=fU g) (v:=v) hv)]
 by_cases h : PG.Won (pgP g) 0 (fU g) v
 · rw [bZ h,aX (fun h'=>h' h)];rfl
 · rw [aX h,bZ h];rfl
theorem fg (g : Pa) (hg : PaOk g) : aG Try.prog 75 [paA g] [.arr 2 .yes (.I (bH g))] (fun ns=>.sl (ns.getD 0 0)):=by
 have hl:=hg.len
 have hle:=hg.ar.le
 have hwi:=pe g hg _ (oq hg)
 have hend:=tL hg
 have hbd : ∀ j,j < (fW g (tab g.ar.own.length fun v=>v) 1).length → 0 ≤ gi (fW g (tab g.ar.own.length fun v=>v) 1) j ∧ gi (fW g (tab g.ar.own.length fun v=>v) 1) j < g.prio.length:=fun j hj=>by
  obtain ⟨u,h1,h2,h3⟩:=dR.1 (dr hj)
  have h2' : gi (fW g (tab g.ar.own.length fun v=>v) 1) j = (u : Int):=h2
  omega
 have hodl : (fW g (tab g.ar.own.length fun v=>v) 1).length ≤ g.prio.length:=fS _ _
 generalize fW g (tab g.ar.own.length fun v=>v) 1 = od at *
 generalize fW g (tab g.ar.own.length fun v=>v) 0 = ev at *
 (refine bT aM Try.func75 rfl rfl (by kernel_rfl) fun hp0 ν hX hN=>?_;simp only [cL,Nat.reduceAdd])
 (repeat' (first|(with_reducible first|(refine hK _ _ ?_;clear hK K)|(refine aa _ ?_;clear aa K)|(refine ab _ _ _ ?_;clear ab K)|(refine ac _ _ ?_;clear ac K)|refine bh ?_|refine b7 ?_|refine a9 ?_|refine aq ?_|refine ap ?_|refine b8 ?_|refine aI ?_|refine ba ?_|refine b9 ?_|refine bc ?_|refine bd rfl ?_|refine bi ?_|refine be ?_|refine ca ?_|refine bf ?_|refine aH ?_|refine n_k ?_|refine bg ?_|(refine ae ?_;clear ae X af Y)|(refine af ?_;clear ae X af Y))|(with_reducible refine bo ?_;first|refine bm rfl ?_|refine bn rfl ?_)|(with_reducible refine aW ?_;first|refine au rfl rfl rfl rfl ?_|refine aK rfl rfl rfl ?_|refine bt rfl rfl rfl rfl ?_)|(with_reducible refine cr ?_;first|refine bR rfl rfl rfl rfl ?_|refine cf rfl rfl rfl ?_|refine cA rfl rfl rfl rfl ?_|refine cB hN (by apply Exists.intro;apply And.intro;(repeat' (first|apply FtI.nil|apply FI.nil|apply FI.cons|apply FtI.cons));kernel_rfl) ?_)|((first|(with_reducible first|refine bp rfl rfl fun K hK=>?_|refine cy rfl rfl fun K ab=>?_|refine br rfl rfl fun K aa=>?_|refine cz rfl rfl fun K ac=>?_|refine aJ fun X Y ae af=>?_|refine aL ?_));simp (disch:=first|decide|omega|(simp only [List.length_cons,List.length_nil];omega)) only [go_sem,beq_self_eq_true,↓aj,↓ak hN,am hN,reduceIte,reduceCtorEq,Nat.reduceAdd,Nat.reduceLT,Nat.reduceLeDiff,Nat.reduceEqDiff,Nat.reduceSub])|(with_reducible refine And.intro (fun h=>?_) (fun h=>?_) <;> try (exfalso;omega))|(with_reducible refine bj aM hN rfl ?_ ?_;kernel_rfl)|(with_reducible refine bS aM hN rfl ?_ ?_ ?_ ?_;(kernel_rfl);(kernel_rfl);(kernel_rfl))|(refine aV (rT g.ar hle) ?_ rfl (fun _=>rfl) ?_)|(refine aV (hwi) ?_ rfl (fun _=>rfl) ?_)|(with_reducible first|exact aF|refine ax ?_ ?_|exact cu _|refine bw ?_|exact a8 _|exact bY _ _|refine bX ?_|exact aY _)|exact bz hN rfl rfl|(refine bW hN rfl ?_;first|exact aN _|exact aO _)|exact aZ rfl rfl rfl|(simp only [bI,List.map_nil])|(with_reducible refine cc ?_)|(with_reducible refine And.intro ?_ ?_)|(refine ah ?_;omega)|(exact bu hN (by decide))))
 (refine ck (fun (k : Nat)=>(tmL [(22,.c (.int .i64 k)),(21,.c (.int .i64 od.length)),(20,.sl (ν 4)),(3,.sl (ν 1))],hpL hp0 ν [.dead,.arr 2 .yes (.I (wmk g.prio.length od k)),.dead,.dead,.arr 2 .yes (.I od)])) (fun (k : Nat)=>k ≤ od.length) (fun (k : Nat)=>od.length - k) ⟨0,?_,bU hX hN [] ?_ ?_⟩ ?_;(repeat' (first|(with_reducible first|exact bL _|exact bM|exact bN|refine bO ?_ ?_|refine bP ?_ ?_|exact ay _|exact bJ _|exact ao _|rfl|exact aR _ _|refine aA ?_|exact bK _|refine aU ?_)|refine bQ rfl ?_ ?_|exact aS hN _ rfl rfl rfl|exact aT hN _ rfl rfl rfl|exact aB hN _ rfl rfl rfl (Or.inr rfl)|(refine aP hN _ rfl rfl (by first|exact Or.inr rfl|exact Or.inl rfl) ?_;first|exact aN _|exact aO _)|refine aC hN rfl ?_|refine aD hN rfl rfl ?_|exact az hN _ rfl rfl|exact aE hN rfl rfl rfl rfl|(with_reducible first|refine aQ ?_|refine bC ?_|refine bE ?_|refine bF ?_|refine bD ?_|refine bB ?_)));(try (any_goals (first|(with_reducible rfl)|(refine ah ?_;omega)))))
 · exact (rR _ _).symm
 intro k hk
 have hb:=hbd k
 have hml:=mn g.prio.length od k
 (repeat' (first|(with_reducible first|(refine hK _ _ ?_;clear hK K)|(refine aa _ ?_;clear aa K)|(refine ab _ _ _ ?_;clear ab K)|(refine ac _ _ ?_;clear ac K)|refine bh ?_|refine b7 ?_|refine a9 ?_|refine aq ?_|refine ap ?_|refine b8 ?_|refine aI ?_|refine ba ?_|refine b9 ?_|refine bc ?_|refine bd rfl ?_|refine bi ?_|refine be ?_|refine ca ?_|refine bf ?_|refine aH ?_|refine n_k ?_|refine bg ?_|(refine ae ?_;clear ae X af Y)|(refine af ?_;clear ae X af Y))|(with_reducible refine bo ?_;first|refine bm rfl ?_|refine bn rfl ?_)|(with_reducible refine aW ?_;first|refine au rfl rfl rfl rfl ?_|refine aK rfl rfl rfl ?_|refine bt rfl rfl rfl rfl ?_)|(with_reducible refine cr ?_;first|refine bR rfl rfl rfl rfl ?_|refine cf rfl rfl rfl ?_|refine cA rfl rfl rfl rfl ?_|refine cB hN (by apply Exists.intro;apply And.intro;(repeat' (first|apply FtI.nil|apply FI.nil|apply FI.cons|apply FtI.cons));kernel_rfl) ?_)|((first|(with_reducible first|refine bp rfl rfl fun K hK=>?_|refine cy rfl rfl fun K ab=>?_|refine br rfl rfl fun K aa=>?_|refine cz rfl rfl fun K ac=>?_|refine aJ fun X Y ae af=>?_|refine aL ?_));simp (disch:=first|decide|omega|(simp only [List.length_cons,List.length_nil];omega)) only [go_sem,beq_self_eq_true,↓aj,↓ak hN,am hN,reduceIte,reduceCtorEq,Nat.reduceAdd,Nat.reduceLT,Nat.reduceLeDiff,Nat.reduceEqDiff,Nat.reduceSub])|(with_reducible refine And.intro (fun h=>?_) (fun h=>?_) <;> try (exfalso;omega))|(with_reducible refine bj aM hN rfl ?_ ?_;kernel_rfl)|(with_reducible refine bS aM hN rfl ?_ ?_ ?_ ?_;(kernel_rfl);(kernel_rfl);(kernel_rfl))|(with_reducible refine And.intro ?_ ?_)|(refine ah ?_;omega)|(exact bu hN (by decide))))
 · (refine ⟨k + 1,⟨?_,?_⟩,bU hX hN [] ?_ ?_⟩;(try any_goals dsimp only);(repeat' (first|(with_reducible first|exact bL _|exact bM|exact bN|refine bO ?_ ?_|refine bP ?_ ?_|exact ay _|exact bJ _|exact ao _|rfl|exact aR _ _|refine aA ?_|exact bK _|refine aU ?_)|refine bQ rfl ?_ ?_|exact aS hN _ rfl rfl rfl|exact aT hN _ rfl rfl rfl|exact aB hN _ rfl rfl rfl (Or.inr rfl)|(refine aP hN _ rfl rfl (by first|exact Or.inr rfl|exact Or.inl rfl) ?_;first|exact aN _|exact aO _)|refine aC hN rfl ?_|refine aD hN rfl rfl ?_|exact az hN _ rfl rfl|exact aE hN rfl rfl rfl rfl|(with_reducible first|refine aQ ?_|refine bC ?_|refine bE ?_|refine bF ?_|refine bD ?_|refine bB ?_)));(try (any_goals (first|(with_reducible rfl)|(refine ah ?_;omega)))))
   exact (rS (hbd k (by omega)).1 (hbd k (by omega)).2).symm
 · (refine dk hN (i:=1) (.inr rfl) (by first|rfl|(simp (disch:=first|decide|omega|(simp only [List.length_cons,List.length_nil];omega)) only [ci,cj,cm,co,go_sem,beq_self_eq_true,↓aj,↓ak hN,am hN,reduceIte,reduceCtorEq,Nat.reduceAdd,Nat.reduceLT,Nat.reduceLeDiff,Nat.reduceEqDiff,Nat.reduceSub];rfl)) rfl ?_ rfl)
   rw [show k = od.length by omega,hend]
theorem pf (g : Pa) (hg : PaOk g) : aG Try.prog 107 [paA g] [.arr 2 .yes (.I (bH g))] (fun ns=>.sl (ns.getD 0 0)):=by
 have hl:=hg.len
 have hle:=hg.ar.le
 have hP : (fun v=>gb (cP g.prio.length fun _=>true) v = true) = fU g:=funext fun v=>propext (by
  rcases Nat.lt_or_ge v g.prio.length with h|h
  · rw [dE _ h];exact ⟨fun _=>h,fun _=>rfl⟩
  · refine ⟨fun h'=>?_,fun h'=>?_⟩
    · have:=fT h';rw [cX] at this;omega
    · have : v < g.prio.length:=h';omega)
 have hw:=tH (eX g) g.prio.length (jT hg) _ (cP g.prio.length fun _=>true) (cX _ _) (Nat.lt_succ_self _) (by rw [hP];exact fV hg)
 rw [hP] at hw
 clear hP
 change aG _ _ _ [.arr _ _ (.B (mks g.prio.length (PG.Won (pgP g) 0 (fU g))))] _ at hw
 have hal:=tD g.prio.length (by omega)
 have hend : (tab g.prio.length fun v=>1 - (if gb (mks g.prio.length (PG.Won (pgP g) 0 (fU g))) v = true then (1 : Int) else 0)) = bH g:=by
  refine dl fun v hv=>?_
  rw [dY _ hv]
  split <;> rfl
 have hwl : (mks g.prio.length (PG.Won (pgP g) 0 (fU g))).length = g.prio.length:=cS _ _
 generalize mks g.prio.length (PG.Won (pgP g) 0 (fU g)) = win at *
 generalize (cP g.prio.length fun _=>true) = al at *
 (refine bT aM Try.func107 rfl rfl (by kernel_rfl) fun hp0 ν hX hN=>?_;simp only [cL,Nat.reduceAdd])
 (repeat' (first|(with_reducible first|(refine hK _ _ ?_;clear hK K)|(refine aa _ ?_;clear aa K)|(refine ab _ _ _ ?_;clear ab K)|(refine ac _ _ ?_;clear ac K)|refine bh ?_|refine b7 ?_|refine a9 ?_|refine aq ?_|refine ap ?_|refine b8 ?_|refine aI ?_|refine ba ?_|refine b9 ?_|refine bc ?_|refine bd rfl ?_|refine bi ?_|refine be ?_|refine ca ?_|refine bf ?_|refine aH ?_|refine n_k ?_|refine bg ?_|(refine ae ?_;clear ae X af Y)|(refine af ?_;clear ae X af Y))|(with_reducible refine bo ?_;first|refine bm rfl ?_|refine bn rfl ?_)|(with_reducible refine aW ?_;first|refine au rfl rfl rfl rfl ?_|refine aK rfl rfl rfl ?_|refine bt rfl rfl rfl rfl ?_)|(with_reducible refine cr ?_;first|refine bR rfl rfl rfl rfl ?_|refine cf rfl rfl rfl ?_|refine cA rfl rfl rfl rfl ?_|refine cB hN (by apply Exists.intro;apply And.intro;(repeat' (first|apply FtI.nil|apply FI.nil|apply FI.cons|apply FtI.cons));kernel_rfl) ?_)|((first|(with_reducible first|refine bp rfl rfl fun K hK=>?_|refine cy rfl rfl fun K ab=>?_|refine br rfl rfl fun K aa=>?_|refine cz rfl rfl fun K ac=>?_|refine aJ fun X Y ae af=>?_|refine aL ?_));simp (disch:=first|decide|omega|(simp only [List.length_cons,List.length_nil];omega)) only [go_sem,beq_self_eq_true,↓aj,↓ak hN,am hN,reduceIte,reduceCtorEq,Nat.reduceAdd,Nat.reduceLT,Nat.reduceLeDiff,Nat.reduceEqDiff,Nat.reduceSub])|(with_reducible refine And.intro (fun h=>?_) (fun h=>?_) <;> try (exfalso;omega))|(with_reducible refine bj aM hN rfl ?_ ?_;kernel_rfl)|(with_reducible refine bS aM hN rfl ?_ ?_ ?_ ?_;(kernel_rfl);(kernel_rfl);(kernel_rfl))|(refine dF (u3 g hg) ?_ rfl rfl ?_)|(refine aV hal ?_ rfl (fun _=>rfl) ?_)|(refine aV hw ?_ rfl (fun _=>rfl) ?_)|(with_reducible first|exact aF|refine ax ?_ ?_|exact cu _|refine bw ?_|exact a8 _|exact bY _ _|refine bX ?_|exact aY _)|exact bz hN rfl rfl|(refine bW hN rfl ?_;first|exact aN _|exact aO _)|exact aZ rfl rfl rfl|(simp only [bI,List.map_nil])|(with_reducible refine cc ?_)|(with_reducible refine And.intro ?_ ?_)|(refine ah ?_;omega)|(exact bu hN (by decide))))
 (refine ck (fun (k : Nat)=>(tmL [(5,.c (.int .i64 k)),(4,.sl (ν 3)),(3,.sl (ν 2))],hpL hp0 ν [.dead,.dead,.arr 4 .yes (.B win),.arr 2 .yes (.I (tab k fun v=>1 - (if gb win v = true then (1 : Int) else 0)))])) (fun (k : Nat)=>k ≤ g.prio.length) (fun (k : Nat)=>g.prio.length - k) ⟨0,?_,bU hX hN [] ?_ ?_⟩ ?_;(repeat' (first|(with_reducible first|exact bL _|exact bM|exact bN|refine bO ?_ ?_|refine bP ?_ ?_|exact ay _|exact bJ _|exact ao _|rfl|exact aR _ _|refine aA ?_|exact bK _|refine aU ?_)|refine bQ rfl ?_ ?_|exact aS hN _ rfl rfl rfl|exact aT hN _ rfl rfl rfl|exact aB hN _ rfl rfl rfl (Or.inr rfl)|(refine aP hN _ rfl rfl (by first|exact Or.inr rfl|exact Or.inl rfl) ?_;first|exact aN _|exact aO _)|refine aC hN rfl ?_|refine aD hN rfl rfl ?_|exact az hN _ rfl rfl|exact aE hN rfl rfl rfl rfl|(with_reducible first|refine aQ ?_|refine bC ?_|refine bE ?_|refine bF ?_|refine bD ?_|refine bB ?_)));(try (any_goals (first|(with_reducible rfl)|(refine ah ?_;omega)))))
 · rfl
 intro k hk
 have hlen:=cR k fun v=>1 - (if gb win v = true then (1 : Int) else 0)
 (repeat' (first|(with_reducible first|(refine hK _ _ ?_;clear hK K)|(refine aa _ ?_;clear aa K)|(refine ab _ _ _ ?_;clear ab K)|(refine ac _ _ ?_;clear ac K)|refine bh ?_|refine b7 ?_|refine a9 ?_|refine aq ?_|refine ap ?_|refine b8 ?_|refine aI ?_|refine ba ?_|refine b9 ?_|refine bc ?_|refine bd rfl ?_|refine bi ?_|refine be ?_|refine ca ?_|refine bf ?_|refine aH ?_|refine n_k ?_|refine bg ?_|(refine ae ?_;clear ae X af Y)|(refine af ?_;clear ae X af Y))|(with_reducible refine bo ?_;first|refine bm rfl ?_|refine bn rfl ?_)|(with_reducible refine aW ?_;first|refine au rfl rfl rfl rfl ?_|refine aK rfl rfl rfl ?_|refine bt rfl rfl rfl rfl ?_)|(with_reducible refine cr ?_;first|refine bR rfl rfl rfl rfl ?_|refine cf rfl rfl rfl ?_|refine cA rfl rfl rfl rfl ?_|refine cB hN (by apply Exists.intro;apply And.intro;(repeat' (first|apply FtI.nil|apply FI.nil|apply FI.cons|apply FtI.cons));kernel_rfl) ?_)|((first|(with_reducible first|refine bp rfl rfl fun K hK=>?_|refine cy rfl rfl fun K ab=>?_|refine br rfl rfl fun K aa=>?_|refine cz rfl rfl fun K ac=>?_|refine aJ fun X Y ae af=>?_|refine aL ?_));simp (disch:=first|decide|omega|(simp only [List.length_cons,List.length_nil];omega)) only [go_sem,beq_self_eq_true,↓aj,↓ak hN,am hN,reduceIte,reduceCtorEq,Nat.reduceAdd,Nat.reduceLT,Nat.reduceLeDiff,Nat.reduceEqDiff,Nat.reduceSub])|(with_reducible refine And.intro (fun h=>?_) (fun h=>?_) <;> try (exfalso;omega))|(with_reducible refine bj aM hN rfl ?_ ?_;kernel_rfl)|(with_reducible refine bS aM hN rfl ?_ ?_ ?_ ?_;(kernel_rfl);(kernel_rfl);(kernel_rfl))|(refine aV (rU ?_) ?_ rfl (fun _=>rfl) ?_)|(with_reducible first|exact aF|refine ax ?_ ?_|exact cu _|refine bw ?_|exact a8 _|exact bY _ _|refine bX ?_|exact aY _)|exact bz hN rfl rfl|(refine bW hN rfl ?_;first|exact aN _|exact aO _)|exact aZ rfl rfl rfl|(simp only [bI,List.map_nil])|(with_reducible refine cc ?_)|(with_reducible refine And.intro ?_ ?_)|(refine ah ?_;omega)|(exact bu hN (by decide))))
 · (refine ⟨k + 1,⟨?_,?_⟩,bU hX hN [(3,5)] ?_ ?_⟩;(try any_goals dsimp only);(repeat' (first|(with_reducible first|exact bL _|exact bM|exact bN|refine bO ?_ ?_|refine bP ?_ ?_|exact ay _|exact bJ _|exact ao _|rfl|exact aR _ _|refine aA ?_|exact bK _|refine aU ?_)|refine bQ rfl ?_ ?_|exact aS hN _ rfl rfl rfl|exact aT hN _ rfl rfl rfl|exact aB hN _ rfl rfl rfl (Or.inr rfl)|(refine aP hN _ rfl rfl (by first|exact Or.inr rfl|exact Or.inl rfl) ?_;first|exact aN _|exact aO _)|refine aC hN rfl ?_|refine aD hN rfl rfl ?_|exact az hN _ rfl rfl|exact aE hN rfl rfl rfl rfl|(with_reducible first|refine aQ ?_|refine bC ?_|refine bE ?_|refine bF ?_|refine bD ?_|refine bB ?_)));(try (any_goals (first|(with_reducible rfl)|(refine ah ?_;omega)))))
   exact gG k fun v=>1 - (if gb win v = true then (1 : Int) else 0)
 · (refine dk hN (i:=3) (.inr rfl) (by first|rfl|(simp (disch:=first|decide|omega|(simp only [List.length_cons,List.length_nil];omega)) only [ci,cj,cm,co,go_sem,beq_self_eq_true,↓aj,↓ak hN,am hN,reduceIte,reduceCtorEq,Nat.reduceAdd,Nat.reduceLT,Nat.reduceLeDiff,Nat.reduceEqDiff,Nat.reduceSub];rfl)) rfl ?_ rfl)
   rw [show k = g.prio.length by omega,hend]
theorem dN (g : Pa) : (bH g).length = g.prio.length:=cR _ _
theorem mo {g : Pa} (hg : PaOk g) : (bH g).length ≤ 1048576:=by
 have h1:=hg.ar.le
 have h2:=hg.len
 rw [dN];omega
end Go.Proofs.Ytfaefmabjjndeaa
