/-
  PlanFrom and Solved: the reference's side (the contract of l7Of with its own pick list is a premise still).
-/
import Derived.Test.YtfaefmabjjndeaaZeE19
namespace Go.Proofs.Ytfaefmabjjndeaa
set_option linter.unusedVariables false
set_option linter.unusedSimpArgs false
open Go.RowKit
attribute [local irreducible] aL cQ Aw Le
def gmP (g : Pa) (P : List Int) : Gm:=⟨(dL g).own,(dL g).prio,(dL g).nxt,(dL g).prev,P⟩
theorem wb {g : Pa} (hg : PaOk g) {P : List Int} (h : P.length = g.prio.length) : GmOk (gmP g P) g.prio.length:=by
 obtain ⟨a,b,c,d,e,f,h1,h2,h3,h4,h5,h6,h7⟩:=iV hg
 exact ⟨a,b,c,d,e,h,h1,h2,h3,h4,h5,h6,h7⟩
theorem xo {A B : PG.Gm} (h1 : A.own = B.own) (h2 : A.prio = B.prio) (h3 : A.E = B.E) : A = B:=by
 cases A;cases B
 simp only at h1 h2 h3
 subst h1;subst h2;subst h3
 rfl
theorem mQ {g : Pa} (hg : PaOk g) {P : List Int} (h : ec g P) : cI (gmP g P) g.prio.length = pgP (dj g P):=by
 refine xo rfl rfl (funext fun v=>funext fun u=>propext ?_)
 rw [fK]
 show v < _ ∧ u < _ ∧ edg (gmP g P) v u = true ∧ (∃ t,t < (gr g.ar.nxt v).length ∧ gi (gr g.ar.nxt v) t = (u : Int)) ↔ v < g.prio.length ∧ u < g.prio.length ∧ _
 refine and_congr_right fun hv=>and_congr_right fun hu=>?_
 have hl:=hg.len
 rw [show gr (dj g P).ar.nxt v = cS g.ar.nxt P v from dM _ (by omega)]
 have he : edg (gmP g P) v u = true ↔ gi P v < 0 ∨ gi P v = (u : Int):=by
  simp only [edg,gmP,Bool.or_eq_true,beq_iff_eq,Int.toNat_natCast]
  exact or_congr_left ⟨fun h=>of_decide_eq_true h,fun h=>decide_eq_true h⟩
 rw [he]
 unfold cS
 split
 · rename_i h0
   constructor
   · rintro ⟨h1|h1,_⟩
     · omega
     · exact ⟨0,by simp,h1⟩
   · rintro ⟨t,ht,e⟩
     have : t = 0:=by simpa using ht
     subst this
     have e' : gi P v = (u : Int):=e
     refine ⟨.inr e',?_⟩
     rcases h.2 v (by have:=h.1;omega) with e2|e2
     · omega
     · obtain ⟨t,ht,e3⟩:=cX e2
       exact ⟨t,ht,e3.trans e'⟩
 · exact ⟨fun x=>x.2,fun x=>⟨.inl (by omega),x⟩⟩
def gn (W : List Int) (i : Int) : List Bool:=cO W.length fun v=>gi W v == i
theorem kF (W : List Int) (i : Int) : (gn W i).length = W.length:=cU _ _
theorem i6 {W : List Int} {i : Int} {v : Nat} : gb (gn W i) v = true ↔ (v : Int) ∈ atL W i:=by
 rw [i4]
 constructor
 · intro h
   have hv : v < W.length:=by have:=e9 h;rwa [kF] at this
   rw [gn,dn _ hv] at h
   exact ⟨v,hv,rfl,by simpa using h⟩
 · rintro ⟨u,h1,h2,h3⟩
   have : u = v:=by omega
   subst this
   rw [gn,dn _ h1,h3];simp
theorem rt {g : Pa} (hg : PaOk g) {P : List Int} (h : PickOk g P) {i : Int} (hi : i = 0 ∨ i = 1) : (∀ v,gb (gn (bT g) i) v = true → (PG.Won (cI (gmP g P) g.prio.length) 0 (fun v=>gb (gn (bT g) i) v = true) v ↔ i = 0)) ↔ gP g (bT g) i P:=by
 rw [mQ hg h.pk,show (fun v=>gb (gn (bT g) i) v = true) = fun v : Nat=>(v : Int) ∈ atL (bT g) i from funext fun v=>propext i6]
 have ht:=gO (dO hg h.pk) (gR hg h i)
 have hS : ∀ v : Nat,(v : Int) ∈ atL (bT g) i → v < (dj g P).prio.length:=fun v hv=>(ew.1 hv).1
 unfold gP
 refine forall_congr' fun v=>?_
 rw [i6]
 refine imp_congr_right fun hv=>?_
 have hn:=iY (P:=pgP (dj g P)) jF hS ht (i:=0) (.inl rfl) v
 rcases hi with e|e <;> subst e
 · exact ⟨fun h=>h.2 rfl,fun h=>⟨fun _=>rfl,fun _=>h⟩⟩
 · exact ⟨fun h=>hn.2 ⟨hv,fun h'=>absurd (h.1 h') (by omega)⟩,fun h=>⟨fun h'=>absurd h' (hn.1 h).2,fun h'=>absurd h' (by omega)⟩⟩
def jI (W us P : List Int) (v : Nat) : Nat → Int
 | 0 => gi P v
 | t + 1 => if gi W (gi us t).toNat = gi W v then gi us t else jI W us P v t
noncomputable def uK (g : Pa) (W P : List Int) (v : Nat) : Int:=if eQ g W v P (gr g.ar.nxt v) = -1 then jI W (gr g.ar.nxt v) P v (gr g.ar.nxt v).length else eQ g W v P (gr g.ar.nxt v)
theorem kG (W : List Int) (i : Int) (hl : W.length ≤ 1048576) : aL Try.prog 157 [.c (.I W),.c (.int .i64 i)] [.arr 4 .yes (.B (gn W i))] (fun ns=>.sl (ns.getD 0 0)):=by
 (refine bK aK Try.func157 rfl rfl (by kernel_rfl) fun hp0 ν hX hN=>?_;simp only [cG,Nat.reduceAdd])
 (repeat' (first|(with_reducible first|(refine hK _ _ ?_;clear hK K)|(refine aa _ ?_;clear aa K)|refine bh ?_|refine bX ?_|refine a9 ?_|refine aq ?_|refine ap ?_|refine bY ?_|refine aG ?_|refine ba ?_|refine bZ ?_|refine bc ?_|refine bd rfl ?_|refine bi ?_|refine be ?_|refine b7 ?_|refine bf ?_|refine aF ?_|refine n_k ?_|refine bg ?_|(refine ae ?_;clear ae X af Y)|(refine af ?_;clear ae X af Y))|(with_reducible refine bo ?_;first|refine bm rfl ?_|refine bn rfl ?_)|(with_reducible refine aQ ?_;first|refine au rfl rfl rfl rfl ?_|refine aI rfl rfl rfl ?_|refine bt rfl rfl rfl rfl ?_)|((first|(with_reducible first|refine bp rfl rfl fun K hK=>?_|refine br rfl rfl fun K aa=>?_|refine aH fun X Y ae af=>?_|refine aJ ?_));simp (disch:=first|decide|omega|(simp only [List.length_cons,List.length_nil];omega)) only [go_sem,beq_self_eq_true,↓aj,↓ak hN,am hN,reduceIte,reduceCtorEq,Nat.reduceAdd,Nat.reduceLT,Nat.reduceLeDiff,Nat.reduceEqDiff,Nat.reduceSub])|(with_reducible refine And.intro (fun h=>?_) (fun h=>?_) <;> try (exfalso;omega))|(with_reducible refine bj aK hN rfl ?_ ?_;kernel_rfl)|(with_reducible refine And.intro ?_ ?_)|(refine ah ?_;omega)|(exact bu hN (by decide))))
 (refine cj (fun (k : Nat)=>(tmL [(6,.c (.int .i64 k)),(5,.sl (ν 0)),(0,.c (.I W)),(1,.c (.int .i64 i))],hpL hp0 ν [.arr 4 .yes (.B (cO W.length fun v=>if v < k then gi W v == i else false))])) (fun (k : Nat)=>k ≤ W.length) (fun (k : Nat)=>W.length - k) ⟨0,?_,bU hX hN [] ?_ ?_⟩ ?_;(repeat' (first|(with_reducible first|exact bN _|exact bO|exact bP|refine bQ ?_ ?_|refine bR ?_ ?_|exact ay _|exact bL _|exact an _|rfl|exact aS _ _|refine aA ?_|exact bM _|refine aV ?_)|refine bS rfl ?_ ?_|exact aT hN _ rfl rfl rfl|exact aU hN _ rfl rfl rfl|exact aB hN _ rfl rfl rfl (Or.inr rfl)|(refine aP hN _ rfl rfl (by first|exact Or.inr rfl|exact Or.inl rfl) ?_;first|exact aM _|exact aN _)|refine aC hN rfl ?_|refine aD hN rfl rfl ?_|exact az hN _ rfl rfl|exact aE hN rfl rfl rfl rfl|(with_reducible first|refine aR ?_|refine bA ?_|refine bC ?_|refine bD ?_|refine bB ?_|refine bz ?_)));(try (any_goals (first|(with_reducible rfl)|(refine ah ?_;omega)))))
 · exact dF _ _
 intro k hk
 have htl:=cU W.length fun v=>if v < k then gi W v == i else false
 (repeat' (first|(with_reducible first|(refine hK _ _ ?_;clear hK K)|(refine aa _ ?_;clear aa K)|refine bh ?_|refine bX ?_|refine a9 ?_|refine aq ?_|refine ap ?_|refine bY ?_|refine aG ?_|refine ba ?_|refine bZ ?_|refine bc ?_|refine bd rfl ?_|refine bi ?_|refine be ?_|refine b7 ?_|refine bf ?_|refine aF ?_|refine n_k ?_|refine bg ?_|(refine ae ?_;clear ae X af Y)|(refine af ?_;clear ae X af Y))|(with_reducible refine bo ?_;first|refine bm rfl ?_|refine bn rfl ?_)|(with_reducible refine aQ ?_;first|refine au rfl rfl rfl rfl ?_|refine aI rfl rfl rfl ?_|refine bt rfl rfl rfl rfl ?_)|((first|(with_reducible first|refine bp rfl rfl fun K hK=>?_|refine br rfl rfl fun K aa=>?_|refine aH fun X Y ae af=>?_|refine aJ ?_));simp (disch:=first|decide|omega|(simp only [List.length_cons,List.length_nil];omega)) only [go_sem,beq_self_eq_true,↓aj,↓ak hN,am hN,reduceIte,reduceCtorEq,Nat.reduceAdd,Nat.reduceLT,Nat.reduceLeDiff,Nat.reduceEqDiff,Nat.reduceSub])|(with_reducible refine And.intro (fun h=>?_) (fun h=>?_) <;> try (exfalso;omega))|(with_reducible refine bj aK hN rfl ?_ ?_;kernel_rfl)|(with_reducible refine And.intro ?_ ?_)|(refine ah ?_;omega)|(exact bu hN (by decide))))
 · (refine ⟨k + 1,⟨?_,?_⟩,bU hX hN [] ?_ ?_⟩;(try any_goals dsimp only);(repeat' (first|(with_reducible first|exact bN _|exact bO|exact bP|refine bQ ?_ ?_|refine bR ?_ ?_|exact ay _|exact bL _|exact an _|rfl|exact aS _ _|refine aA ?_|exact bM _|refine aV ?_)|refine bS rfl ?_ ?_|exact aT hN _ rfl rfl rfl|exact aU hN _ rfl rfl rfl|exact aB hN _ rfl rfl rfl (Or.inr rfl)|(refine aP hN _ rfl rfl (by first|exact Or.inr rfl|exact Or.inl rfl) ?_;first|exact aM _|exact aN _)|refine aC hN rfl ?_|refine aD hN rfl rfl ?_|exact az hN _ rfl rfl|exact aE hN rfl rfl rfl rfl|(with_reducible first|refine aR ?_|refine bA ?_|refine bC ?_|refine bD ?_|refine bB ?_|refine bz ?_)));(try (any_goals (first|(with_reducible rfl)|(refine ah ?_;omega)))))
   exact eE (by omega) rfl
 · (refine cV hN (i:=0) (.inr rfl) (by first|rfl|(simp (disch:=first|decide|omega|(simp only [List.length_cons,List.length_nil];omega)) only [ci,cu,cw,cx,go_sem,beq_self_eq_true,↓aj,↓ak hN,am hN,reduceIte,reduceCtorEq,Nat.reduceAdd,Nat.reduceLT,Nat.reduceLeDiff,Nat.reduceEqDiff,Nat.reduceSub];rfl)) rfl ?_ rfl)
   exact congrArg C.B (dS (by omega))
theorem tw (n : Nat) (hl : n ≤ 1048576) : aL Try.prog 92 [.c (.int .i64 n)] [.arr 2 .yes (.I (noP n))] (fun ns=>.sl (ns.getD 0 0)):=by
 (refine bK aK Try.func92 rfl rfl (by kernel_rfl) fun hp0 ν hX hN=>?_;simp only [cG,Nat.reduceAdd])
 (repeat' (first|(with_reducible first|(refine hK _ _ ?_;clear hK K)|(refine aa _ ?_;clear aa K)|refine bh ?_|refine bX ?_|refine a9 ?_|refine aq ?_|refine ap ?_|refine bY ?_|refine aG ?_|refine ba ?_|refine bZ ?_|refine bc ?_|refine bd rfl ?_|refine bi ?_|refine be ?_|refine b7 ?_|refine bf ?_|refine aF ?_|refine n_k ?_|refine bg ?_|(refine ae ?_;clear ae X af Y)|(refine af ?_;clear ae X af Y))|(with_reducible refine bo ?_;first|refine bm rfl ?_|refine bn rfl ?_)|(with_reducible refine aQ ?_;first|refine au rfl rfl rfl rfl ?_|refine aI rfl rfl rfl ?_|refine bt rfl rfl rfl rfl ?_)|((first|(with_reducible first|refine bp rfl rfl fun K hK=>?_|refine br rfl rfl fun K aa=>?_|refine aH fun X Y ae af=>?_|refine aJ ?_));simp (disch:=first|decide|omega|(simp only [List.length_cons,List.length_nil];omega)) only [go_sem,beq_self_eq_true,↓aj,↓ak hN,am hN,reduceIte,reduceCtorEq,Nat.reduceAdd,Nat.reduceLT,Nat.reduceLeDiff,Nat.reduceEqDiff,Nat.reduceSub])|(with_reducible refine And.intro (fun h=>?_) (fun h=>?_) <;> try (exfalso;omega))|(with_reducible refine bj aK hN rfl ?_ ?_;kernel_rfl)|(with_reducible refine And.intro ?_ ?_)|(refine ah ?_;omega)|(exact bu hN (by decide))))
 (refine cj (fun (k : Nat)=>(tmL [(4,.c (.int .i64 k)),(3,.sl (ν 0)),(0,.c (.int .i64 n))],hpL hp0 ν [.arr 2 .yes (.I (noP k))])) (fun (k : Nat)=>k ≤ n) (fun (k : Nat)=>n - k) ⟨0,?_,bU hX hN [] ?_ ?_⟩ ?_;(repeat' (first|(with_reducible first|exact bN _|exact bO|exact bP|refine bQ ?_ ?_|refine bR ?_ ?_|exact ay _|exact bL _|exact an _|rfl|exact aS _ _|refine aA ?_|exact bM _|refine aV ?_)|refine bS rfl ?_ ?_|exact aT hN _ rfl rfl rfl|exact aU hN _ rfl rfl rfl|exact aB hN _ rfl rfl rfl (Or.inr rfl)|(refine aP hN _ rfl rfl (by first|exact Or.inr rfl|exact Or.inl rfl) ?_;first|exact aM _|exact aN _)|refine aC hN rfl ?_|refine aD hN rfl rfl ?_|exact az hN _ rfl rfl|exact aE hN rfl rfl rfl rfl|(with_reducible first|refine aR ?_|refine bA ?_|refine bC ?_|refine bD ?_|refine bB ?_|refine bz ?_)));(try (any_goals (first|(with_reducible rfl)|(refine ah ?_;omega)))))
 · rfl
 intro k hk
 have htl:=cP k fun _=>(-1 : Int)
 have hsu : noP (k + 1) = noP k ++ [-1]:=fk k fun _=>(-1 : Int)
 have hnl : (noP k).length = k:=cP _ _
 (repeat' (first|(with_reducible first|(refine hK _ _ ?_;clear hK K)|(refine aa _ ?_;clear aa K)|refine bh ?_|refine bX ?_|refine a9 ?_|refine aq ?_|refine ap ?_|refine bY ?_|refine aG ?_|refine ba ?_|refine bZ ?_|refine bc ?_|refine bd rfl ?_|refine bi ?_|refine be ?_|refine b7 ?_|refine bf ?_|refine aF ?_|refine n_k ?_|refine bg ?_|(refine ae ?_;clear ae X af Y)|(refine af ?_;clear ae X af Y))|(with_reducible refine bo ?_;first|refine bm rfl ?_|refine bn rfl ?_)|(with_reducible refine aQ ?_;first|refine au rfl rfl rfl rfl ?_|refine aI rfl rfl rfl ?_|refine bt rfl rfl rfl rfl ?_)|((first|(with_reducible first|refine bp rfl rfl fun K hK=>?_|refine br rfl rfl fun K aa=>?_|refine aH fun X Y ae af=>?_|refine aJ ?_));simp (disch:=first|decide|omega|(simp only [List.length_cons,List.length_nil];omega)) only [go_sem,beq_self_eq_true,↓aj,↓ak hN,am hN,reduceIte,reduceCtorEq,Nat.reduceAdd,Nat.reduceLT,Nat.reduceLeDiff,Nat.reduceEqDiff,Nat.reduceSub])|(with_reducible refine And.intro (fun h=>?_) (fun h=>?_) <;> try (exfalso;omega))|(with_reducible refine bj aK hN rfl ?_ ?_;kernel_rfl)|(with_reducible refine And.intro ?_ ?_)|(refine ah ?_;omega)|(exact bu hN (by decide))))
 · (refine ⟨k + 1,⟨?_,?_⟩,bU hX hN [(0,2)] ?_ ?_⟩;(try any_goals dsimp only);(repeat' (first|(with_reducible first|exact bN _|exact bO|exact bP|refine bQ ?_ ?_|refine bR ?_ ?_|exact ay _|exact bL _|exact an _|rfl|exact aS _ _|refine aA ?_|exact bM _|refine aV ?_)|refine bS rfl ?_ ?_|exact aT hN _ rfl rfl rfl|exact aU hN _ rfl rfl rfl|exact aB hN _ rfl rfl rfl (Or.inr rfl)|(refine aP hN _ rfl rfl (by first|exact Or.inr rfl|exact Or.inl rfl) ?_;first|exact aM _|exact aN _)|refine aC hN rfl ?_|refine aD hN rfl rfl ?_|exact az hN _ rfl rfl|exact aE hN rfl rfl rfl rfl|(with_reducible first|refine aR ?_|refine bA ?_|refine bC ?_|refine bD ?_|refine bB ?_|refine bz ?_)));(try (any_goals (first|(with_reducible rfl)|(refine ah ?_;omega)))))
   all_goals rw [hsu]
 · (refine cV hN (i:=0) (.inr rfl) (by first|rfl|(simp (disch:=first|decide|omega|(simp only [List.length_cons,List.length_nil];omega)) only [ci,cu,cw,cx,go_sem,beq_self_eq_true,↓aj,↓ak hN,am hN,reduceIte,reduceCtorEq,Nat.reduceAdd,Nat.reduceLT,Nat.reduceLeDiff,Nat.reduceEqDiff,Nat.reduceSub];rfl)) rfl ?_ rfl)
   rw [show k = n by omega]
theorem kH {g : Pa} {i x : Int} (h : gb (gn (bT g) i) x.toNat = true) : gi (bT g) x.toNat = i:=(ew.1 (i6.1 h)).2
theorem wc {g : Pa} {i x : Int} (hx : x.toNat < g.prio.length) (h : gb (gn (bT g) i) x.toNat = false) : ¬ gi (bT g) x.toNat = i:=fun e=>by
 rw [i6.2 (ew.2 ⟨hx,e⟩)] at h
 exact absurd h (by decide)
theorem tx {g : Pa} (hg : PaOk g) {P : List Int} (h : PickOk g P) {k t : Nat} {x : Int} (hk : k < g.prio.length) (ho : gi g.ar.own k = gi (bT g) k) (ht : t < (gr g.ar.nxt k).length) (hw : gi (bT g) (gi (gr g.ar.nxt k) t).toNat = gi (bT g) k) : PickOk g ((P.set k x).set k (gi (gr g.ar.nxt k) t)):=by
 rw [List.set_set];exact nX hg h hk ho ht hw
theorem uL (g : Pa) (hg : PaOk g) (P : List Int) (h : PickOk g P) (v : Nat) (hv : v < g.prio.length) (ho : gi g.ar.own v = gi (bT g) v) : aL Try.prog 203 [.agg [.c (.I g.ar.own),.c (.I g.prio),.c (.R g.ar.nxt),.c (.R (dL g).prev),.c (.I P)],.c (.B (gn (bT g) (gi (bT g) v))),.c (.int .i64 (gi g.ar.own v))] [] (fun _=>.c (.bool (tf (gP g (bT g) (gi (bT g) v) P)))):=by
 have hgo:=rt hg h (hZ hv)
 have ht : PG.Total (cI (gmP g P) g.prio.length) (fun u=>gb (gn (bT g) (gi (bT g) v)) u = true):=by
  rw [mQ hg h.pk,show (fun u=>gb (gn (bT g) (gi (bT g) v)) u = true) = fun u : Nat=>(u : Int) ∈ atL (bT g) (gi (bT g) v) from funext fun v=>propext i6]
  exact gO (dO hg h.pk) (gR hg h _)
 have:=rp (gmP g P) g.prio.length (wb hg h.pk.1) (gn (bT g) (gi (bT g) v)) ((kF _ _).trans (eb g)) (gi (bT g) v) ht
 rw [dY hgo] at this
 rw [ho]
 exact this
set_option maxHeartbeats 1000000 in
theorem ru (g : Pa) (hg : PaOk g) (P : List Int) (hP : PickOk g P) (v : Nat) (hv : v < g.prio.length) (ho : gi g.ar.own v = gi (bT g) v) : fx Try.prog 158 (fun ν=>[.agg [.c (.I g.ar.own),.c (.I g.prio),.c (.R g.ar.nxt),.c (.R (dL g).prev),.sl (ν 0)],.c (.B (gn (bT g) (gi (bT g) v))),.c (.int .i64 v)]) [.arr 2 .yes (.I P)] [.arr 2 .yes (.I (P.set v (uK g (bT g) P v)))] [] (fun _=>.c (.int .i64 (eQ g (bT g) v P (gr g.ar.nxt v)))):=by
 have hl:=hg.len
 have hle:=hg.ar.le
 have hln:=hg.ar.len
 have hPl:=hP.pk.1
 have hrl:=(hg.ar.vert v (by omega)).2.2.2.1
 have hRl:=(kF (bT g) (gi (bT g) v)).trans (eb g)
 have hnx:=fun t (ht : t < (gr g.ar.nxt v).length)=>ee hg hv ht
 (refine iy aK Try.func158 rfl rfl (fun _=>by kernel_rfl) rfl rfl rfl rfl (by first|exact mG _|exact kr (j:=0) (by simp) (by simp [Ent.kind])|exact kt (j:=0) (by simp) (by simp [Ent.kind])|exact iw rfl|exact jn|exact mH _) fun hp0 ν hX hN=>?_;simp only [cG,Nat.reduceAdd])
 (repeat' (first|(with_reducible first|(refine hK _ _ ?_;clear hK K)|(refine aa _ ?_;clear aa K)|(refine ab _ _ _ ?_;clear ab K)|(refine ac _ _ ?_;clear ac K)|refine bh ?_|refine bX ?_|refine a9 ?_|refine aq ?_|refine ap ?_|refine bY ?_|refine aG ?_|refine ba ?_|refine bZ ?_|refine bc ?_|refine bd rfl ?_|refine bi ?_|refine be ?_|refine b7 ?_|refine bf ?_|refine aF ?_|refine n_k ?_|refine bg ?_|(refine ae ?_;clear ae X af Y)|(refine af ?_;clear ae X af Y))|(with_reducible refine bo ?_;first|refine bm rfl ?_|refine bn rfl ?_)|(with_reducible refine aQ ?_;first|refine au rfl rfl rfl rfl ?_|refine aI rfl rfl rfl ?_|refine bt rfl rfl rfl rfl ?_)|(with_reducible refine ce ?_;first|refine bE rfl rfl rfl rfl ?_|refine b9 rfl rfl rfl ?_|refine cn rfl rfl rfl rfl ?_|refine co hN (by apply Exists.intro;apply And.intro;(repeat' (first|apply FtI.nil|apply FI.nil|apply FI.cons|apply FtI.cons));kernel_rfl) ?_)|((first|(with_reducible first|refine bp rfl rfl fun K hK=>?_|refine ck rfl rfl fun K ab=>?_|refine br rfl rfl fun K aa=>?_|refine cm rfl rfl fun K ac=>?_|refine aH fun X Y ae af=>?_|refine aJ ?_));simp (disch:=first|decide|omega|(simp only [List.length_cons,List.length_nil];omega)) only [go_sem,beq_self_eq_true,↓aj,↓ak hN,am hN,reduceIte,reduceCtorEq,Nat.reduceAdd,Nat.reduceLT,Nat.reduceLeDiff,Nat.reduceEqDiff,Nat.reduceSub])|(with_reducible refine And.intro (fun h=>?_) (fun h=>?_) <;> try (exfalso;omega))|(with_reducible refine bj aK hN rfl ?_ ?_;kernel_rfl)|(with_reducible refine bF aK hN rfl ?_ ?_ ?_ ?_;(kernel_rfl);(kernel_rfl);(kernel_rfl))|(with_reducible refine And.intro ?_ ?_)|(refine ah ?_;omega)|(exact bu hN (by decide))))
 (refine cj (fun (t : Nat)=>(tmL [(7,.c (.int .i64 t)),(3,.ad (ν 1) 0),(1,.c (.B (gn (bT g) (gi (bT g) v)))),(2,.c (.int .i64 v))],hpL hp0 ν [.arr 2 .yes (.I (P.set v (jI (bT g) (gr g.ar.nxt v) P v t))),.box [.c (.I g.ar.own),.c (.I g.prio),.c (.R g.ar.nxt),.c (.R (dL g).prev),.sl (ν 0)]])) (fun (t : Nat)=>t ≤ (gr g.ar.nxt v).length ∧ eQ g (bT g) v P (gr g.ar.nxt v) = eQ g (bT g) v P ((gr g.ar.nxt v).drop t)) (fun (t : Nat)=>(gr g.ar.nxt v).length - t) ⟨0,?_,bU hX hN [] ?_ ?_⟩ ?_;(repeat' (first|(with_reducible first|exact bN _|exact bO|exact bP|refine bQ ?_ ?_|refine bR ?_ ?_|exact ay _|exact bL _|exact an _|rfl|exact aS _ _|refine aA ?_|exact bM _|refine aV ?_)|refine bS rfl ?_ ?_|exact aT hN _ rfl rfl rfl|exact aU hN _ rfl rfl rfl|exact aB hN _ rfl rfl rfl (Or.inr rfl)|(refine aP hN _ rfl rfl (by first|exact Or.inr rfl|exact Or.inl rfl) ?_;first|exact aM _|exact aN _)|refine aC hN rfl ?_|refine aD hN rfl rfl ?_|exact az hN _ rfl rfl|exact aE hN rfl rfl rfl rfl|(with_reducible first|refine aR ?_|refine bA ?_|refine bC ?_|refine bD ?_|refine bB ?_|refine bz ?_)));(try (any_goals (first|(with_reducible rfl)|(refine ah ?_;omega)))))
 · exact ⟨Nat.zero_le _,rfl⟩
 · exact pa rfl
 rintro t ⟨ht,hin⟩
 have hnt:=hnx t
 (repeat' (first|(with_reducible first|(refine hK _ _ ?_;clear hK K)|(refine aa _ ?_;clear aa K)|(refine ab _ _ _ ?_;clear ab K)|(refine ac _ _ ?_;clear ac K)|refine bh ?_|refine bX ?_|refine a9 ?_|refine aq ?_|refine ap ?_|refine bY ?_|refine aG ?_|refine ba ?_|refine bZ ?_|refine bc ?_|refine bd rfl ?_|refine bi ?_|refine be ?_|refine b7 ?_|refine bf ?_|refine aF ?_|refine n_k ?_|refine bg ?_|(refine ae ?_;clear ae X af Y)|(refine af ?_;clear ae X af Y))|(with_reducible refine bo ?_;first|refine bm rfl ?_|refine bn rfl ?_)|(with_reducible refine aQ ?_;first|refine au rfl rfl rfl rfl ?_|refine aI rfl rfl rfl ?_|refine bt rfl rfl rfl rfl ?_)|(with_reducible refine ce ?_;first|refine bE rfl rfl rfl rfl ?_|refine b9 rfl rfl rfl ?_|refine cn rfl rfl rfl rfl ?_|refine co hN (by apply Exists.intro;apply And.intro;(repeat' (first|apply FtI.nil|apply FI.nil|apply FI.cons|apply FtI.cons));kernel_rfl) ?_)|((first|(with_reducible first|refine bp rfl rfl fun K hK=>?_|refine ck rfl rfl fun K ab=>?_|refine br rfl rfl fun K aa=>?_|refine cm rfl rfl fun K ac=>?_|refine aH fun X Y ae af=>?_|refine aJ ?_));simp (disch:=first|decide|omega|(simp only [List.length_cons,List.length_nil];omega)) only [go_sem,beq_self_eq_true,↓aj,↓ak hN,am hN,reduceIte,reduceCtorEq,Nat.reduceAdd,Nat.reduceLT,Nat.reduceLeDiff,Nat.reduceEqDiff,Nat.reduceSub])|(with_reducible refine And.intro (fun h=>?_) (fun h=>?_) <;> try (exfalso;omega))|(with_reducible refine bj aK hN rfl ?_ ?_;kernel_rfl)|(with_reducible refine bF aK hN rfl ?_ ?_ ?_ ?_;(kernel_rfl);(kernel_rfl);(kernel_rfl))|(refine aO (uL g hg ((P.set v (jI (bT g) (gr g.ar.nxt v) P v t)).set v (gi (gr g.ar.nxt v) t)) (tx hg hP hv ho (by omega) (kH (by assumption))) v hv ho) ?_ rfl (fun _=>rfl) ?_;focus ((repeat' (first|(with_reducible first|exact ax|refine ao ?_ ?_|exact cg _|refine bv ?_|exact a8 _|exact bJ _ _|refine bI ?_|exact aY _)|exact bw hN rfl rfl|(refine bG hN rfl ?_;first|exact aM _|exact aN _)|exact aZ rfl rfl rfl));done))|(with_reducible first|exact ax|refine ao ?_ ?_|exact cg _|refine bv ?_|exact a8 _|exact bJ _ _|refine bI ?_|exact aY _)|exact bw hN rfl rfl|(refine bG hN rfl ?_;first|exact aM _|exact aN _)|exact aZ rfl rfl rfl|(simp only [bW,List.map_nil])|(with_reducible refine b8 ?_)|(with_reducible refine And.intro ?_ ?_)|(refine ah ?_;omega)|(exact bu hN (by decide))))
 · have hno:=wc (g:=g) (i:=gi (bT g) v) (x:=gi (gr g.ar.nxt v) t) (by omega) (by assumption)
   (refine ⟨t + 1,⟨?_,?_⟩,bU hX hN [] ?_ ?_⟩;(try any_goals dsimp only);(repeat' (first|(with_reducible first|exact bN _|exact bO|exact bP|refine bQ ?_ ?_|refine bR ?_ ?_|exact ay _|exact bL _|exact an _|rfl|exact aS _ _|refine aA ?_|exact bM _|refine aV ?_)|refine bS rfl ?_ ?_|exact aT hN _ rfl rfl rfl|exact aU hN _ rfl rfl rfl|exact aB hN _ rfl rfl rfl (Or.inr rfl)|(refine aP hN _ rfl rfl (by first|exact Or.inr rfl|exact Or.inl rfl) ?_;first|exact aM _|exact aN _)|refine aC hN rfl ?_|refine aD hN rfl rfl ?_|exact az hN _ rfl rfl|exact aE hN rfl rfl rfl rfl|(with_reducible first|refine aR ?_|refine bA ?_|refine bC ?_|refine bD ?_|refine bB ?_|refine bz ?_)));(try (any_goals (first|(with_reducible rfl)|(refine ah ?_;omega)))))
   · exact ⟨by omega,hin.trans (fi (by omega) fun e=>hno e.1)⟩
   · rw [jI,if_neg hno]
 · have hyes:=kH (g:=g) (x:=gi (gr g.ar.nxt v) t) (by assumption)
   have hgd : gP g (bT g) (gi (bT g) v) (P.set v (gi (gr g.ar.nxt v) t)):=by
    rw [← List.set_set (a:=jI (bT g) (gr g.ar.nxt v) P v t)];assumption
   have hu:=hin.trans (kD (by omega) ⟨hyes,hgd⟩)
   (refine ⟨.inr rfl,_,(by first|exact cL rfl rfl|exact cF hN rfl rfl rfl rfl|exact cy hN rfl rfl rfl rfl rfl|(simp (disch:=first|decide|omega|(simp only [List.length_cons,List.length_nil];omega)) only [ci,cu,cw,cx,go_sem,beq_self_eq_true,↓aj,↓ak hN,am hN,reduceIte,reduceCtorEq,Nat.reduceAdd,Nat.reduceLT,Nat.reduceLeDiff,Nat.reduceEqDiff,Nat.reduceSub];rfl)|rfl),[],_,rfl,?_,rfl,?_⟩;(all_goals try simp only [List.drop,List.take,List.cons_append,List.nil_append,nmL,List.length_cons,List.length_nil,Nat.reduceAdd,List.getD_cons_zero]);(repeat' (first|(with_reducible first|exact bN _|exact bO|exact bP|refine bQ ?_ ?_|refine bR ?_ ?_|exact ay _|exact bL _|exact an _|rfl|exact aS _ _|refine aA ?_|exact bM _|refine aV ?_)|refine bS rfl ?_ ?_|exact aT hN _ rfl rfl rfl|exact aU hN _ rfl rfl rfl|exact aB hN _ rfl rfl rfl (Or.inr rfl)|(refine aP hN _ rfl rfl (by first|exact Or.inr rfl|exact Or.inl rfl) ?_;first|exact aM _|exact aN _)|refine aC hN rfl ?_|refine aD hN rfl rfl ?_|exact az hN _ rfl rfl|exact aE hN rfl rfl rfl rfl|(with_reducible first|refine aR ?_|refine bA ?_|refine bC ?_|refine bD ?_|refine bB ?_|refine bz ?_))))
   · rw [uK,hu,if_neg (by have:=hnt (by omega);omega),List.set_set]
   · rw [hu]
 · have hyes:=kH (g:=g) (x:=gi (gr g.ar.nxt v) t) (by assumption)
   have hgd : ¬ gP g (bT g) (gi (bT g) v) (P.set v (gi (gr g.ar.nxt v) t)):=by
    rw [← List.set_set (a:=jI (bT g) (gr g.ar.nxt v) P v t)];assumption
   (refine ⟨t + 1,⟨?_,?_⟩,bU hX hN [] ?_ ?_⟩;(try any_goals dsimp only);(repeat' (first|(with_reducible first|exact bN _|exact bO|exact bP|refine bQ ?_ ?_|refine bR ?_ ?_|exact ay _|exact bL _|exact an _|rfl|exact aS _ _|refine aA ?_|exact bM _|refine aV ?_)|refine bS rfl ?_ ?_|exact aT hN _ rfl rfl rfl|exact aU hN _ rfl rfl rfl|exact aB hN _ rfl rfl rfl (Or.inr rfl)|(refine aP hN _ rfl rfl (by first|exact Or.inr rfl|exact Or.inl rfl) ?_;first|exact aM _|exact aN _)|refine aC hN rfl ?_|refine aD hN rfl rfl ?_|exact az hN _ rfl rfl|exact aE hN rfl rfl rfl rfl|(with_reducible first|refine aR ?_|refine bA ?_|refine bC ?_|refine bD ?_|refine bB ?_|refine bz ?_)));(try (any_goals (first|(with_reducible rfl)|(refine ah ?_;omega)))))
   · exact ⟨by omega,hin.trans (fi (by omega) fun e=>hgd e.2)⟩
   · rw [jI,if_pos hyes,List.set_set]
 · have hu:=hin.trans (nW (by omega))
   have htt : t = (gr g.ar.nxt v).length:=by omega
   (refine ⟨.inr rfl,_,(by first|exact cL rfl rfl|exact cF hN rfl rfl rfl rfl|exact cy hN rfl rfl rfl rfl rfl|(simp (disch:=first|decide|omega|(simp only [List.length_cons,List.length_nil];omega)) only [ci,cu,cw,cx,go_sem,beq_self_eq_true,↓aj,↓ak hN,am hN,reduceIte,reduceCtorEq,Nat.reduceAdd,Nat.reduceLT,Nat.reduceLeDiff,Nat.reduceEqDiff,Nat.reduceSub];rfl)|rfl),[],_,rfl,?_,rfl,?_⟩;(all_goals try simp only [List.drop,List.take,List.cons_append,List.nil_append,nmL,List.length_cons,List.length_nil,Nat.reduceAdd,List.getD_cons_zero]);(repeat' (first|(with_reducible first|exact bN _|exact bO|exact bP|refine bQ ?_ ?_|refine bR ?_ ?_|exact ay _|exact bL _|exact an _|rfl|exact aS _ _|refine aA ?_|exact bM _|refine aV ?_)|refine bS rfl ?_ ?_|exact aT hN _ rfl rfl rfl|exact aU hN _ rfl rfl rfl|exact aB hN _ rfl rfl rfl (Or.inr rfl)|(refine aP hN _ rfl rfl (by first|exact Or.inr rfl|exact Or.inl rfl) ?_;first|exact aM _|exact aN _)|refine aC hN rfl ?_|refine aD hN rfl rfl ?_|exact az hN _ rfl rfl|exact aE hN rfl rfl rfl rfl|(with_reducible first|refine aR ?_|refine bA ?_|refine bC ?_|refine bD ?_|refine bB ?_|refine bz ?_))))
   · rw [uK,if_pos hu,htt]
   · rw [hu]
end Go.Proofs.Ytfaefmabjjndeaa
namespace Go.Proofs.Ytfaefmabjjndeaa
set_option linter.unusedVariables false
set_option linter.unusedSimpArgs false
open Go.RowKit
attribute [local irreducible] aL cQ Aw Le
def qg (g : Pa) : Prop:=aL Try.prog 136 [paA g] [.arr 2 .yes (.I (dL g).pick)] (fun ns=>.agg [.c (.I g.ar.own),.c (.I g.prio),.c (.R g.ar.nxt),.c (.R (dL g).prev),.sl (ns.getD 0 0)])
theorem tz {g : Pa} {v : Nat} (hv : v < g.prio.length) (h : (gi (bT g) v == 1) = false) : gi (bT g) v = 0:=(hZ hv).resolve_right (jr h)
theorem kI (g : Pa) (hg : PaOk g) (P : List Int) (hP : PickOk g P) (v : Nat) (hv : v < g.prio.length) (ho : gi g.ar.own v = gi (bT g) v) (i : Int) (hi : gi (bT g) v = i) : fx Try.prog 158 (fun ν=>[.agg [.c (.I g.ar.own),.c (.I g.prio),.c (.R g.ar.nxt),.c (.R (dL g).prev),.sl (ν 0)],.c (.B (gn (bT g) i)),.c (.int .i64 v)]) [.arr 2 .yes (.I P)] [.arr 2 .yes (.I (P.set v (uK g (bT g) P v)))] [] (fun _=>.c (.int .i64 (eQ g (bT g) v P (gr g.ar.nxt v)))):=by
 subst hi
 exact ru g hg P hP v hv ho
set_option maxHeartbeats 4000000 in
theorem mR (g : Pa) (ps : List Int) (h : rs g ps) (hOf : qg g) : aL Try.prog 91 [paA g,.c (.I ps)] [.arr 2 .yes (.I (bT g)),.arr 2 .yes (.I (dP g (bT g) ps g.prio.length))] (fun ns=>.tup [.agg [.sl (ns.getD 0 0),.sl (ns.getD 1 0)],.c (.bool true)]):=by
 have hp:=js h
 have h1:=nU g ps
 rw [bV h.1] at h1
 obtain ⟨⟨⟨hg,hps⟩,hw⟩,ho⟩:=h
 have hl:=hg.len
 have hle:=hg.ar.le
 have hln:=hg.ar.len
 have hpl:=hps.1
 have hwl:=eb g
 have h3:=mO g hg
 unfold qg at hOf
 have hgp : (dL g).pick.length = g.prio.length:=cP _ _
 (refine bK aK Try.func91 rfl rfl (by kernel_rfl) fun hp0 ν hX hN=>?_;simp only [cG,Nat.reduceAdd])
 (repeat' (first|(with_reducible first|(refine hK _ _ ?_;clear hK K)|(refine aa _ ?_;clear aa K)|(refine ab _ _ _ ?_;clear ab K)|(refine ac _ _ ?_;clear ac K)|refine bh ?_|refine bX ?_|refine a9 ?_|refine aq ?_|refine ap ?_|refine bY ?_|refine aG ?_|refine ba ?_|refine bZ ?_|refine bc ?_|refine bd rfl ?_|refine bi ?_|refine be ?_|refine b7 ?_|refine bf ?_|refine aF ?_|refine n_k ?_|refine bg ?_|(refine ae ?_;clear ae X af Y)|(refine af ?_;clear ae X af Y))|(with_reducible refine bo ?_;first|refine bm rfl ?_|refine bn rfl ?_)|(with_reducible refine aQ ?_;first|refine au rfl rfl rfl rfl ?_|refine aI rfl rfl rfl ?_|refine bt rfl rfl rfl rfl ?_)|(with_reducible refine ce ?_;first|refine bE rfl rfl rfl rfl ?_|refine b9 rfl rfl rfl ?_|refine cn rfl rfl rfl rfl ?_|refine co hN (by apply Exists.intro;apply And.intro;(repeat' (first|apply FtI.nil|apply FI.nil|apply FI.cons|apply FtI.cons));kernel_rfl) ?_)|((first|(with_reducible first|refine bp rfl rfl fun K hK=>?_|refine ck rfl rfl fun K ab=>?_|refine br rfl rfl fun K aa=>?_|refine cm rfl rfl fun K ac=>?_|refine aH fun X Y ae af=>?_|refine aJ ?_)|(with_reducible refine aQ ?_;refine aW rfl rfl fun X Y ae af=>?_)|(with_reducible refine ce ?_;refine cc rfl rfl fun X Y ae af=>?_));simp (disch:=first|decide|omega|(simp only [List.length_cons,List.length_nil];omega)) only [go_sem,beq_self_eq_true,↓aj,↓ak hN,am hN,reduceIte,reduceCtorEq,Nat.reduceAdd,Nat.reduceLT,Nat.reduceLeDiff,Nat.reduceEqDiff,Nat.reduceSub])|(with_reducible refine And.intro (fun h=>?_) (fun h=>?_) <;> try (exfalso;omega))|(with_reducible refine bj aK hN rfl ?_ ?_;kernel_rfl)|(with_reducible refine bF aK hN rfl ?_ ?_ ?_ ?_;(kernel_rfl);(kernel_rfl);(kernel_rfl))|(refine aO h1 ?_ rfl (fun _=>rfl) ?_)|(refine aO h3 ?_ rfl (fun _=>rfl) ?_)|(refine dQ hOf ?_ rfl rfl ?_)|(with_reducible first|exact ax|refine ao ?_ ?_|exact cg _|refine bv ?_|exact a8 _|exact bJ _ _|refine bI ?_|exact aY _)|exact bw hN rfl rfl|(refine bG hN rfl ?_;first|exact aM _|exact aN _)|exact aZ rfl rfl rfl|(simp only [bW,List.map_nil])|(with_reducible refine b8 ?_)|(with_reducible refine And.intro ?_ ?_)|(refine ah ?_;omega)|(exact bu hN (by decide))))
 (refine cj (fun (k : Nat)=>(tmL [(8,.c (.int .i64 k)),(7,.ad (ν 4) 0),(6,.sl (ν 2)),(4,.ad (ν 1) 0),(2,.ad (ν 0) 0),(1,.c (.I ps))],hpL hp0 ν [.box [.c (.I g.ar.own),.c (.R g.ar.nxt),.c (.I g.prio)],.box [.c .nul,.c .nul],.arr 2 .yes (.I (bT g)),.arr 2 .yes (.I (tab g.prio.length fun v=>if v < k then gi ps v else -1)),.box [.c (.I g.ar.own),.c (.I g.prio),.c (.R g.ar.nxt),.c (.R (dL g).prev),.sl (ν 3)]])) (fun (k : Nat)=>k ≤ ps.length) (fun (k : Nat)=>ps.length - k) ⟨0,?_,bU hX hN [] ?_ ?_⟩ ?_;(repeat' (first|(with_reducible first|exact bN _|exact bO|exact bP|refine bQ ?_ ?_|refine bR ?_ ?_|exact ay _|exact bL _|exact an _|rfl|exact aS _ _|refine aA ?_|exact bM _|refine aV ?_)|refine bS rfl ?_ ?_|exact aT hN _ rfl rfl rfl|exact aU hN _ rfl rfl rfl|exact aB hN _ rfl rfl rfl (Or.inr rfl)|(refine aP hN _ rfl rfl (by first|exact Or.inr rfl|exact Or.inl rfl) ?_;first|exact aM _|exact aN _)|refine aC hN rfl ?_|refine aD hN rfl rfl ?_|exact az hN _ rfl rfl|exact aE hN rfl rfl rfl rfl|(with_reducible first|refine aR ?_|refine bA ?_|refine bC ?_|refine bD ?_|refine bB ?_|refine bz ?_)));(try (any_goals (first|(with_reducible rfl)|(refine ah ?_;omega)))))
 · exact dg fun j hj=>if_neg (by omega)
 intro k hk
 have hfk : k < ps.length → ¬ gi ps k = -1 → gi g.ar.own k = gi (bT g) k:=fun h1 h2=>ho k h1 (by
  rcases hps.2 k h1 with e|e
  · exact absurd e h2
  · obtain ⟨t,ht,e'⟩:=cX e
    have:=ee hg (by omega) ht
    omega)
 have htl:=cP g.prio.length fun v=>if v < k then gi ps v else (-1 : Int)
 (repeat' (first|(with_reducible first|(refine hK _ _ ?_;clear hK K)|(refine aa _ ?_;clear aa K)|(refine ab _ _ _ ?_;clear ab K)|(refine ac _ _ ?_;clear ac K)|refine bh ?_|refine bX ?_|refine a9 ?_|refine aq ?_|refine ap ?_|refine bY ?_|refine aG ?_|refine ba ?_|refine bZ ?_|refine bc ?_|refine bd rfl ?_|refine bi ?_|refine be ?_|refine b7 ?_|refine bf ?_|refine aF ?_|refine n_k ?_|refine bg ?_|(refine ae ?_;clear ae X af Y)|(refine af ?_;clear ae X af Y))|(with_reducible refine bo ?_;first|refine bm rfl ?_|refine bn rfl ?_)|(with_reducible refine aQ ?_;first|refine au rfl rfl rfl rfl ?_|refine aI rfl rfl rfl ?_|refine bt rfl rfl rfl rfl ?_)|(with_reducible refine ce ?_;first|refine bE rfl rfl rfl rfl ?_|refine b9 rfl rfl rfl ?_|refine cn rfl rfl rfl rfl ?_|refine co hN (by apply Exists.intro;apply And.intro;(repeat' (first|apply FtI.nil|apply FI.nil|apply FI.cons|apply FtI.cons));kernel_rfl) ?_)|((first|(with_reducible first|refine bp rfl rfl fun K hK=>?_|refine ck rfl rfl fun K ab=>?_|refine br rfl rfl fun K aa=>?_|refine cm rfl rfl fun K ac=>?_|refine aH fun X Y ae af=>?_|refine aJ ?_)|(with_reducible refine aQ ?_;refine aW rfl rfl fun X Y ae af=>?_)|(with_reducible refine ce ?_;refine cc rfl rfl fun X Y ae af=>?_));simp (disch:=first|decide|omega|(simp only [List.length_cons,List.length_nil];omega)) only [go_sem,beq_self_eq_true,↓aj,↓ak hN,am hN,reduceIte,reduceCtorEq,Nat.reduceAdd,Nat.reduceLT,Nat.reduceLeDiff,Nat.reduceEqDiff,Nat.reduceSub])|(with_reducible refine And.intro (fun h=>?_) (fun h=>?_) <;> try (exfalso;omega))|(with_reducible refine bj aK hN rfl ?_ ?_;kernel_rfl)|(with_reducible refine bF aK hN rfl ?_ ?_ ?_ ?_;(kernel_rfl);(kernel_rfl);(kernel_rfl))|(refine aO (kG (bT g) 0 (by omega)) ?_ rfl (fun _=>rfl) ?_;focus ((repeat' (first|(with_reducible first|exact ax|refine ao ?_ ?_|exact cg _|refine bv ?_|exact a8 _|exact bJ _ _|refine bI ?_|exact aY _)|exact bw hN rfl rfl|(refine bG hN rfl ?_;first|exact aM _|exact aN _)|exact aZ rfl rfl rfl));done))|(refine aO (kG (bT g) 1 (by omega)) ?_ rfl (fun _=>rfl) ?_;focus ((repeat' (first|(with_reducible first|exact ax|refine ao ?_ ?_|exact cg _|refine bv ?_|exact a8 _|exact bJ _ _|refine bI ?_|exact aY _)|exact bw hN rfl rfl|(refine bG hN rfl ?_;first|exact aM _|exact aN _)|exact aZ rfl rfl rfl));done))|(with_reducible first|exact ax|refine ao ?_ ?_|exact cg _|refine bv ?_|exact a8 _|exact bJ _ _|refine bI ?_|exact aY _)|exact bw hN rfl rfl|(refine bG hN rfl ?_;first|exact aM _|exact aN _)|exact aZ rfl rfl rfl|(simp only [bW,List.map_nil])|(with_reducible refine b8 ?_)|(with_reducible refine And.intro ?_ ?_)|(refine ah ?_;omega)|(exact bu hN (by decide))))
 · (refine ⟨k + 1,⟨?_,?_⟩,bU hX hN [] ?_ ?_⟩;(try any_goals dsimp only);(repeat' (first|(with_reducible first|exact bN _|exact bO|exact bP|refine bQ ?_ ?_|refine bR ?_ ?_|exact ay _|exact bL _|exact an _|rfl|exact aS _ _|refine aA ?_|exact bM _|refine aV ?_)|refine bS rfl ?_ ?_|exact aT hN _ rfl rfl rfl|exact aU hN _ rfl rfl rfl|exact aB hN _ rfl rfl rfl (Or.inr rfl)|(refine aP hN _ rfl rfl (by first|exact Or.inr rfl|exact Or.inl rfl) ?_;first|exact aM _|exact aN _)|refine aC hN rfl ?_|refine aD hN rfl rfl ?_|exact az hN _ rfl rfl|exact aE hN rfl rfl rfl rfl|(with_reducible first|refine aR ?_|refine bA ?_|refine bC ?_|refine bD ?_|refine bB ?_|refine bz ?_)));(try (any_goals (first|(with_reducible rfl)|(refine ah ?_;omega)))))
   exact lL (by omega) rfl
 · (refine ⟨k + 1,⟨?_,?_⟩,bU hX hN [] ?_ ?_⟩;(try any_goals dsimp only);(repeat' (first|(with_reducible first|exact bN _|exact bO|exact bP|refine bQ ?_ ?_|refine bR ?_ ?_|exact ay _|exact bL _|exact an _|rfl|exact aS _ _|refine aA ?_|exact bM _|refine aV ?_)|refine bS rfl ?_ ?_|exact aT hN _ rfl rfl rfl|exact aU hN _ rfl rfl rfl|exact aB hN _ rfl rfl rfl (Or.inr rfl)|(refine aP hN _ rfl rfl (by first|exact Or.inr rfl|exact Or.inl rfl) ?_;first|exact aM _|exact aN _)|refine aC hN rfl ?_|refine aD hN rfl rfl ?_|exact az hN _ rfl rfl|exact aE hN rfl rfl rfl rfl|(with_reducible first|refine aR ?_|refine bA ?_|refine bC ?_|refine bD ?_|refine bB ?_|refine bz ?_)));(try (any_goals (first|(with_reducible rfl)|(refine ah ?_;omega)))))
   exact lL (by omega) rfl
 have htp : (tab g.prio.length fun v=>if v < k then gi ps v else (-1 : Int)) = dP g (bT g) ps 0:=(iT (by omega)).trans (jc hpl fun j hj=>rfl).symm
 rw [htp]
 clear hfk htl htp hk
 (refine cj (fun (k : Nat)=>(tmL [(11,.c (.int .i64 k)),(9,.sl (ν 5)),(10,.sl (ν 6)),(7,.ad (ν 4) 0),(6,.sl (ν 2)),(4,.ad (ν 1) 0),(2,.ad (ν 0) 0)],hpL hp0 ν [.box [.c (.I g.ar.own),.c (.R g.ar.nxt),.c (.I g.prio)],.box [.c .nul,.c .nul],.arr 2 .yes (.I (bT g)),.arr 2 .yes (.I (dP g (bT g) ps k)),.box [.c (.I g.ar.own),.c (.I g.prio),.c (.R g.ar.nxt),.c (.R (dL g).prev),.sl (ν 3)],.arr 4 .yes (.B (gn (bT g) 0)),.arr 4 .yes (.B (gn (bT g) 1))])) (fun (k : Nat)=>k ≤ g.prio.length) (fun (k : Nat)=>g.prio.length - k) ⟨0,?_,bU hX hN [] ?_ ?_⟩ ?_;(repeat' (first|(with_reducible first|exact bN _|exact bO|exact bP|refine bQ ?_ ?_|refine bR ?_ ?_|exact ay _|exact bL _|exact an _|rfl|exact aS _ _|refine aA ?_|exact bM _|refine aV ?_)|refine bS rfl ?_ ?_|exact aT hN _ rfl rfl rfl|exact aU hN _ rfl rfl rfl|exact aB hN _ rfl rfl rfl (Or.inr rfl)|(refine aP hN _ rfl rfl (by first|exact Or.inr rfl|exact Or.inl rfl) ?_;first|exact aM _|exact aN _)|refine aC hN rfl ?_|refine aD hN rfl rfl ?_|exact az hN _ rfl rfl|exact aE hN rfl rfl rfl rfl|(with_reducible first|refine aR ?_|refine bA ?_|refine bC ?_|refine bD ?_|refine bB ?_|refine bz ?_)));(try (any_goals (first|(with_reducible rfl)|(refine ah ?_;omega)))))
 intro k hk
 have hPok:=gS hg hp k hk
 have hPl:=hPok.pk.1
 have hstep : dP g (bT g) ps (k + 1) = gu g (bT g) (dP g (bT g) ps k) k:=rfl
 generalize hP : dP g (bT g) ps k = P at *
 (repeat' (first|(with_reducible first|(refine hK _ _ ?_;clear hK K)|(refine aa _ ?_;clear aa K)|(refine ab _ _ _ ?_;clear ab K)|(refine ac _ _ ?_;clear ac K)|refine bh ?_|refine bX ?_|refine a9 ?_|refine aq ?_|refine ap ?_|refine bY ?_|refine aG ?_|refine ba ?_|refine bZ ?_|refine bc ?_|refine bd rfl ?_|refine bi ?_|refine be ?_|refine b7 ?_|refine bf ?_|refine aF ?_|refine n_k ?_|refine bg ?_|(refine ae ?_;clear ae X af Y)|(refine af ?_;clear ae X af Y))|(with_reducible refine bo ?_;first|refine bm rfl ?_|refine bn rfl ?_)|(with_reducible refine aQ ?_;first|refine au rfl rfl rfl rfl ?_|refine aI rfl rfl rfl ?_|refine bt rfl rfl rfl rfl ?_)|(with_reducible refine ce ?_;first|refine bE rfl rfl rfl rfl ?_|refine b9 rfl rfl rfl ?_|refine cn rfl rfl rfl rfl ?_|refine co hN (by apply Exists.intro;apply And.intro;(repeat' (first|apply FtI.nil|apply FI.nil|apply FI.cons|apply FtI.cons));kernel_rfl) ?_)|((first|(with_reducible first|refine bp rfl rfl fun K hK=>?_|refine ck rfl rfl fun K ab=>?_|refine br rfl rfl fun K aa=>?_|refine cm rfl rfl fun K ac=>?_|refine aH fun X Y ae af=>?_|refine aJ ?_)|(with_reducible refine aQ ?_;refine aW rfl rfl fun X Y ae af=>?_)|(with_reducible refine ce ?_;refine cc rfl rfl fun X Y ae af=>?_));simp (disch:=first|decide|omega|(simp only [List.length_cons,List.length_nil];omega)) only [go_sem,beq_self_eq_true,↓aj,↓ak hN,am hN,reduceIte,reduceCtorEq,Nat.reduceAdd,Nat.reduceLT,Nat.reduceLeDiff,Nat.reduceEqDiff,Nat.reduceSub])|(with_reducible refine And.intro (fun h=>?_) (fun h=>?_) <;> try (exfalso;omega))|(with_reducible refine bj aK hN rfl ?_ ?_;kernel_rfl)|(with_reducible refine bF aK hN rfl ?_ ?_ ?_ ?_;(kernel_rfl);(kernel_rfl);(kernel_rfl))|(refine iU (kI g hg P hPok k (by omega) (cR (by assumption)).symm 0 (tz (by omega) (by assumption))) hN 3 rfl rfl rfl rfl rfl ?_ ?_ ?_ ?_;(focus (simp [cf,AV.names];done));(focus (intro ν' hν;(repeat' (first|exact ArgMs.nil|refine ArgMs.cons ?_ ?_|exact pQ hν|exact pR hν|exact uz _|exact sQ (by first|exact a8 _|exact aY _|exact aZ rfl rfl rfl) rfl|(refine pS hN rfl ?_ (by decide);first|exact aM _|exact aN _)|refine mI ?_));done));(focus (first|exact Or.inr ⟨rfl,rfl,fun _=>rfl⟩|exact Or.inl (by simp [cf,AV.names]))))|(refine iU (kI g hg P hPok k (by omega) (cR (by assumption)).symm 1 (by assumption)) hN 3 rfl rfl rfl rfl rfl ?_ ?_ ?_ ?_;(focus (simp [cf,AV.names];done));(focus (intro ν' hν;(repeat' (first|exact ArgMs.nil|refine ArgMs.cons ?_ ?_|exact pQ hν|exact pR hν|exact uz _|exact sQ (by first|exact a8 _|exact aY _|exact aZ rfl rfl rfl) rfl|(refine pS hN rfl ?_ (by decide);first|exact aM _|exact aN _)|refine mI ?_));done));(focus (first|exact Or.inr ⟨rfl,rfl,fun _=>rfl⟩|exact Or.inl (by simp [cf,AV.names]))))|(with_reducible first|exact ax|refine ao ?_ ?_|exact cg _|refine bv ?_|exact a8 _|exact bJ _ _|refine bI ?_|exact aY _)|exact bw hN rfl rfl|(refine bG hN rfl ?_;first|exact aM _|exact aN _)|exact aZ rfl rfl rfl|(simp only [bW,List.map_nil])|(with_reducible refine b8 ?_)|(simp (disch:=first|decide|omega|(simp only [List.length_cons,List.length_nil];omega)) only [bW,List.map_cons,List.map_nil,am hN,List.set_cons_zero,List.set_cons_succ])|(with_reducible refine And.intro ?_ ?_)|(refine ah ?_;omega)|(exact bu hN (by decide))))
 · (refine ⟨k + 1,⟨?_,?_⟩,bU hX hN [] ?_ ?_⟩;(try any_goals dsimp only);(repeat' (first|(with_reducible first|exact bN _|exact bO|exact bP|refine bQ ?_ ?_|refine bR ?_ ?_|exact ay _|exact bL _|exact an _|rfl|exact aS _ _|refine aA ?_|exact bM _|refine aV ?_)|refine bS rfl ?_ ?_|exact aT hN _ rfl rfl rfl|exact aU hN _ rfl rfl rfl|exact aB hN _ rfl rfl rfl (Or.inr rfl)|(refine aP hN _ rfl rfl (by first|exact Or.inr rfl|exact Or.inl rfl) ?_;first|exact aM _|exact aN _)|refine aC hN rfl ?_|refine aD hN rfl rfl ?_|exact az hN _ rfl rfl|exact aE hN rfl rfl rfl rfl|(with_reducible first|refine aR ?_|refine bA ?_|refine bC ?_|refine bD ?_|refine bB ?_|refine bz ?_)));(try (any_goals (first|(with_reducible rfl)|(refine ah ?_;omega)))))
   rw [hstep]
   exact if_neg fun c=>absurd c.2 (by omega)
 · (refine ⟨k + 1,⟨?_,?_⟩,bU hX hN [] ?_ ?_⟩;(try any_goals dsimp only);(repeat' (first|(with_reducible first|exact bN _|exact bO|exact bP|refine bQ ?_ ?_|refine bR ?_ ?_|exact ay _|exact bL _|exact an _|rfl|exact aS _ _|refine aA ?_|exact bM _|refine aV ?_)|refine bS rfl ?_ ?_|exact aT hN _ rfl rfl rfl|exact aU hN _ rfl rfl rfl|exact aB hN _ rfl rfl rfl (Or.inr rfl)|(refine aP hN _ rfl rfl (by first|exact Or.inr rfl|exact Or.inl rfl) ?_;first|exact aM _|exact aN _)|refine aC hN rfl ?_|refine aD hN rfl rfl ?_|exact az hN _ rfl rfl|exact aE hN rfl rfl rfl rfl|(with_reducible first|refine aR ?_|refine bA ?_|refine bC ?_|refine bD ?_|refine bB ?_|refine bz ?_)));(try (any_goals (first|(with_reducible rfl)|(refine ah ?_;omega)))))
   rw [hstep]
   exact if_neg fun c=>absurd c.1.symm (by assumption)
 · (refine ⟨k + 1,⟨?_,?_⟩,bU hX hN [] ?_ ?_⟩;(try any_goals dsimp only);(repeat' (first|(with_reducible first|exact bN _|exact bO|exact bP|refine bQ ?_ ?_|refine bR ?_ ?_|exact ay _|exact bL _|exact an _|rfl|exact aS _ _|refine aA ?_|exact bM _|refine aV ?_)|refine bS rfl ?_ ?_|exact aT hN _ rfl rfl rfl|exact aU hN _ rfl rfl rfl|exact aB hN _ rfl rfl rfl (Or.inr rfl)|(refine aP hN _ rfl rfl (by first|exact Or.inr rfl|exact Or.inl rfl) ?_;first|exact aM _|exact aN _)|refine aC hN rfl ?_|refine aD hN rfl rfl ?_|exact az hN _ rfl rfl|exact aE hN rfl rfl rfl rfl|(with_reducible first|refine aR ?_|refine bA ?_|refine bC ?_|refine bD ?_|refine bB ?_|refine bz ?_)));(try (any_goals (first|(with_reducible rfl)|(refine ah ?_;omega)))))
   rw [hstep,List.set_set]
   exact if_pos ⟨(cR (by assumption)).symm,by omega⟩
 · (refine ⟨k + 1,⟨?_,?_⟩,bU hX hN [] ?_ ?_⟩;(try any_goals dsimp only);(repeat' (first|(with_reducible first|exact bN _|exact bO|exact bP|refine bQ ?_ ?_|refine bR ?_ ?_|exact ay _|exact bL _|exact an _|rfl|exact aS _ _|refine aA ?_|exact bM _|refine aV ?_)|refine bS rfl ?_ ?_|exact aT hN _ rfl rfl rfl|exact aU hN _ rfl rfl rfl|exact aB hN _ rfl rfl rfl (Or.inr rfl)|(refine aP hN _ rfl rfl (by first|exact Or.inr rfl|exact Or.inl rfl) ?_;first|exact aM _|exact aN _)|refine aC hN rfl ?_|refine aD hN rfl rfl ?_|exact az hN _ rfl rfl|exact aE hN rfl rfl rfl rfl|(with_reducible first|refine aR ?_|refine bA ?_|refine bC ?_|refine bD ?_|refine bB ?_|refine bz ?_)));(try (any_goals (first|(with_reducible rfl)|(refine ah ?_;omega)))))
   rw [hstep,List.set_set]
   exact if_pos ⟨(cR (by assumption)).symm,by omega⟩
 · (refine d8 hN [2,3] (by decide) (.inr rfl) (by first|exact cL rfl rfl|exact cF hN rfl rfl rfl rfl|exact cy hN rfl rfl rfl rfl rfl|(simp (disch:=first|decide|omega|(simp only [List.length_cons,List.length_nil];omega)) only [ci,cu,cw,cx,go_sem,beq_self_eq_true,↓aj,↓ak hN,am hN,reduceIte,reduceCtorEq,Nat.reduceAdd,Nat.reduceLT,Nat.reduceLeDiff,Nat.reduceEqDiff,Nat.reduceSub];rfl)|rfl) ?_ fun νs hνs=>?_;(repeat' (first|exact Gone.nil|(refine Gone.cons rfl rfl ?_ ?_)|(with_reducible refine dA ?_)|(with_reducible refine dz ?_)|(with_reducible refine SVs.cons ?_ ?_)|(with_reducible exact SVs.nil)|(simp only [List.drop,List.take])|(simp (disch:=first|decide|omega) only [↓aj,reduceIte,reduceCtorEq,Nat.reduceEqDiff])|(with_reducible exact fw _)|(with_reducible exact dw _)|(exact dx rfl rfl rfl)|(exact dy 0 (by simp) rfl rfl)|(exact dy 1 (by simp) rfl rfl)|(refine d7 hN rfl (dB hN (by decide)) ?_)|(with_reducible refine d6 ?_)|(with_reducible rfl)|(with_reducible refine bA ?_)|(with_reducible refine bC ?_)|(with_reducible refine bD ?_)|(with_reducible refine bB ?_)|(with_reducible refine bz ?_)|(refine ah ?_;omega))))
   all_goals first|rfl|(rw [← hP,show k = g.prio.length by omega])
end Go.Proofs.Ytfaefmabjjndeaa
