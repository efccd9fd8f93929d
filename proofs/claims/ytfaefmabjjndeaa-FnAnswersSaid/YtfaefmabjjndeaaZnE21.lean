/-
  PlanFrom and Solved: the reference's side (the contract of l7Of with its own pick list is a premise still).
-/
import Derived.Test.YtfaefmabjjndeaaZnE19
namespace Go.Proofs.Ytfaefmabjjndeaa
set_option linter.unusedVariables false
set_option linter.unusedSimpArgs false
open Go.RowKit
attribute [local irreducible] ax cJ Aw Le
def gmP (g : Pa) (P : List Int) : Gm:=⟨(dN g).own,(dN g).prio,(dN g).nxt,(dN g).prev,P⟩
theorem uC {g : Pa} (hg : PaOk g) {P : List Int} (h : P.length = g.prio.length) : GmOk (gmP g P) g.prio.length:=by
 obtain ⟨a,b,c,d,e,f,h1,h2,h3,h4,h5,h6,h7⟩:=jr hg
 exact ⟨a,b,c,d,e,h,h1,h2,h3,h4,h5,h6,h7⟩
theorem vO {A B : PG.Gm} (h1 : A.own = B.own) (h2 : A.prio = B.prio) (h3 : A.E = B.E) : A = B:=by
 cases A;cases B
 simp only at h1 h2 h3
 subst h1;subst h2;subst h3
 rfl
theorem lG {g : Pa} (hg : PaOk g) {P : List Int} (h : dZ g P) : dm (gmP g P) g.prio.length = pgP (dc g P):=by
 refine vO rfl rfl (funext fun v=>funext fun u=>propext ?_)
 rw [fG]
 show v < _ ∧ u < _ ∧ edg (gmP g P) v u = true ∧ (∃ t,t < (gr g.ar.nxt v).length ∧ gi (gr g.ar.nxt v) t = (u : Int)) ↔ v < g.prio.length ∧ u < g.prio.length ∧ _
 refine and_congr_right fun hv=>and_congr_right fun hu=>?_
 have hl:=hg.len
 rw [show gr (dc g P).ar.nxt v = c9 g.ar.nxt P v from dA _ (by omega)]
 have he : edg (gmP g P) v u = true ↔ gi P v < 0 ∨ gi P v = (u : Int):=by
  simp only [edg,gmP,Bool.or_eq_true,beq_iff_eq,Int.toNat_natCast]
  exact or_congr_left ⟨fun h=>of_decide_eq_true h,fun h=>decide_eq_true h⟩
 rw [he]
 unfold c9
 split
 · rename_i h0
   constructor
   · rintro ⟨h1|h1,_⟩
     · omega
     · exact ⟨0,by simp,h1⟩
   · rintro ⟨t,ht,e⟩
     have : t = 0:=by simpa using ht
     subst this
     have e' : gi P v = (u : Int):=e
     refine ⟨.inr e',?_⟩
     rcases h.2 v (by have:=h.1;omega) with e2|e2
     · omega
     · obtain ⟨t,ht,e3⟩:=c4 e2
       exact ⟨t,ht,e3.trans e'⟩
 · exact ⟨fun x=>x.2,fun x=>⟨.inl (by omega),x⟩⟩
def gg (W : List Int) (i : Int) : List Bool:=cT W.length fun v=>gi W v == i
theorem j2 (W : List Int) (i : Int) : (gg W i).length = W.length:=db _ _
theorem iD {W : List Int} {i : Int} {v : Nat} : gb (gg W i) v = true ↔ (v : Int) ∈ atL W i:=by
 rw [ge]
 constructor
 · intro h
   have hv : v < W.length:=by have:=iz h;rwa [j2] at this
   rw [gg,dk _ hv] at h
   exact ⟨v,hv,rfl,by simpa using h⟩
 · rintro ⟨u,h1,h2,h3⟩
   have : u = v:=by omega
   subst this
   rw [gg,dk _ h1,h3];simp
theorem pE {g : Pa} (hg : PaOk g) {P : List Int} (h : PickOk g P) {i : Int} (hi : i = 0 ∨ i = 1) : (∀ v,gb (gg (aX g) i) v = true → (PG.Won (dm (gmP g P) g.prio.length) 0 (fun v=>gb (gg (aX g) i) v = true) v ↔ i = 0)) ↔ g0 g (aX g) i P:=by
 rw [lG hg h.pk,show (fun v=>gb (gg (aX g) i) v = true) = fun v : Nat=>(v : Int) ∈ atL (aX g) i from funext fun v=>propext iD]
 have ht:=jS (dQ hg h.pk) (jZ hg h i)
 have hS : ∀ v : Nat,(v : Int) ∈ atL (aX g) i → v < (dc g P).prio.length:=fun v hv=>(dS.1 hv).1
 unfold g0
 refine forall_congr' fun v=>?_
 rw [iD]
 refine imp_congr_right fun hv=>?_
 have hn:=rh (P:=pgP (dc g P)) mA hS ht (i:=0) (.inl rfl) v
 rcases hi with e|e <;> subst e
 · exact ⟨fun h=>h.2 rfl,fun h=>⟨fun _=>rfl,fun _=>h⟩⟩
 · exact ⟨fun h=>hn.2 ⟨hv,fun h'=>absurd (h.1 h') (by omega)⟩,fun h=>⟨fun h'=>absurd h' (hn.1 h).2,fun h'=>absurd h' (by omega)⟩⟩
def jd (W us P : List Int) (v : Nat) : Nat → Int
 | 0 => gi P v
 | t + 1 => if gi W (gi us t).toNat = gi W v then gi us t else jd W us P v t
noncomputable def s7 (g : Pa) (W P : List Int) (v : Nat) : Int:=if eQ g W v P (gr g.ar.nxt v) = -1 then jd W (gr g.ar.nxt v) P v (gr g.ar.nxt v).length else eQ g W v P (gr g.ar.nxt v)
theorem j3 (W : List Int) (i : Int) (hl : W.length ≤ 1048576) : ax Try.prog 157 [.c (.I W),.c (.int .i64 i)] [.arr 4 .yes (.B (gg W i))] (fun ns=>.sl (ns.getD 0 0)):=by
 (refine bV aP Try.func157 rfl rfl (by kernel_rfl) fun hp0 ν hX hN=>?_;simp only [cK,Nat.reduceAdd])
 (repeat' (first|(with_reducible first|(refine hK _ _ ?_;clear hK K)|(refine aa _ ?_;clear aa K)|refine bj ?_|refine cc ?_|refine bc ?_|refine aq ?_|refine ap ?_|refine ce ?_|refine aJ ?_|refine bd ?_|refine cf ?_|refine be ?_|refine bf rfl ?_|refine bm ?_|refine bg ?_|refine cg ?_|refine bh ?_|refine aI ?_|refine n_k ?_|refine bi ?_|(refine ae ?_;clear ae X af Y)|(refine af ?_;clear ae X af Y))|(with_reducible refine br ?_;first|refine bo rfl ?_|refine bp rfl ?_)|(with_reducible refine bz ?_;first|refine au rfl rfl rfl rfl ?_|refine aL rfl rfl rfl ?_|refine bv rfl rfl rfl rfl ?_)|((first|(with_reducible first|refine bt rfl rfl fun K hK=>?_|refine bu rfl rfl fun K aa=>?_|refine aK fun X Y ae af=>?_|refine aM ?_));simp (disch:=first|decide|omega|(simp only [List.length_cons,List.length_nil];omega)) only [go_sem,beq_self_eq_true,↓aj,↓ak hN,am hN,reduceIte,reduceCtorEq,Nat.reduceAdd,Nat.reduceLT,Nat.reduceLeDiff,Nat.reduceEqDiff,Nat.reduceSub])|(with_reducible refine And.intro (fun h=>?_) (fun h=>?_) <;> try (exfalso;omega))|(with_reducible refine bn aP hN rfl ?_ ?_;kernel_rfl)|(with_reducible refine And.intro ?_ ?_)|(refine ah ?_;omega)|(exact bw hN (by decide))))
 (refine co (fun (k : Nat)=>(tmL [(6,.c (.int .i64 k)),(5,.sl (ν 0)),(0,.c (.I W)),(1,.c (.int .i64 i))],hpL hp0 ν [.arr 4 .yes (.B (cT W.length fun v=>if v < k then gi W v == i else false))])) (fun (k : Nat)=>k ≤ W.length) (fun (k : Nat)=>W.length - k) ⟨0,?_,bX hX hN [] ?_ ?_⟩ ?_;(repeat' (first|(with_reducible first|exact bP _|exact bQ|exact bR|refine bS ?_ ?_|refine bT ?_ ?_|exact ay _|exact bN _|exact ao _|rfl|exact aS _ _|refine aA ?_|exact bO _|refine aW ?_)|refine bU rfl ?_ ?_|exact aT hN _ rfl rfl rfl|exact aU hN _ rfl rfl rfl|exact aB hN _ rfl rfl rfl (Or.inr rfl)|(refine aV hN _ rfl rfl (by first|exact Or.inr rfl|exact Or.inl rfl) ?_;first|exact aN _|exact aO _)|refine aC hN rfl ?_|refine aD hN rfl rfl ?_|exact az hN _ rfl rfl|exact aE hN rfl rfl rfl rfl|(with_reducible first|refine aR ?_|refine bF ?_|refine bH ?_|refine bI ?_|refine bG ?_|refine bE ?_)));(try (any_goals (first|(with_reducible rfl)|(refine ah ?_;omega)))))
 · exact dy _ _
 intro k hk
 have htl:=db W.length fun v=>if v < k then gi W v == i else false
 (repeat' (first|(with_reducible first|(refine hK _ _ ?_;clear hK K)|(refine aa _ ?_;clear aa K)|refine bj ?_|refine cc ?_|refine bc ?_|refine aq ?_|refine ap ?_|refine ce ?_|refine aJ ?_|refine bd ?_|refine cf ?_|refine be ?_|refine bf rfl ?_|refine bm ?_|refine bg ?_|refine cg ?_|refine bh ?_|refine aI ?_|refine n_k ?_|refine bi ?_|(refine ae ?_;clear ae X af Y)|(refine af ?_;clear ae X af Y))|(with_reducible refine br ?_;first|refine bo rfl ?_|refine bp rfl ?_)|(with_reducible refine bz ?_;first|refine au rfl rfl rfl rfl ?_|refine aL rfl rfl rfl ?_|refine bv rfl rfl rfl rfl ?_)|((first|(with_reducible first|refine bt rfl rfl fun K hK=>?_|refine bu rfl rfl fun K aa=>?_|refine aK fun X Y ae af=>?_|refine aM ?_));simp (disch:=first|decide|omega|(simp only [List.length_cons,List.length_nil];omega)) only [go_sem,beq_self_eq_true,↓aj,↓ak hN,am hN,reduceIte,reduceCtorEq,Nat.reduceAdd,Nat.reduceLT,Nat.reduceLeDiff,Nat.reduceEqDiff,Nat.reduceSub])|(with_reducible refine And.intro (fun h=>?_) (fun h=>?_) <;> try (exfalso;omega))|(with_reducible refine bn aP hN rfl ?_ ?_;kernel_rfl)|(with_reducible refine And.intro ?_ ?_)|(refine ah ?_;omega)|(exact bw hN (by decide))))
 · (refine ⟨k + 1,⟨?_,?_⟩,bX hX hN [] ?_ ?_⟩;(try any_goals dsimp only);(repeat' (first|(with_reducible first|exact bP _|exact bQ|exact bR|refine bS ?_ ?_|refine bT ?_ ?_|exact ay _|exact bN _|exact ao _|rfl|exact aS _ _|refine aA ?_|exact bO _|refine aW ?_)|refine bU rfl ?_ ?_|exact aT hN _ rfl rfl rfl|exact aU hN _ rfl rfl rfl|exact aB hN _ rfl rfl rfl (Or.inr rfl)|(refine aV hN _ rfl rfl (by first|exact Or.inr rfl|exact Or.inl rfl) ?_;first|exact aN _|exact aO _)|refine aC hN rfl ?_|refine aD hN rfl rfl ?_|exact az hN _ rfl rfl|exact aE hN rfl rfl rfl rfl|(with_reducible first|refine aR ?_|refine bF ?_|refine bH ?_|refine bI ?_|refine bG ?_|refine bE ?_)));(try (any_goals (first|(with_reducible rfl)|(refine ah ?_;omega)))))
   exact eK (by omega) rfl
 · (refine dj hN (i:=0) (.inr rfl) (by first|rfl|(simp (disch:=first|decide|omega|(simp only [List.length_cons,List.length_nil];omega)) only [cj,cn,cu,cy,go_sem,beq_self_eq_true,↓aj,↓ak hN,am hN,reduceIte,reduceCtorEq,Nat.reduceAdd,Nat.reduceLT,Nat.reduceLeDiff,Nat.reduceEqDiff,Nat.reduceSub];rfl)) rfl ?_ rfl)
   exact congrArg C.B (dY (by omega))
theorem rE (n : Nat) (hl : n ≤ 1048576) : ax Try.prog 92 [.c (.int .i64 n)] [.arr 2 .yes (.I (noP n))] (fun ns=>.sl (ns.getD 0 0)):=by
 (refine bV aP Try.func92 rfl rfl (by kernel_rfl) fun hp0 ν hX hN=>?_;simp only [cK,Nat.reduceAdd])
 (repeat' (first|(with_reducible first|(refine hK _ _ ?_;clear hK K)|(refine aa _ ?_;clear aa K)|refine bj ?_|refine cc ?_|refine bc ?_|refine aq ?_|refine ap ?_|refine ce ?_|refine aJ ?_|refine bd ?_|refine cf ?_|refine be ?_|refine bf rfl ?_|refine bm ?_|refine bg ?_|refine cg ?_|refine bh ?_|refine aI ?_|refine n_k ?_|refine bi ?_|(refine ae ?_;clear ae X af Y)|(refine af ?_;clear ae X af Y))|(with_reducible refine br ?_;first|refine bo rfl ?_|refine bp rfl ?_)|(with_reducible refine bz ?_;first|refine au rfl rfl rfl rfl ?_|refine aL rfl rfl rfl ?_|refine bv rfl rfl rfl rfl ?_)|((first|(with_reducible first|refine bt rfl rfl fun K hK=>?_|refine bu rfl rfl fun K aa=>?_|refine aK fun X Y ae af=>?_|refine aM ?_));simp (disch:=first|decide|omega|(simp only [List.length_cons,List.length_nil];omega)) only [go_sem,beq_self_eq_true,↓aj,↓ak hN,am hN,reduceIte,reduceCtorEq,Nat.reduceAdd,Nat.reduceLT,Nat.reduceLeDiff,Nat.reduceEqDiff,Nat.reduceSub])|(with_reducible refine And.intro (fun h=>?_) (fun h=>?_) <;> try (exfalso;omega))|(with_reducible refine bn aP hN rfl ?_ ?_;kernel_rfl)|(with_reducible refine And.intro ?_ ?_)|(refine ah ?_;omega)|(exact bw hN (by decide))))
 (refine co (fun (k : Nat)=>(tmL [(4,.c (.int .i64 k)),(3,.sl (ν 0)),(0,.c (.int .i64 n))],hpL hp0 ν [.arr 2 .yes (.I (noP k))])) (fun (k : Nat)=>k ≤ n) (fun (k : Nat)=>n - k) ⟨0,?_,bX hX hN [] ?_ ?_⟩ ?_;(repeat' (first|(with_reducible first|exact bP _|exact bQ|exact bR|refine bS ?_ ?_|refine bT ?_ ?_|exact ay _|exact bN _|exact ao _|rfl|exact aS _ _|refine aA ?_|exact bO _|refine aW ?_)|refine bU rfl ?_ ?_|exact aT hN _ rfl rfl rfl|exact aU hN _ rfl rfl rfl|exact aB hN _ rfl rfl rfl (Or.inr rfl)|(refine aV hN _ rfl rfl (by first|exact Or.inr rfl|exact Or.inl rfl) ?_;first|exact aN _|exact aO _)|refine aC hN rfl ?_|refine aD hN rfl rfl ?_|exact az hN _ rfl rfl|exact aE hN rfl rfl rfl rfl|(with_reducible first|refine aR ?_|refine bF ?_|refine bH ?_|refine bI ?_|refine bG ?_|refine bE ?_)));(try (any_goals (first|(with_reducible rfl)|(refine ah ?_;omega)))))
 · rfl
 intro k hk
 have htl:=cY k fun _=>(-1 : Int)
 have hsu : noP (k + 1) = noP k ++ [-1]:=jw k fun _=>(-1 : Int)
 have hnl : (noP k).length = k:=cY _ _
 (repeat' (first|(with_reducible first|(refine hK _ _ ?_;clear hK K)|(refine aa _ ?_;clear aa K)|refine bj ?_|refine cc ?_|refine bc ?_|refine aq ?_|refine ap ?_|refine ce ?_|refine aJ ?_|refine bd ?_|refine cf ?_|refine be ?_|refine bf rfl ?_|refine bm ?_|refine bg ?_|refine cg ?_|refine bh ?_|refine aI ?_|refine n_k ?_|refine bi ?_|(refine ae ?_;clear ae X af Y)|(refine af ?_;clear ae X af Y))|(with_reducible refine br ?_;first|refine bo rfl ?_|refine bp rfl ?_)|(with_reducible refine bz ?_;first|refine au rfl rfl rfl rfl ?_|refine aL rfl rfl rfl ?_|refine bv rfl rfl rfl rfl ?_)|((first|(with_reducible first|refine bt rfl rfl fun K hK=>?_|refine bu rfl rfl fun K aa=>?_|refine aK fun X Y ae af=>?_|refine aM ?_));simp (disch:=first|decide|omega|(simp only [List.length_cons,List.length_nil];omega)) only [go_sem,beq_self_eq_true,↓aj,↓ak hN,am hN,reduceIte,reduceCtorEq,Nat.reduceAdd,Nat.reduceLT,Nat.reduceLeDiff,Nat.reduceEqDiff,Nat.reduceSub])|(with_reducible refine And.intro (fun h=>?_) (fun h=>?_) <;> try (exfalso;omega))|(with_reducible refine bn aP hN rfl ?_ ?_;kernel_rfl)|(with_reducible refine And.intro ?_ ?_)|(refine ah ?_;omega)|(exact bw hN (by decide))))
 · (refine ⟨k + 1,⟨?_,?_⟩,bX hX hN [(0,2)] ?_ ?_⟩;(try any_goals dsimp only);(repeat' (first|(with_reducible first|exact bP _|exact bQ|exact bR|refine bS ?_ ?_|refine bT ?_ ?_|exact ay _|exact bN _|exact ao _|rfl|exact aS _ _|refine aA ?_|exact bO _|refine aW ?_)|refine bU rfl ?_ ?_|exact aT hN _ rfl rfl rfl|exact aU hN _ rfl rfl rfl|exact aB hN _ rfl rfl rfl (Or.inr rfl)|(refine aV hN _ rfl rfl (by first|exact Or.inr rfl|exact Or.inl rfl) ?_;first|exact aN _|exact aO _)|refine aC hN rfl ?_|refine aD hN rfl rfl ?_|exact az hN _ rfl rfl|exact aE hN rfl rfl rfl rfl|(with_reducible first|refine aR ?_|refine bF ?_|refine bH ?_|refine bI ?_|refine bG ?_|refine bE ?_)));(try (any_goals (first|(with_reducible rfl)|(refine ah ?_;omega)))))
   all_goals rw [hsu]
 · (refine dj hN (i:=0) (.inr rfl) (by first|rfl|(simp (disch:=first|decide|omega|(simp only [List.length_cons,List.length_nil];omega)) only [cj,cn,cu,cy,go_sem,beq_self_eq_true,↓aj,↓ak hN,am hN,reduceIte,reduceCtorEq,Nat.reduceAdd,Nat.reduceLT,Nat.reduceLeDiff,Nat.reduceEqDiff,Nat.reduceSub];rfl)) rfl ?_ rfl)
   rw [show k = n by omega]
theorem j4 {g : Pa} {i x : Int} (h : gb (gg (aX g) i) x.toNat = true) : gi (aX g) x.toNat = i:=(dS.1 (iD.1 h)).2
theorem uD {g : Pa} {i x : Int} (hx : x.toNat < g.prio.length) (h : gb (gg (aX g) i) x.toNat = false) : ¬ gi (aX g) x.toNat = i:=fun e=>by
 rw [iD.2 (dS.2 ⟨hx,e⟩)] at h
 exact absurd h (by decide)
theorem rF {g : Pa} (hg : PaOk g) {P : List Int} (h : PickOk g P) {k t : Nat} {x : Int} (hk : k < g.prio.length) (ho : gi g.ar.own k = gi (aX g) k) (ht : t < (gr g.ar.nxt k).length) (hw : gi (aX g) (gi (gr g.ar.nxt k) t).toNat = gi (aX g) k) : PickOk g ((P.set k x).set k (gi (gr g.ar.nxt k) t)):=by
 rw [List.set_set];exact rD hg h hk ho ht hw
theorem s8 (g : Pa) (hg : PaOk g) (P : List Int) (h : PickOk g P) (v : Nat) (hv : v < g.prio.length) (ho : gi g.ar.own v = gi (aX g) v) : ax Try.prog 203 [.agg [.c (.I g.ar.own),.c (.I g.prio),.c (.R g.ar.nxt),.c (.R (dN g).prev),.c (.I P)],.c (.B (gg (aX g) (gi (aX g) v))),.c (.int .i64 (gi g.ar.own v))] [] (fun _=>.c (.bool (tf (g0 g (aX g) (gi (aX g) v) P)))):=by
 have hgo:=pE hg h (gf hv)
 have ht : PG.Total (dm (gmP g P) g.prio.length) (fun u=>gb (gg (aX g) (gi (aX g) v)) u = true):=by
  rw [lG hg h.pk,show (fun u=>gb (gg (aX g) (gi (aX g) v)) u = true) = fun u : Nat=>(u : Int) ∈ atL (aX g) (gi (aX g) v) from funext fun v=>propext iD]
  exact jS (dQ hg h.pk) (jZ hg h _)
 have:=pt (gmP g P) g.prio.length (uC hg h.pk.1) (gg (aX g) (gi (aX g) v)) ((j2 _ _).trans (dw g)) (gi (aX g) v) ht
 rw [eE hgo] at this
 rw [ho]
 exact this
set_option maxHeartbeats 1000000 in
theorem pF (g : Pa) (hg : PaOk g) (P : List Int) (hP : PickOk g P) (v : Nat) (hv : v < g.prio.length) (ho : gi g.ar.own v = gi (aX g) v) : dG Try.prog 158 (fun ν=>[.agg [.c (.I g.ar.own),.c (.I g.prio),.c (.R g.ar.nxt),.c (.R (dN g).prev),.sl (ν 0)],.c (.B (gg (aX g) (gi (aX g) v))),.c (.int .i64 v)]) [.arr 2 .yes (.I P)] [.arr 2 .yes (.I (P.set v (s7 g (aX g) P v)))] [] (fun _=>.c (.int .i64 (eQ g (aX g) v P (gr g.ar.nxt v)))):=by
 have hl:=hg.len
 have hle:=hg.ar.le
 have hln:=hg.ar.len
 have hPl:=hP.pk.1
 have hrl:=(hg.ar.vert v (by omega)).2.2.2.1
 have hRl:=(j2 (aX g) (gi (aX g) v)).trans (dw g)
 have hnx:=fun t (ht : t < (gr g.ar.nxt v).length)=>dR hg hv ht
 (refine f6 aP Try.func158 rfl rfl (fun _=>by kernel_rfl) rfl rfl rfl rfl (by first|exact jp _|exact iv (j:=0) (by simp) (by simp [Ent.kind])|exact iw (j:=0) (by simp) (by simp [Ent.kind])|exact fZ rfl|exact gV|exact jq _) fun hp0 ν hX hN=>?_;simp only [cK,Nat.reduceAdd])
 (repeat' (first|(with_reducible first|(refine hK _ _ ?_;clear hK K)|(refine aa _ ?_;clear aa K)|(refine ab _ _ _ ?_;clear ab K)|(refine ac _ _ ?_;clear ac K)|refine bj ?_|refine cc ?_|refine bc ?_|refine aq ?_|refine ap ?_|refine ce ?_|refine aJ ?_|refine bd ?_|refine cf ?_|refine be ?_|refine bf rfl ?_|refine bm ?_|refine bg ?_|refine cg ?_|refine bh ?_|refine aI ?_|refine n_k ?_|refine bi ?_|(refine ae ?_;clear ae X af Y)|(refine af ?_;clear ae X af Y))|(with_reducible refine br ?_;first|refine bo rfl ?_|refine bp rfl ?_)|(with_reducible refine bz ?_;first|refine au rfl rfl rfl rfl ?_|refine aL rfl rfl rfl ?_|refine bv rfl rfl rfl rfl ?_)|(with_reducible refine cD ?_;first|refine bY rfl rfl rfl rfl ?_|refine ck rfl rfl rfl ?_|refine cG rfl rfl rfl rfl ?_|refine cH hN (by apply Exists.intro;apply And.intro;(repeat' (first|apply FtI.nil|apply FI.nil|apply FI.cons|apply FtI.cons));kernel_rfl) ?_)|((first|(with_reducible first|refine bt rfl rfl fun K hK=>?_|refine cE rfl rfl fun K ab=>?_|refine bu rfl rfl fun K aa=>?_|refine cF rfl rfl fun K ac=>?_|refine aK fun X Y ae af=>?_|refine aM ?_));simp (disch:=first|decide|omega|(simp only [List.length_cons,List.length_nil];omega)) only [go_sem,beq_self_eq_true,↓aj,↓ak hN,am hN,reduceIte,reduceCtorEq,Nat.reduceAdd,Nat.reduceLT,Nat.reduceLeDiff,Nat.reduceEqDiff,Nat.reduceSub])|(with_reducible refine And.intro (fun h=>?_) (fun h=>?_) <;> try (exfalso;omega))|(with_reducible refine bn aP hN rfl ?_ ?_;kernel_rfl)|(with_reducible refine bZ aP hN rfl ?_ ?_ ?_ ?_;(kernel_rfl);(kernel_rfl);(kernel_rfl))|(with_reducible refine And.intro ?_ ?_)|(refine ah ?_;omega)|(exact bw hN (by decide))))
 (refine co (fun (t : Nat)=>(tmL [(7,.c (.int .i64 t)),(3,.ad (ν 1) 0),(1,.c (.B (gg (aX g) (gi (aX g) v)))),(2,.c (.int .i64 v))],hpL hp0 ν [.arr 2 .yes (.I (P.set v (jd (aX g) (gr g.ar.nxt v) P v t))),.box [.c (.I g.ar.own),.c (.I g.prio),.c (.R g.ar.nxt),.c (.R (dN g).prev),.sl (ν 0)]])) (fun (t : Nat)=>t ≤ (gr g.ar.nxt v).length ∧ eQ g (aX g) v P (gr g.ar.nxt v) = eQ g (aX g) v P ((gr g.ar.nxt v).drop t)) (fun (t : Nat)=>(gr g.ar.nxt v).length - t) ⟨0,?_,bX hX hN [] ?_ ?_⟩ ?_;(repeat' (first|(with_reducible first|exact bP _|exact bQ|exact bR|refine bS ?_ ?_|refine bT ?_ ?_|exact ay _|exact bN _|exact ao _|rfl|exact aS _ _|refine aA ?_|exact bO _|refine aW ?_)|refine bU rfl ?_ ?_|exact aT hN _ rfl rfl rfl|exact aU hN _ rfl rfl rfl|exact aB hN _ rfl rfl rfl (Or.inr rfl)|(refine aV hN _ rfl rfl (by first|exact Or.inr rfl|exact Or.inl rfl) ?_;first|exact aN _|exact aO _)|refine aC hN rfl ?_|refine aD hN rfl rfl ?_|exact az hN _ rfl rfl|exact aE hN rfl rfl rfl rfl|(with_reducible first|refine aR ?_|refine bF ?_|refine bH ?_|refine bI ?_|refine bG ?_|refine bE ?_)));(try (any_goals (first|(with_reducible rfl)|(refine ah ?_;omega)))))
 · exact ⟨Nat.zero_le _,rfl⟩
 · exact rb rfl
 rintro t ⟨ht,hin⟩
 have hnt:=hnx t
 (repeat' (first|(with_reducible first|(refine hK _ _ ?_;clear hK K)|(refine aa _ ?_;clear aa K)|(refine ab _ _ _ ?_;clear ab K)|(refine ac _ _ ?_;clear ac K)|refine bj ?_|refine cc ?_|refine bc ?_|refine aq ?_|refine ap ?_|refine ce ?_|refine aJ ?_|refine bd ?_|refine cf ?_|refine be ?_|refine bf rfl ?_|refine bm ?_|refine bg ?_|refine cg ?_|refine bh ?_|refine aI ?_|refine n_k ?_|refine bi ?_|(refine ae ?_;clear ae X af Y)|(refine af ?_;clear ae X af Y))|(with_reducible refine br ?_;first|refine bo rfl ?_|refine bp rfl ?_)|(with_reducible refine bz ?_;first|refine au rfl rfl rfl rfl ?_|refine aL rfl rfl rfl ?_|refine bv rfl rfl rfl rfl ?_)|(with_reducible refine cD ?_;first|refine bY rfl rfl rfl rfl ?_|refine ck rfl rfl rfl ?_|refine cG rfl rfl rfl rfl ?_|refine cH hN (by apply Exists.intro;apply And.intro;(repeat' (first|apply FtI.nil|apply FI.nil|apply FI.cons|apply FtI.cons));kernel_rfl) ?_)|((first|(with_reducible first|refine bt rfl rfl fun K hK=>?_|refine cE rfl rfl fun K ab=>?_|refine bu rfl rfl fun K aa=>?_|refine cF rfl rfl fun K ac=>?_|refine aK fun X Y ae af=>?_|refine aM ?_));simp (disch:=first|decide|omega|(simp only [List.length_cons,List.length_nil];omega)) only [go_sem,beq_self_eq_true,↓aj,↓ak hN,am hN,reduceIte,reduceCtorEq,Nat.reduceAdd,Nat.reduceLT,Nat.reduceLeDiff,Nat.reduceEqDiff,Nat.reduceSub])|(with_reducible refine And.intro (fun h=>?_) (fun h=>?_) <;> try (exfalso;omega))|(with_reducible refine bn aP hN rfl ?_ ?_;kernel_rfl)|(with_reducible refine bZ aP hN rfl ?_ ?_ ?_ ?_;(kernel_rfl);(kernel_rfl);(kernel_rfl))|(refine bK (s8 g hg ((P.set v (jd (aX g) (gr g.ar.nxt v) P v t)).set v (gi (gr g.ar.nxt v) t)) (rF hg hP hv ho (by omega) (j4 (by assumption))) v hv ho) ?_ rfl (fun _=>rfl) ?_;focus ((repeat' (first|(with_reducible first|exact aG|refine aF ?_ ?_|exact cC _|refine bC ?_|exact ba _|exact b9 _ _|refine b8 ?_|exact aZ _)|exact bD hN rfl rfl|(refine b7 hN rfl ?_;first|exact aN _|exact aO _)|exact a8 rfl rfl rfl));done))|(with_reducible first|exact aG|refine aF ?_ ?_|exact cC _|refine bC ?_|exact ba _|exact b9 _ _|refine b8 ?_|exact aZ _)|exact bD hN rfl rfl|(refine b7 hN rfl ?_;first|exact aN _|exact aO _)|exact a8 rfl rfl rfl|(simp only [bB,List.map_nil])|(with_reducible refine cm ?_)|(with_reducible refine And.intro ?_ ?_)|(refine ah ?_;omega)|(exact bw hN (by decide))))
 · have hno:=uD (g:=g) (i:=gi (aX g) v) (x:=gi (gr g.ar.nxt v) t) (by omega) (by assumption)
   (refine ⟨t + 1,⟨?_,?_⟩,bX hX hN [] ?_ ?_⟩;(try any_goals dsimp only);(repeat' (first|(with_reducible first|exact bP _|exact bQ|exact bR|refine bS ?_ ?_|refine bT ?_ ?_|exact ay _|exact bN _|exact ao _|rfl|exact aS _ _|refine aA ?_|exact bO _|refine aW ?_)|refine bU rfl ?_ ?_|exact aT hN _ rfl rfl rfl|exact aU hN _ rfl rfl rfl|exact aB hN _ rfl rfl rfl (Or.inr rfl)|(refine aV hN _ rfl rfl (by first|exact Or.inr rfl|exact Or.inl rfl) ?_;first|exact aN _|exact aO _)|refine aC hN rfl ?_|refine aD hN rfl rfl ?_|exact az hN _ rfl rfl|exact aE hN rfl rfl rfl rfl|(with_reducible first|refine aR ?_|refine bF ?_|refine bH ?_|refine bI ?_|refine bG ?_|refine bE ?_)));(try (any_goals (first|(with_reducible rfl)|(refine ah ?_;omega)))))
   · exact ⟨by omega,hin.trans (kO (by omega) fun e=>hno e.1)⟩
   · rw [jd,if_neg hno]
 · have hyes:=j4 (g:=g) (x:=gi (gr g.ar.nxt v) t) (by assumption)
   have hgd : g0 g (aX g) (gi (aX g) v) (P.set v (gi (gr g.ar.nxt v) t)):=by
    rw [← List.set_set (a:=jd (aX g) (gr g.ar.nxt v) P v t)];assumption
   have hu:=hin.trans (rB (by omega) ⟨hyes,hgd⟩)
   (refine ⟨.inr rfl,_,(by first|exact cP rfl rfl|exact cI hN rfl rfl rfl rfl|exact cA hN rfl rfl rfl rfl rfl|(simp (disch:=first|decide|omega|(simp only [List.length_cons,List.length_nil];omega)) only [cj,cn,cu,cy,go_sem,beq_self_eq_true,↓aj,↓ak hN,am hN,reduceIte,reduceCtorEq,Nat.reduceAdd,Nat.reduceLT,Nat.reduceLeDiff,Nat.reduceEqDiff,Nat.reduceSub];rfl)|rfl),[],_,rfl,?_,rfl,?_⟩;(all_goals try simp only [List.drop,List.take,List.cons_append,List.nil_append,nmL,List.length_cons,List.length_nil,Nat.reduceAdd,List.getD_cons_zero]);(repeat' (first|(with_reducible first|exact bP _|exact bQ|exact bR|refine bS ?_ ?_|refine bT ?_ ?_|exact ay _|exact bN _|exact ao _|rfl|exact aS _ _|refine aA ?_|exact bO _|refine aW ?_)|refine bU rfl ?_ ?_|exact aT hN _ rfl rfl rfl|exact aU hN _ rfl rfl rfl|exact aB hN _ rfl rfl rfl (Or.inr rfl)|(refine aV hN _ rfl rfl (by first|exact Or.inr rfl|exact Or.inl rfl) ?_;first|exact aN _|exact aO _)|refine aC hN rfl ?_|refine aD hN rfl rfl ?_|exact az hN _ rfl rfl|exact aE hN rfl rfl rfl rfl|(with_reducible first|refine aR ?_|refine bF ?_|refine bH ?_|refine bI ?_|refine bG ?_|refine bE ?_))))
   · rw [s7,hu,if_neg (by have:=hnt (by omega);omega),List.set_set]
   · rw [hu]
 · have hyes:=j4 (g:=g) (x:=gi (gr g.ar.nxt v) t) (by assumption)
   have hgd : ¬ g0 g (aX g) (gi (aX g) v) (P.set v (gi (gr g.ar.nxt v) t)):=by
    rw [← List.set_set (a:=jd (aX g) (gr g.ar.nxt v) P v t)];assumption
   (refine ⟨t + 1,⟨?_,?_⟩,bX hX hN [] ?_ ?_⟩;(try any_goals dsimp only);(repeat' (first|(with_reducible first|exact bP _|exact bQ|exact bR|refine bS ?_ ?_|refine bT ?_ ?_|exact ay _|exact bN _|exact ao _|rfl|exact aS _ _|refine aA ?_|exact bO _|refine aW ?_)|refine bU rfl ?_ ?_|exact aT hN _ rfl rfl rfl|exact aU hN _ rfl rfl rfl|exact aB hN _ rfl rfl rfl (Or.inr rfl)|(refine aV hN _ rfl rfl (by first|exact Or.inr rfl|exact Or.inl rfl) ?_;first|exact aN _|exact aO _)|refine aC hN rfl ?_|refine aD hN rfl rfl ?_|exact az hN _ rfl rfl|exact aE hN rfl rfl rfl rfl|(with_reducible first|refine aR ?_|refine bF ?_|refine bH ?_|refine bI ?_|refine bG ?_|refine bE ?_)));(try (any_goals (first|(with_reducible rfl)|(refine ah ?_;omega)))))
   · exact ⟨by omega,hin.trans (kO (by omega) fun e=>hgd e.2)⟩
   · rw [jd,if_pos hyes,List.set_set]
 · have hu:=hin.trans (rC (by omega))
   have htt : t = (gr g.ar.nxt v).length:=by omega
   (refine ⟨.inr rfl,_,(by first|exact cP rfl rfl|exact cI hN rfl rfl rfl rfl|exact cA hN rfl rfl rfl rfl rfl|(simp (disch:=first|decide|omega|(simp only [List.length_cons,List.length_nil];omega)) only [cj,cn,cu,cy,go_sem,beq_self_eq_true,↓aj,↓ak hN,am hN,reduceIte,reduceCtorEq,Nat.reduceAdd,Nat.reduceLT,Nat.reduceLeDiff,Nat.reduceEqDiff,Nat.reduceSub];rfl)|rfl),[],_,rfl,?_,rfl,?_⟩;(all_goals try simp only [List.drop,List.take,List.cons_append,List.nil_append,nmL,List.length_cons,List.length_nil,Nat.reduceAdd,List.getD_cons_zero]);(repeat' (first|(with_reducible first|exact bP _|exact bQ|exact bR|refine bS ?_ ?_|refine bT ?_ ?_|exact ay _|exact bN _|exact ao _|rfl|exact aS _ _|refine aA ?_|exact bO _|refine aW ?_)|refine bU rfl ?_ ?_|exact aT hN _ rfl rfl rfl|exact aU hN _ rfl rfl rfl|exact aB hN _ rfl rfl rfl (Or.inr rfl)|(refine aV hN _ rfl rfl (by first|exact Or.inr rfl|exact Or.inl rfl) ?_;first|exact aN _|exact aO _)|refine aC hN rfl ?_|refine aD hN rfl rfl ?_|exact az hN _ rfl rfl|exact aE hN rfl rfl rfl rfl|(with_reducible first|refine aR ?_|refine bF ?_|refine bH ?_|refine bI ?_|refine bG ?_|refine bE ?_))))
   · rw [s7,if_pos hu,htt]
   · rw [hu]
end Go.Proofs.Ytfaefmabjjndeaa
namespace Go.Proofs.Ytfaefmabjjndeaa
set_option linter.unusedVariables false
set_option linter.unusedSimpArgs false
open Go.RowKit
attribute [local irreducible] ax cJ Aw Le
def oC (g : Pa) : Prop:=ax Try.prog 136 [paA g] [.arr 2 .yes (.I (dN g).pick)] (fun ns=>.agg [.c (.I g.ar.own),.c (.I g.prio),.c (.R g.ar.nxt),.c (.R (dN g).prev),.sl (ns.getD 0 0)])
theorem rG {g : Pa} {v : Nat} (hv : v < g.prio.length) (h : (gi (aX g) v == 1) = false) : gi (aX g) v = 0:=(gf hv).resolve_right (uB h)
theorem j5 (g : Pa) (hg : PaOk g) (P : List Int) (hP : PickOk g P) (v : Nat) (hv : v < g.prio.length) (ho : gi g.ar.own v = gi (aX g) v) (i : Int) (hi : gi (aX g) v = i) : dG Try.prog 158 (fun ν=>[.agg [.c (.I g.ar.own),.c (.I g.prio),.c (.R g.ar.nxt),.c (.R (dN g).prev),.sl (ν 0)],.c (.B (gg (aX g) i)),.c (.int .i64 v)]) [.arr 2 .yes (.I P)] [.arr 2 .yes (.I (P.set v (s7 g (aX g) P v)))] [] (fun _=>.c (.int .i64 (eQ g (aX g) v P (gr g.ar.nxt v)))):=by
 subst hi
 exact pF g hg P hP v hv ho
set_option maxHeartbeats 4000000 in
theorem lH (g : Pa) (ps : List Int) (h : pD g ps) (hOf : oC g) : ax Try.prog 91 [paA g,.c (.I ps)] [.arr 2 .yes (.I (aX g)),.arr 2 .yes (.I (ep g (aX g) ps g.prio.length))] (fun ns=>.tup [.agg [.sl (ns.getD 0 0),.sl (ns.getD 1 0)],.c (.bool true)]):=by
 have hp:=iU h
 have h1:=mD g ps
 rw [bW h.1] at h1
 obtain ⟨⟨⟨hg,hps⟩,hw⟩,ho⟩:=h
 have hl:=hg.len
 have hle:=hg.ar.le
 have hln:=hg.ar.len
 have hpl:=hps.1
 have hwl:=dw g
 have h3:=lD g hg
 unfold oC at hOf
 have hgp : (dN g).pick.length = g.prio.length:=cY _ _
 (refine bV aP Try.func91 rfl rfl (by kernel_rfl) fun hp0 ν hX hN=>?_;simp only [cK,Nat.reduceAdd])
 (repeat' (first|(with_reducible first|(refine hK _ _ ?_;clear hK K)|(refine aa _ ?_;clear aa K)|(refine ab _ _ _ ?_;clear ab K)|(refine ac _ _ ?_;clear ac K)|refine bj ?_|refine cc ?_|refine bc ?_|refine aq ?_|refine ap ?_|refine ce ?_|refine aJ ?_|refine bd ?_|refine cf ?_|refine be ?_|refine bf rfl ?_|refine bm ?_|refine bg ?_|refine cg ?_|refine bh ?_|refine aI ?_|refine n_k ?_|refine bi ?_|(refine ae ?_;clear ae X af Y)|(refine af ?_;clear ae X af Y))|(with_reducible refine br ?_;first|refine bo rfl ?_|refine bp rfl ?_)|(with_reducible refine bz ?_;first|refine au rfl rfl rfl rfl ?_|refine aL rfl rfl rfl ?_|refine bv rfl rfl rfl rfl ?_)|(with_reducible refine cD ?_;first|refine bY rfl rfl rfl rfl ?_|refine ck rfl rfl rfl ?_|refine cG rfl rfl rfl rfl ?_|refine cH hN (by apply Exists.intro;apply And.intro;(repeat' (first|apply FtI.nil|apply FI.nil|apply FI.cons|apply FtI.cons));kernel_rfl) ?_)|((first|(with_reducible first|refine bt rfl rfl fun K hK=>?_|refine cE rfl rfl fun K ab=>?_|refine bu rfl rfl fun K aa=>?_|refine cF rfl rfl fun K ac=>?_|refine aK fun X Y ae af=>?_|refine aM ?_)|(with_reducible refine bz ?_;refine bJ rfl rfl fun X Y ae af=>?_)|(with_reducible refine cD ?_;refine cL rfl rfl fun X Y ae af=>?_));simp (disch:=first|decide|omega|(simp only [List.length_cons,List.length_nil];omega)) only [go_sem,beq_self_eq_true,↓aj,↓ak hN,am hN,reduceIte,reduceCtorEq,Nat.reduceAdd,Nat.reduceLT,Nat.reduceLeDiff,Nat.reduceEqDiff,Nat.reduceSub])|(with_reducible refine And.intro (fun h=>?_) (fun h=>?_) <;> try (exfalso;omega))|(with_reducible refine bn aP hN rfl ?_ ?_;kernel_rfl)|(with_reducible refine bZ aP hN rfl ?_ ?_ ?_ ?_;(kernel_rfl);(kernel_rfl);(kernel_rfl))|(refine bK h1 ?_ rfl (fun _=>rfl) ?_)|(refine bK h3 ?_ rfl (fun _=>rfl) ?_)|(refine fi hOf ?_ rfl rfl ?_)|(with_reducible first|exact aG|refine aF ?_ ?_|exact cC _|refine bC ?_|exact ba _|exact b9 _ _|refine b8 ?_|exact aZ _)|exact bD hN rfl rfl|(refine b7 hN rfl ?_;first|exact aN _|exact aO _)|exact a8 rfl rfl rfl|(simp only [bB,List.map_nil])|(with_reducible refine cm ?_)|(with_reducible refine And.intro ?_ ?_)|(refine ah ?_;omega)|(exact bw hN (by decide))))
 (refine co (fun (k : Nat)=>(tmL [(8,.c (.int .i64 k)),(7,.ad (ν 4) 0),(6,.sl (ν 2)),(4,.ad (ν 1) 0),(2,.ad (ν 0) 0),(1,.c (.I ps))],hpL hp0 ν [.box [.c (.I g.ar.own),.c (.R g.ar.nxt),.c (.I g.prio)],.box [.c .nul,.c .nul],.arr 2 .yes (.I (aX g)),.arr 2 .yes (.I (tab g.prio.length fun v=>if v < k then gi ps v else -1)),.box [.c (.I g.ar.own),.c (.I g.prio),.c (.R g.ar.nxt),.c (.R (dN g).prev),.sl (ν 3)]])) (fun (k : Nat)=>k ≤ ps.length) (fun (k : Nat)=>ps.length - k) ⟨0,?_,bX hX hN [] ?_ ?_⟩ ?_;(repeat' (first|(with_reducible first|exact bP _|exact bQ|exact bR|refine bS ?_ ?_|refine bT ?_ ?_|exact ay _|exact bN _|exact ao _|rfl|exact aS _ _|refine aA ?_|exact bO _|refine aW ?_)|refine bU rfl ?_ ?_|exact aT hN _ rfl rfl rfl|exact aU hN _ rfl rfl rfl|exact aB hN _ rfl rfl rfl (Or.inr rfl)|(refine aV hN _ rfl rfl (by first|exact Or.inr rfl|exact Or.inl rfl) ?_;first|exact aN _|exact aO _)|refine aC hN rfl ?_|refine aD hN rfl rfl ?_|exact az hN _ rfl rfl|exact aE hN rfl rfl rfl rfl|(with_reducible first|refine aR ?_|refine bF ?_|refine bH ?_|refine bI ?_|refine bG ?_|refine bE ?_)));(try (any_goals (first|(with_reducible rfl)|(refine ah ?_;omega)))))
 · exact c7 fun j hj=>if_neg (by omega)
 intro k hk
 have hfk : k < ps.length → ¬ gi ps k = -1 → gi g.ar.own k = gi (aX g) k:=fun h1 h2=>ho k h1 (by
  rcases hps.2 k h1 with e|e
  · exact absurd e h2
  · obtain ⟨t,ht,e'⟩:=c4 e
    have:=dR hg (by omega) ht
    omega)
 have htl:=cY g.prio.length fun v=>if v < k then gi ps v else (-1 : Int)
 (repeat' (first|(with_reducible first|(refine hK _ _ ?_;clear hK K)|(refine aa _ ?_;clear aa K)|(refine ab _ _ _ ?_;clear ab K)|(refine ac _ _ ?_;clear ac K)|refine bj ?_|refine cc ?_|refine bc ?_|refine aq ?_|refine ap ?_|refine ce ?_|refine aJ ?_|refine bd ?_|refine cf ?_|refine be ?_|refine bf rfl ?_|refine bm ?_|refine bg ?_|refine cg ?_|refine bh ?_|refine aI ?_|refine n_k ?_|refine bi ?_|(refine ae ?_;clear ae X af Y)|(refine af ?_;clear ae X af Y))|(with_reducible refine br ?_;first|refine bo rfl ?_|refine bp rfl ?_)|(with_reducible refine bz ?_;first|refine au rfl rfl rfl rfl ?_|refine aL rfl rfl rfl ?_|refine bv rfl rfl rfl rfl ?_)|(with_reducible refine cD ?_;first|refine bY rfl rfl rfl rfl ?_|refine ck rfl rfl rfl ?_|refine cG rfl rfl rfl rfl ?_|refine cH hN (by apply Exists.intro;apply And.intro;(repeat' (first|apply FtI.nil|apply FI.nil|apply FI.cons|apply FtI.cons));kernel_rfl) ?_)|((first|(with_reducible first|refine bt rfl rfl fun K hK=>?_|refine cE rfl rfl fun K ab=>?_|refine bu rfl rfl fun K aa=>?_|refine cF rfl rfl fun K ac=>?_|refine aK fun X Y ae af=>?_|refine aM ?_)|(with_reducible refine bz ?_;refine bJ rfl rfl fun X Y ae af=>?_)|(with_reducible refine cD ?_;refine cL rfl rfl fun X Y ae af=>?_));simp (disch:=first|decide|omega|(simp only [List.length_cons,List.length_nil];omega)) only [go_sem,beq_self_eq_true,↓aj,↓ak hN,am hN,reduceIte,reduceCtorEq,Nat.reduceAdd,Nat.reduceLT,Nat.reduceLeDiff,Nat.reduceEqDiff,Nat.reduceSub])|(with_reducible refine And.intro (fun h=>?_) (fun h=>?_) <;> try (exfalso;omega))|(with_reducible refine bn aP hN rfl ?_ ?_;kernel_rfl)|(with_reducible refine bZ aP hN rfl ?_ ?_ ?_ ?_;(kernel_rfl);(kernel_rfl);(kernel_rfl))|(refine bK (j3 (aX g) 0 (by omega)) ?_ rfl (fun _=>rfl) ?_;focus ((repeat' (first|(with_reducible first|exact aG|refine aF ?_ ?_|exact cC _|refine bC ?_|exact ba _|exact b9 _ _|refine b8 ?_|exact aZ _)|exact bD hN rfl rfl|(refine b7 hN rfl ?_;first|exact aN _|exact aO _)|exact a8 rfl rfl rfl));done))|(refine bK (j3 (aX g) 1 (by omega)) ?_ rfl (fun _=>rfl) ?_;focus ((repeat' (first|(with_reducible first|exact aG|refine aF ?_ ?_|exact cC _|refine bC ?_|exact ba _|exact b9 _ _|refine b8 ?_|exact aZ _)|exact bD hN rfl rfl|(refine b7 hN rfl ?_;first|exact aN _|exact aO _)|exact a8 rfl rfl rfl));done))|(with_reducible first|exact aG|refine aF ?_ ?_|exact cC _|refine bC ?_|exact ba _|exact b9 _ _|refine b8 ?_|exact aZ _)|exact bD hN rfl rfl|(refine b7 hN rfl ?_;first|exact aN _|exact aO _)|exact a8 rfl rfl rfl|(simp only [bB,List.map_nil])|(with_reducible refine cm ?_)|(with_reducible refine And.intro ?_ ?_)|(refine ah ?_;omega)|(exact bw hN (by decide))))
 · (refine ⟨k + 1,⟨?_,?_⟩,bX hX hN [] ?_ ?_⟩;(try any_goals dsimp only);(repeat' (first|(with_reducible first|exact bP _|exact bQ|exact bR|refine bS ?_ ?_|refine bT ?_ ?_|exact ay _|exact bN _|exact ao _|rfl|exact aS _ _|refine aA ?_|exact bO _|refine aW ?_)|refine bU rfl ?_ ?_|exact aT hN _ rfl rfl rfl|exact aU hN _ rfl rfl rfl|exact aB hN _ rfl rfl rfl (Or.inr rfl)|(refine aV hN _ rfl rfl (by first|exact Or.inr rfl|exact Or.inl rfl) ?_;first|exact aN _|exact aO _)|refine aC hN rfl ?_|refine aD hN rfl rfl ?_|exact az hN _ rfl rfl|exact aE hN rfl rfl rfl rfl|(with_reducible first|refine aR ?_|refine bF ?_|refine bH ?_|refine bI ?_|refine bG ?_|refine bE ?_)));(try (any_goals (first|(with_reducible rfl)|(refine ah ?_;omega)))))
   exact kE (by omega) rfl
 · (refine ⟨k + 1,⟨?_,?_⟩,bX hX hN [] ?_ ?_⟩;(try any_goals dsimp only);(repeat' (first|(with_reducible first|exact bP _|exact bQ|exact bR|refine bS ?_ ?_|refine bT ?_ ?_|exact ay _|exact bN _|exact ao _|rfl|exact aS _ _|refine aA ?_|exact bO _|refine aW ?_)|refine bU rfl ?_ ?_|exact aT hN _ rfl rfl rfl|exact aU hN _ rfl rfl rfl|exact aB hN _ rfl rfl rfl (Or.inr rfl)|(refine aV hN _ rfl rfl (by first|exact Or.inr rfl|exact Or.inl rfl) ?_;first|exact aN _|exact aO _)|refine aC hN rfl ?_|refine aD hN rfl rfl ?_|exact az hN _ rfl rfl|exact aE hN rfl rfl rfl rfl|(with_reducible first|refine aR ?_|refine bF ?_|refine bH ?_|refine bI ?_|refine bG ?_|refine bE ?_)));(try (any_goals (first|(with_reducible rfl)|(refine ah ?_;omega)))))
   exact kE (by omega) rfl
 have htp : (tab g.prio.length fun v=>if v < k then gi ps v else (-1 : Int)) = ep g (aX g) ps 0:=(ir (by omega)).trans (kQ hpl fun j hj=>rfl).symm
 rw [htp]
 clear hfk htl htp hk
 (refine co (fun (k : Nat)=>(tmL [(11,.c (.int .i64 k)),(9,.sl (ν 5)),(10,.sl (ν 6)),(7,.ad (ν 4) 0),(6,.sl (ν 2)),(4,.ad (ν 1) 0),(2,.ad (ν 0) 0)],hpL hp0 ν [.box [.c (.I g.ar.own),.c (.R g.ar.nxt),.c (.I g.prio)],.box [.c .nul,.c .nul],.arr 2 .yes (.I (aX g)),.arr 2 .yes (.I (ep g (aX g) ps k)),.box [.c (.I g.ar.own),.c (.I g.prio),.c (.R g.ar.nxt),.c (.R (dN g).prev),.sl (ν 3)],.arr 4 .yes (.B (gg (aX g) 0)),.arr 4 .yes (.B (gg (aX g) 1))])) (fun (k : Nat)=>k ≤ g.prio.length) (fun (k : Nat)=>g.prio.length - k) ⟨0,?_,bX hX hN [] ?_ ?_⟩ ?_;(repeat' (first|(with_reducible first|exact bP _|exact bQ|exact bR|refine bS ?_ ?_|refine bT ?_ ?_|exact ay _|exact bN _|exact ao _|rfl|exact aS _ _|refine aA ?_|exact bO _|refine aW ?_)|refine bU rfl ?_ ?_|exact aT hN _ rfl rfl rfl|exact aU hN _ rfl rfl rfl|exact aB hN _ rfl rfl rfl (Or.inr rfl)|(refine aV hN _ rfl rfl (by first|exact Or.inr rfl|exact Or.inl rfl) ?_;first|exact aN _|exact aO _)|refine aC hN rfl ?_|refine aD hN rfl rfl ?_|exact az hN _ rfl rfl|exact aE hN rfl rfl rfl rfl|(with_reducible first|refine aR ?_|refine bF ?_|refine bH ?_|refine bI ?_|refine bG ?_|refine bE ?_)));(try (any_goals (first|(with_reducible rfl)|(refine ah ?_;omega)))))
 intro k hk
 have hPok:=iC hg hp k hk
 have hPl:=hPok.pk.1
 have hstep : ep g (aX g) ps (k + 1) = jc g (aX g) (ep g (aX g) ps k) k:=rfl
 generalize hP : ep g (aX g) ps k = P at *
 (repeat' (first|(with_reducible first|(refine hK _ _ ?_;clear hK K)|(refine aa _ ?_;clear aa K)|(refine ab _ _ _ ?_;clear ab K)|(refine ac _ _ ?_;clear ac K)|refine bj ?_|refine cc ?_|refine bc ?_|refine aq ?_|refine ap ?_|refine ce ?_|refine aJ ?_|refine bd ?_|refine cf ?_|refine be ?_|refine bf rfl ?_|refine bm ?_|refine bg ?_|refine cg ?_|refine bh ?_|refine aI ?_|refine n_k ?_|refine bi ?_|(refine ae ?_;clear ae X af Y)|(refine af ?_;clear ae X af Y))|(with_reducible refine br ?_;first|refine bo rfl ?_|refine bp rfl ?_)|(with_reducible refine bz ?_;first|refine au rfl rfl rfl rfl ?_|refine aL rfl rfl rfl ?_|refine bv rfl rfl rfl rfl ?_)|(with_reducible refine cD ?_;first|refine bY rfl rfl rfl rfl ?_|refine ck rfl rfl rfl ?_|refine cG rfl rfl rfl rfl ?_|refine cH hN (by apply Exists.intro;apply And.intro;(repeat' (first|apply FtI.nil|apply FI.nil|apply FI.cons|apply FtI.cons));kernel_rfl) ?_)|((first|(with_reducible first|refine bt rfl rfl fun K hK=>?_|refine cE rfl rfl fun K ab=>?_|refine bu rfl rfl fun K aa=>?_|refine cF rfl rfl fun K ac=>?_|refine aK fun X Y ae af=>?_|refine aM ?_)|(with_reducible refine bz ?_;refine bJ rfl rfl fun X Y ae af=>?_)|(with_reducible refine cD ?_;refine cL rfl rfl fun X Y ae af=>?_));simp (disch:=first|decide|omega|(simp only [List.length_cons,List.length_nil];omega)) only [go_sem,beq_self_eq_true,↓aj,↓ak hN,am hN,reduceIte,reduceCtorEq,Nat.reduceAdd,Nat.reduceLT,Nat.reduceLeDiff,Nat.reduceEqDiff,Nat.reduceSub])|(with_reducible refine And.intro (fun h=>?_) (fun h=>?_) <;> try (exfalso;omega))|(with_reducible refine bn aP hN rfl ?_ ?_;kernel_rfl)|(with_reducible refine bZ aP hN rfl ?_ ?_ ?_ ?_;(kernel_rfl);(kernel_rfl);(kernel_rfl))|(refine dI (j5 g hg P hPok k (by omega) (en (by assumption)).symm 0 (rG (by omega) (by assumption))) hN 3 rfl rfl rfl rfl rfl ?_ ?_ ?_ ?_;(focus (simp [aY,AV.names];done));(focus (intro ν' hν;(repeat' (first|exact ArgMs.nil|refine ArgMs.cons ?_ ?_|exact gB hν|exact gC hν|exact jg _|exact iN (by first|exact ba _|exact aZ _|exact a8 rfl rfl rfl) rfl|(refine gD hN rfl ?_ (by decide);first|exact aN _|exact aO _)|refine eI ?_));done));(focus (first|exact Or.inr ⟨rfl,rfl,fun _=>rfl⟩|exact Or.inl (by simp [aY,AV.names]))))|(refine dI (j5 g hg P hPok k (by omega) (en (by assumption)).symm 1 (by assumption)) hN 3 rfl rfl rfl rfl rfl ?_ ?_ ?_ ?_;(focus (simp [aY,AV.names];done));(focus (intro ν' hν;(repeat' (first|exact ArgMs.nil|refine ArgMs.cons ?_ ?_|exact gB hν|exact gC hν|exact jg _|exact iN (by first|exact ba _|exact aZ _|exact a8 rfl rfl rfl) rfl|(refine gD hN rfl ?_ (by decide);first|exact aN _|exact aO _)|refine eI ?_));done));(focus (first|exact Or.inr ⟨rfl,rfl,fun _=>rfl⟩|exact Or.inl (by simp [aY,AV.names]))))|(with_reducible first|exact aG|refine aF ?_ ?_|exact cC _|refine bC ?_|exact ba _|exact b9 _ _|refine b8 ?_|exact aZ _)|exact bD hN rfl rfl|(refine b7 hN rfl ?_;first|exact aN _|exact aO _)|exact a8 rfl rfl rfl|(simp only [bB,List.map_nil])|(with_reducible refine cm ?_)|(simp (disch:=first|decide|omega|(simp only [List.length_cons,List.length_nil];omega)) only [bB,List.map_cons,List.map_nil,am hN,List.set_cons_zero,List.set_cons_succ])|(with_reducible refine And.intro ?_ ?_)|(refine ah ?_;omega)|(exact bw hN (by decide))))
 · (refine ⟨k + 1,⟨?_,?_⟩,bX hX hN [] ?_ ?_⟩;(try any_goals dsimp only);(repeat' (first|(with_reducible first|exact bP _|exact bQ|exact bR|refine bS ?_ ?_|refine bT ?_ ?_|exact ay _|exact bN _|exact ao _|rfl|exact aS _ _|refine aA ?_|exact bO _|refine aW ?_)|refine bU rfl ?_ ?_|exact aT hN _ rfl rfl rfl|exact aU hN _ rfl rfl rfl|exact aB hN _ rfl rfl rfl (Or.inr rfl)|(refine aV hN _ rfl rfl (by first|exact Or.inr rfl|exact Or.inl rfl) ?_;first|exact aN _|exact aO _)|refine aC hN rfl ?_|refine aD hN rfl rfl ?_|exact az hN _ rfl rfl|exact aE hN rfl rfl rfl rfl|(with_reducible first|refine aR ?_|refine bF ?_|refine bH ?_|refine bI ?_|refine bG ?_|refine bE ?_)));(try (any_goals (first|(with_reducible rfl)|(refine ah ?_;omega)))))
   rw [hstep]
   exact if_neg fun c=>absurd c.2 (by omega)
 · (refine ⟨k + 1,⟨?_,?_⟩,bX hX hN [] ?_ ?_⟩;(try any_goals dsimp only);(repeat' (first|(with_reducible first|exact bP _|exact bQ|exact bR|refine bS ?_ ?_|refine bT ?_ ?_|exact ay _|exact bN _|exact ao _|rfl|exact aS _ _|refine aA ?_|exact bO _|refine aW ?_)|refine bU rfl ?_ ?_|exact aT hN _ rfl rfl rfl|exact aU hN _ rfl rfl rfl|exact aB hN _ rfl rfl rfl (Or.inr rfl)|(refine aV hN _ rfl rfl (by first|exact Or.inr rfl|exact Or.inl rfl) ?_;first|exact aN _|exact aO _)|refine aC hN rfl ?_|refine aD hN rfl rfl ?_|exact az hN _ rfl rfl|exact aE hN rfl rfl rfl rfl|(with_reducible first|refine aR ?_|refine bF ?_|refine bH ?_|refine bI ?_|refine bG ?_|refine bE ?_)));(try (any_goals (first|(with_reducible rfl)|(refine ah ?_;omega)))))
   rw [hstep]
   exact if_neg fun c=>absurd c.1.symm (by assumption)
 · (refine ⟨k + 1,⟨?_,?_⟩,bX hX hN [] ?_ ?_⟩;(try any_goals dsimp only);(repeat' (first|(with_reducible first|exact bP _|exact bQ|exact bR|refine bS ?_ ?_|refine bT ?_ ?_|exact ay _|exact bN _|exact ao _|rfl|exact aS _ _|refine aA ?_|exact bO _|refine aW ?_)|refine bU rfl ?_ ?_|exact aT hN _ rfl rfl rfl|exact aU hN _ rfl rfl rfl|exact aB hN _ rfl rfl rfl (Or.inr rfl)|(refine aV hN _ rfl rfl (by first|exact Or.inr rfl|exact Or.inl rfl) ?_;first|exact aN _|exact aO _)|refine aC hN rfl ?_|refine aD hN rfl rfl ?_|exact az hN _ rfl rfl|exact aE hN rfl rfl rfl rfl|(with_reducible first|refine aR ?_|refine bF ?_|refine bH ?_|refine bI ?_|refine bG ?_|refine bE ?_)));(try (any_goals (first|(with_reducible rfl)|(refine ah ?_;omega)))))
   rw [hstep,List.set_set]
   exact if_pos ⟨(en (by assumption)).symm,by omega⟩
 · (refine ⟨k + 1,⟨?_,?_⟩,bX hX hN [] ?_ ?_⟩;(try any_goals dsimp only);(repeat' (first|(with_reducible first|exact bP _|exact bQ|exact bR|refine bS ?_ ?_|refine bT ?_ ?_|exact ay _|exact bN _|exact ao _|rfl|exact aS _ _|refine aA ?_|exact bO _|refine aW ?_)|refine bU rfl ?_ ?_|exact aT hN _ rfl rfl rfl|exact aU hN _ rfl rfl rfl|exact aB hN _ rfl rfl rfl (Or.inr rfl)|(refine aV hN _ rfl rfl (by first|exact Or.inr rfl|exact Or.inl rfl) ?_;first|exact aN _|exact aO _)|refine aC hN rfl ?_|refine aD hN rfl rfl ?_|exact az hN _ rfl rfl|exact aE hN rfl rfl rfl rfl|(with_reducible first|refine aR ?_|refine bF ?_|refine bH ?_|refine bI ?_|refine bG ?_|refine bE ?_)));(try (any_goals (first|(with_reducible rfl)|(refine ah ?_;omega)))))
   rw [hstep,List.set_set]
   exact if_pos ⟨(en (by assumption)).symm,by omega⟩
 · (refine fl hN [2,3] (by decide) (.inr rfl) (by first|exact cP rfl rfl|exact cI hN rfl rfl rfl rfl|exact cA hN rfl rfl rfl rfl rfl|(simp (disch:=first|decide|omega|(simp only [List.length_cons,List.length_nil];omega)) only [cj,cn,cu,cy,go_sem,beq_self_eq_true,↓aj,↓ak hN,am hN,reduceIte,reduceCtorEq,Nat.reduceAdd,Nat.reduceLT,Nat.reduceLeDiff,Nat.reduceEqDiff,Nat.reduceSub];rfl)|rfl) ?_ fun νs hνs=>?_;(repeat' (first|exact Gone.nil|(refine Gone.cons rfl rfl ?_ ?_)|(with_reducible refine ec ?_)|(with_reducible refine eb ?_)|(with_reducible refine SVs.cons ?_ ?_)|(with_reducible exact SVs.nil)|(simp only [List.drop,List.take])|(simp (disch:=first|decide|omega) only [↓aj,reduceIte,reduceCtorEq,Nat.reduceEqDiff])|(with_reducible exact iu _)|(with_reducible exact d8 _)|(exact d9 rfl rfl rfl)|(exact eG 0 (by simp) rfl rfl)|(exact eG 1 (by simp) rfl rfl)|(refine fk hN rfl (ee hN (by decide)) ?_)|(with_reducible refine fj ?_)|(with_reducible rfl)|(with_reducible refine bF ?_)|(with_reducible refine bH ?_)|(with_reducible refine bI ?_)|(with_reducible refine bG ?_)|(with_reducible refine bE ?_)|(refine ah ?_;omega))))
   all_goals first|rfl|(rw [← hP,show k = g.prio.length by omega])
end Go.Proofs.Ytfaefmabjjndeaa
