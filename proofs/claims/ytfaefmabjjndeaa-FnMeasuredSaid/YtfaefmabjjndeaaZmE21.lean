/-
  PlanFrom and Solved: the reference's side (the contract of l7Of with its own pick list is a premise still).
-/
import Derived.Test.YtfaefmabjjndeaaZmE19
namespace Go.Proofs.Ytfaefmabjjndeaa
set_option linter.unusedVariables false
set_option linter.unusedSimpArgs false
open Go.RowKit
attribute [local irreducible] aG cP Aw Le
def gmP (g : Pa) (P : List Int) : Gm:=⟨(dO g).own,(dO g).prio,(dO g).nxt,(dO g).prev,P⟩
theorem xC {g : Pa} (hg : PaOk g) {P : List Int} (h : P.length = g.prio.length) : GmOk (gmP g P) g.prio.length:=by
 obtain ⟨a,b,c,d,e,f,h1,h2,h3,h4,h5,h6,h7⟩:=kb hg
 exact ⟨a,b,c,d,e,h,h1,h2,h3,h4,h5,h6,h7⟩
theorem yO {A B : PG.Gm} (h1 : A.own = B.own) (h2 : A.prio = B.prio) (h3 : A.E = B.E) : A = B:=by
 cases A;cases B
 simp only at h1 h2 h3
 subst h1;subst h2;subst h3
 rfl
theorem nh {g : Pa} (hg : PaOk g) {P : List Int} (h : fI g P) : dw (gmP g P) g.prio.length = pgP (eO g P):=by
 refine yO rfl rfl (funext fun v=>funext fun u=>propext ?_)
 rw [jg]
 show v < _ ∧ u < _ ∧ edg (gmP g P) v u = true ∧ (∃ t,t < (gr g.ar.nxt v).length ∧ gi (gr g.ar.nxt v) t = (u : Int)) ↔ v < g.prio.length ∧ u < g.prio.length ∧ _
 refine and_congr_right fun hv=>and_congr_right fun hu=>?_
 have hl:=hg.len
 rw [show gr (eO g P).ar.nxt v = fm g.ar.nxt P v from dy _ (by omega)]
 have he : edg (gmP g P) v u = true ↔ gi P v < 0 ∨ gi P v = (u : Int):=by
  simp only [edg,gmP,Bool.or_eq_true,beq_iff_eq,Int.toNat_natCast]
  exact or_congr_left ⟨fun h=>of_decide_eq_true h,fun h=>decide_eq_true h⟩
 rw [he]
 unfold fm
 split
 · rename_i h0
   constructor
   · rintro ⟨h1|h1,_⟩
     · omega
     · exact ⟨0,by simp,h1⟩
   · rintro ⟨t,ht,e⟩
     have : t = 0:=by simpa using ht
     subst this
     have e' : gi P v = (u : Int):=e
     refine ⟨.inr e',?_⟩
     rcases h.2 v (by have:=h.1;omega) with e2|e2
     · omega
     · obtain ⟨t,ht,e3⟩:=dm e2
       exact ⟨t,ht,e3.trans e'⟩
 · exact ⟨fun x=>x.2,fun x=>⟨.inl (by omega),x⟩⟩
def gG (W : List Int) (i : Int) : List Bool:=dg W.length fun v=>gi W v == i
theorem k8 (W : List Int) (i : Int) : (gG W i).length = W.length:=dl _ _
theorem jj {W : List Int} {i : Int} {v : Nat} : gb (gG W i) v = true ↔ (v : Int) ∈ atL W i:=by
 rw [qQ]
 constructor
 · intro h
   have hv : v < W.length:=by have:=jf h;rwa [k8] at this
   rw [gG,dx _ hv] at h
   exact ⟨v,hv,rfl,by simpa using h⟩
 · rintro ⟨u,h1,h2,h3⟩
   have : u = v:=by omega
   subst this
   rw [gG,dx _ h1,h3];simp
theorem r9 {g : Pa} (hg : PaOk g) {P : List Int} (h : PickOk g P) {i : Int} (hi : i = 0 ∨ i = 1) : (∀ v,gb (gG (cj g) i) v = true → (PG.Won (dw (gmP g P) g.prio.length) 0 (fun v=>gb (gG (cj g) i) v = true) v ↔ i = 0)) ↔ lB g (cj g) i P:=by
 rw [nh hg h.pk,show (fun v=>gb (gG (cj g) i) v = true) = fun v : Nat=>(v : Int) ∈ atL (cj g) i from funext fun v=>propext jj]
 have ht:=oH (jh hg h.pk) (oL hg h i)
 have hS : ∀ v : Nat,(v : Int) ∈ atL (cj g) i → v < (eO g P).prio.length:=fun v hv=>(kk.1 hv).1
 unfold lB
 refine forall_congr' fun v=>?_
 rw [jj]
 refine imp_congr_right fun hv=>?_
 have hn:=tT (P:=pgP (eO g P)) tV hS ht (i:=0) (.inl rfl) v
 rcases hi with e|e <;> subst e
 · exact ⟨fun h=>h.2 rfl,fun h=>⟨fun _=>rfl,fun _=>h⟩⟩
 · exact ⟨fun h=>hn.2 ⟨hv,fun h'=>absurd (h.1 h') (by omega)⟩,fun h=>⟨fun h'=>absurd h' (hn.1 h).2,fun h'=>absurd h' (by omega)⟩⟩
def jS (W us P : List Int) (v : Nat) : Nat → Int
 | 0 => gi P v
 | t + 1 => if gi W (gi us t).toNat = gi W v then gi us t else jS W us P v t
noncomputable def vP (g : Pa) (W P : List Int) (v : Nat) : Int:=if gF g W v P (gr g.ar.nxt v) = -1 then jS W (gr g.ar.nxt v) P v (gr g.ar.nxt v).length else gF g W v P (gr g.ar.nxt v)
theorem k9 (W : List Int) (i : Int) (hl : W.length ≤ 1048576) : aG Try.prog 157 [.c (.I W),.c (.int .i64 i)] [.arr 4 .yes (.B (gG W i))] (fun ns=>.sl (ns.getD 0 0)):=by
 (refine b8 aP Try.func157 rfl rfl (by kernel_rfl) fun hp0 ν hX hN=>?_;simp only [cS,Nat.reduceAdd])
 (repeat' (first|(with_reducible first|(refine hK _ _ ?_;clear hK K)|(refine aa _ ?_;clear aa K)|refine bm ?_|refine ce ?_|refine bd ?_|refine ax ?_|refine au ?_|refine cf ?_|refine aK ?_|refine be ?_|refine cg ?_|refine bf ?_|refine bg rfl ?_|refine bn ?_|refine bh ?_|refine ch ?_|refine bi ?_|refine aJ ?_|refine n_k ?_|refine bj ?_|(refine ae ?_;clear ae X af Y)|(refine af ?_;clear ae X af Y))|(with_reducible refine bt ?_;first|refine bp rfl ?_|refine br rfl ?_)|(with_reducible refine bA ?_;first|refine ay rfl rfl rfl rfl ?_|refine aM rfl rfl rfl ?_|refine bw rfl rfl rfl rfl ?_)|((first|(with_reducible first|refine bu rfl rfl fun K hK=>?_|refine bv rfl rfl fun K aa=>?_|refine aL fun X Y ae af=>?_|refine aN ?_));simp (disch:=first|decide|omega|(simp only [List.length_cons,List.length_nil];omega)) only [go_sem,beq_self_eq_true,↓aj,↓ak hN,am hN,reduceIte,reduceCtorEq,Nat.reduceAdd,Nat.reduceLT,Nat.reduceLeDiff,Nat.reduceEqDiff,Nat.reduceSub])|(with_reducible refine And.intro (fun h=>?_) (fun h=>?_) <;> try (exfalso;omega))|(with_reducible refine bo aP hN rfl ?_ ?_;kernel_rfl)|(with_reducible refine And.intro ?_ ?_)|(refine ah ?_;omega)|(exact bz hN (by decide))))
 (refine cr (fun (k : Nat)=>(tmL [(6,.c (.int .i64 k)),(5,.sl (ν 0)),(0,.c (.I W)),(1,.c (.int .i64 i))],hpL hp0 ν [.arr 4 .yes (.B (dg W.length fun v=>if v < k then gi W v == i else false))])) (fun (k : Nat)=>k ≤ W.length) (fun (k : Nat)=>W.length - k) ⟨0,?_,bZ hX hN [] ?_ ?_⟩ ?_;(repeat' (first|(with_reducible first|exact bS _|exact bT|exact bU|refine bV ?_ ?_|refine bW ?_ ?_|exact az _|exact bQ _|exact ap _|rfl|exact aU _ _|refine aB ?_|exact bR _|refine aY ?_)|refine bX rfl ?_ ?_|exact aV hN _ rfl rfl rfl|exact aW hN _ rfl rfl rfl|exact aC hN _ rfl rfl rfl (Or.inr rfl)|(refine aX hN _ rfl rfl (by first|exact Or.inr rfl|exact Or.inl rfl) ?_;first|exact aH _|exact aI _)|refine aD hN rfl ?_|refine aE hN rfl rfl ?_|exact aA hN _ rfl rfl|exact aF hN rfl rfl rfl rfl|(with_reducible first|refine aT ?_|refine bJ ?_|refine bK ?_|refine bL ?_|refine bH ?_|refine bI ?_)));(try (any_goals (first|(with_reducible rfl)|(refine ah ?_;omega)))))
 · exact dN _ _
 intro k hk
 have htl:=dl W.length fun v=>if v < k then gi W v == i else false
 (repeat' (first|(with_reducible first|(refine hK _ _ ?_;clear hK K)|(refine aa _ ?_;clear aa K)|refine bm ?_|refine ce ?_|refine bd ?_|refine ax ?_|refine au ?_|refine cf ?_|refine aK ?_|refine be ?_|refine cg ?_|refine bf ?_|refine bg rfl ?_|refine bn ?_|refine bh ?_|refine ch ?_|refine bi ?_|refine aJ ?_|refine n_k ?_|refine bj ?_|(refine ae ?_;clear ae X af Y)|(refine af ?_;clear ae X af Y))|(with_reducible refine bt ?_;first|refine bp rfl ?_|refine br rfl ?_)|(with_reducible refine bA ?_;first|refine ay rfl rfl rfl rfl ?_|refine aM rfl rfl rfl ?_|refine bw rfl rfl rfl rfl ?_)|((first|(with_reducible first|refine bu rfl rfl fun K hK=>?_|refine bv rfl rfl fun K aa=>?_|refine aL fun X Y ae af=>?_|refine aN ?_));simp (disch:=first|decide|omega|(simp only [List.length_cons,List.length_nil];omega)) only [go_sem,beq_self_eq_true,↓aj,↓ak hN,am hN,reduceIte,reduceCtorEq,Nat.reduceAdd,Nat.reduceLT,Nat.reduceLeDiff,Nat.reduceEqDiff,Nat.reduceSub])|(with_reducible refine And.intro (fun h=>?_) (fun h=>?_) <;> try (exfalso;omega))|(with_reducible refine bo aP hN rfl ?_ ?_;kernel_rfl)|(with_reducible refine And.intro ?_ ?_)|(refine ah ?_;omega)|(exact bz hN (by decide))))
 · (refine ⟨k + 1,⟨?_,?_⟩,bZ hX hN [] ?_ ?_⟩;(try any_goals dsimp only);(repeat' (first|(with_reducible first|exact bS _|exact bT|exact bU|refine bV ?_ ?_|refine bW ?_ ?_|exact az _|exact bQ _|exact ap _|rfl|exact aU _ _|refine aB ?_|exact bR _|refine aY ?_)|refine bX rfl ?_ ?_|exact aV hN _ rfl rfl rfl|exact aW hN _ rfl rfl rfl|exact aC hN _ rfl rfl rfl (Or.inr rfl)|(refine aX hN _ rfl rfl (by first|exact Or.inr rfl|exact Or.inl rfl) ?_;first|exact aH _|exact aI _)|refine aD hN rfl ?_|refine aE hN rfl rfl ?_|exact aA hN _ rfl rfl|exact aF hN rfl rfl rfl rfl|(with_reducible first|refine aT ?_|refine bJ ?_|refine bK ?_|refine bL ?_|refine bH ?_|refine bI ?_)));(try (any_goals (first|(with_reducible rfl)|(refine ah ?_;omega)))))
   exact eU (by omega) rfl
 · (refine dC hN (i:=0) (.inr rfl) (by first|rfl|(simp (disch:=first|decide|omega|(simp only [List.length_cons,List.length_nil];omega)) only [cw,cA,cF,cG,go_sem,beq_self_eq_true,↓aj,↓ak hN,am hN,reduceIte,reduceCtorEq,Nat.reduceAdd,Nat.reduceLT,Nat.reduceLeDiff,Nat.reduceEqDiff,Nat.reduceSub];rfl)) rfl ?_ rfl)
   exact congrArg C.B (dV (by omega))
theorem ul (n : Nat) (hl : n ≤ 1048576) : aG Try.prog 92 [.c (.int .i64 n)] [.arr 2 .yes (.I (noP n))] (fun ns=>.sl (ns.getD 0 0)):=by
 (refine b8 aP Try.func92 rfl rfl (by kernel_rfl) fun hp0 ν hX hN=>?_;simp only [cS,Nat.reduceAdd])
 (repeat' (first|(with_reducible first|(refine hK _ _ ?_;clear hK K)|(refine aa _ ?_;clear aa K)|refine bm ?_|refine ce ?_|refine bd ?_|refine ax ?_|refine au ?_|refine cf ?_|refine aK ?_|refine be ?_|refine cg ?_|refine bf ?_|refine bg rfl ?_|refine bn ?_|refine bh ?_|refine ch ?_|refine bi ?_|refine aJ ?_|refine n_k ?_|refine bj ?_|(refine ae ?_;clear ae X af Y)|(refine af ?_;clear ae X af Y))|(with_reducible refine bt ?_;first|refine bp rfl ?_|refine br rfl ?_)|(with_reducible refine bA ?_;first|refine ay rfl rfl rfl rfl ?_|refine aM rfl rfl rfl ?_|refine bw rfl rfl rfl rfl ?_)|((first|(with_reducible first|refine bu rfl rfl fun K hK=>?_|refine bv rfl rfl fun K aa=>?_|refine aL fun X Y ae af=>?_|refine aN ?_));simp (disch:=first|decide|omega|(simp only [List.length_cons,List.length_nil];omega)) only [go_sem,beq_self_eq_true,↓aj,↓ak hN,am hN,reduceIte,reduceCtorEq,Nat.reduceAdd,Nat.reduceLT,Nat.reduceLeDiff,Nat.reduceEqDiff,Nat.reduceSub])|(with_reducible refine And.intro (fun h=>?_) (fun h=>?_) <;> try (exfalso;omega))|(with_reducible refine bo aP hN rfl ?_ ?_;kernel_rfl)|(with_reducible refine And.intro ?_ ?_)|(refine ah ?_;omega)|(exact bz hN (by decide))))
 (refine cr (fun (k : Nat)=>(tmL [(4,.c (.int .i64 k)),(3,.sl (ν 0)),(0,.c (.int .i64 n))],hpL hp0 ν [.arr 2 .yes (.I (noP k))])) (fun (k : Nat)=>k ≤ n) (fun (k : Nat)=>n - k) ⟨0,?_,bZ hX hN [] ?_ ?_⟩ ?_;(repeat' (first|(with_reducible first|exact bS _|exact bT|exact bU|refine bV ?_ ?_|refine bW ?_ ?_|exact az _|exact bQ _|exact ap _|rfl|exact aU _ _|refine aB ?_|exact bR _|refine aY ?_)|refine bX rfl ?_ ?_|exact aV hN _ rfl rfl rfl|exact aW hN _ rfl rfl rfl|exact aC hN _ rfl rfl rfl (Or.inr rfl)|(refine aX hN _ rfl rfl (by first|exact Or.inr rfl|exact Or.inl rfl) ?_;first|exact aH _|exact aI _)|refine aD hN rfl ?_|refine aE hN rfl rfl ?_|exact aA hN _ rfl rfl|exact aF hN rfl rfl rfl rfl|(with_reducible first|refine aT ?_|refine bJ ?_|refine bK ?_|refine bL ?_|refine bH ?_|refine bI ?_)));(try (any_goals (first|(with_reducible rfl)|(refine ah ?_;omega)))))
 · rfl
 intro k hk
 have htl:=cy k fun _=>(-1 : Int)
 have hsu : noP (k + 1) = noP k ++ [-1]:=fe k fun _=>(-1 : Int)
 have hnl : (noP k).length = k:=cy _ _
 (repeat' (first|(with_reducible first|(refine hK _ _ ?_;clear hK K)|(refine aa _ ?_;clear aa K)|refine bm ?_|refine ce ?_|refine bd ?_|refine ax ?_|refine au ?_|refine cf ?_|refine aK ?_|refine be ?_|refine cg ?_|refine bf ?_|refine bg rfl ?_|refine bn ?_|refine bh ?_|refine ch ?_|refine bi ?_|refine aJ ?_|refine n_k ?_|refine bj ?_|(refine ae ?_;clear ae X af Y)|(refine af ?_;clear ae X af Y))|(with_reducible refine bt ?_;first|refine bp rfl ?_|refine br rfl ?_)|(with_reducible refine bA ?_;first|refine ay rfl rfl rfl rfl ?_|refine aM rfl rfl rfl ?_|refine bw rfl rfl rfl rfl ?_)|((first|(with_reducible first|refine bu rfl rfl fun K hK=>?_|refine bv rfl rfl fun K aa=>?_|refine aL fun X Y ae af=>?_|refine aN ?_));simp (disch:=first|decide|omega|(simp only [List.length_cons,List.length_nil];omega)) only [go_sem,beq_self_eq_true,↓aj,↓ak hN,am hN,reduceIte,reduceCtorEq,Nat.reduceAdd,Nat.reduceLT,Nat.reduceLeDiff,Nat.reduceEqDiff,Nat.reduceSub])|(with_reducible refine And.intro (fun h=>?_) (fun h=>?_) <;> try (exfalso;omega))|(with_reducible refine bo aP hN rfl ?_ ?_;kernel_rfl)|(with_reducible refine And.intro ?_ ?_)|(refine ah ?_;omega)|(exact bz hN (by decide))))
 · (refine ⟨k + 1,⟨?_,?_⟩,bZ hX hN [(0,2)] ?_ ?_⟩;(try any_goals dsimp only);(repeat' (first|(with_reducible first|exact bS _|exact bT|exact bU|refine bV ?_ ?_|refine bW ?_ ?_|exact az _|exact bQ _|exact ap _|rfl|exact aU _ _|refine aB ?_|exact bR _|refine aY ?_)|refine bX rfl ?_ ?_|exact aV hN _ rfl rfl rfl|exact aW hN _ rfl rfl rfl|exact aC hN _ rfl rfl rfl (Or.inr rfl)|(refine aX hN _ rfl rfl (by first|exact Or.inr rfl|exact Or.inl rfl) ?_;first|exact aH _|exact aI _)|refine aD hN rfl ?_|refine aE hN rfl rfl ?_|exact aA hN _ rfl rfl|exact aF hN rfl rfl rfl rfl|(with_reducible first|refine aT ?_|refine bJ ?_|refine bK ?_|refine bL ?_|refine bH ?_|refine bI ?_)));(try (any_goals (first|(with_reducible rfl)|(refine ah ?_;omega)))))
   all_goals rw [hsu]
 · (refine dC hN (i:=0) (.inr rfl) (by first|rfl|(simp (disch:=first|decide|omega|(simp only [List.length_cons,List.length_nil];omega)) only [cw,cA,cF,cG,go_sem,beq_self_eq_true,↓aj,↓ak hN,am hN,reduceIte,reduceCtorEq,Nat.reduceAdd,Nat.reduceLT,Nat.reduceLeDiff,Nat.reduceEqDiff,Nat.reduceSub];rfl)) rfl ?_ rfl)
   rw [show k = n by omega]
theorem la {g : Pa} {i x : Int} (h : gb (gG (cj g) i) x.toNat = true) : gi (cj g) x.toNat = i:=(kk.1 (jj.1 h)).2
theorem xD {g : Pa} {i x : Int} (hx : x.toNat < g.prio.length) (h : gb (gG (cj g) i) x.toNat = false) : ¬ gi (cj g) x.toNat = i:=fun e=>by
 rw [jj.2 (kk.2 ⟨hx,e⟩)] at h
 exact absurd h (by decide)
theorem um {g : Pa} (hg : PaOk g) {P : List Int} (h : PickOk g P) {k t : Nat} {x : Int} (hk : k < g.prio.length) (ho : gi g.ar.own k = gi (cj g) k) (ht : t < (gr g.ar.nxt k).length) (hw : gi (cj g) (gi (gr g.ar.nxt k) t).toNat = gi (cj g) k) : PickOk g ((P.set k x).set k (gi (gr g.ar.nxt k) t)):=by
 rw [List.set_set];exact uj hg h hk ho ht hw
theorem vQ (g : Pa) (hg : PaOk g) (P : List Int) (h : PickOk g P) (v : Nat) (hv : v < g.prio.length) (ho : gi g.ar.own v = gi (cj g) v) : aG Try.prog 203 [.agg [.c (.I g.ar.own),.c (.I g.prio),.c (.R g.ar.nxt),.c (.R (dO g).prev),.c (.I P)],.c (.B (gG (cj g) (gi (cj g) v))),.c (.int .i64 (gi g.ar.own v))] [] (fun _=>.c (.bool (tf (lB g (cj g) (gi (cj g) v) P)))):=by
 have hgo:=r9 hg h (kj hv)
 have ht : PG.Total (dw (gmP g P) g.prio.length) (fun u=>gb (gG (cj g) (gi (cj g) v)) u = true):=by
  rw [nh hg h.pk,show (fun u=>gb (gG (cj g) (gi (cj g) v)) u = true) = fun u : Nat=>(u : Int) ∈ atL (cj g) (gi (cj g) v) from funext fun v=>propext jj]
  exact oH (jh hg h.pk) (oL hg h _)
 have:=rX (gmP g P) g.prio.length (xC hg h.pk.1) (gG (cj g) (gi (cj g) v)) ((k8 _ _).trans (eN g)) (gi (cj g) v) ht
 rw [iP hgo] at this
 rw [ho]
 exact this
set_option maxHeartbeats 1000000 in
theorem sc (g : Pa) (hg : PaOk g) (P : List Int) (hP : PickOk g P) (v : Nat) (hv : v < g.prio.length) (ho : gi g.ar.own v = gi (cj g) v) : dJ Try.prog 158 (fun ν=>[.agg [.c (.I g.ar.own),.c (.I g.prio),.c (.R g.ar.nxt),.c (.R (dO g).prev),.sl (ν 0)],.c (.B (gG (cj g) (gi (cj g) v))),.c (.int .i64 v)]) [.arr 2 .yes (.I P)] [.arr 2 .yes (.I (P.set v (vP g (cj g) P v)))] [] (fun _=>.c (.int .i64 (gF g (cj g) v P (gr g.ar.nxt v)))):=by
 have hl:=hg.len
 have hle:=hg.ar.le
 have hln:=hg.ar.len
 have hPl:=hP.pk.1
 have hrl:=(hg.ar.vert v (by omega)).2.2.2.1
 have hRl:=(k8 (cj g) (gi (cj g) v)).trans (eN g)
 have hnx:=fun t (ht : t < (gr g.ar.nxt v).length)=>dS hg hv ht
 (refine eu aP Try.func158 rfl rfl (fun _=>by kernel_rfl) rfl rfl rfl rfl (by first|exact im _|exact fY (j:=0) (by simp) (by simp [Ent.kind])|exact fZ (j:=0) (by simp) (by simp [Ent.kind])|exact er rfl|exact fa|exact io _) fun hp0 ν hX hN=>?_;simp only [cS,Nat.reduceAdd])
 (repeat' (first|(with_reducible first|(refine hK _ _ ?_;clear hK K)|(refine aa _ ?_;clear aa K)|(refine ab _ _ _ ?_;clear ab K)|(refine ac _ _ ?_;clear ac K)|refine bm ?_|refine ce ?_|refine bd ?_|refine ax ?_|refine au ?_|refine cf ?_|refine aK ?_|refine be ?_|refine cg ?_|refine bf ?_|refine bg rfl ?_|refine bn ?_|refine bh ?_|refine ch ?_|refine bi ?_|refine aJ ?_|refine n_k ?_|refine bj ?_|(refine ae ?_;clear ae X af Y)|(refine af ?_;clear ae X af Y))|(with_reducible refine bt ?_;first|refine bp rfl ?_|refine br rfl ?_)|(with_reducible refine bA ?_;first|refine ay rfl rfl rfl rfl ?_|refine aM rfl rfl rfl ?_|refine bw rfl rfl rfl rfl ?_)|(with_reducible refine cx ?_;first|refine bM rfl rfl rfl rfl ?_|refine ci rfl rfl rfl ?_|refine cD rfl rfl rfl rfl ?_|refine cE hN (by apply Exists.intro;apply And.intro;(repeat' (first|apply FtI.nil|apply FI.nil|apply FI.cons|apply FtI.cons));kernel_rfl) ?_)|((first|(with_reducible first|refine bu rfl rfl fun K hK=>?_|refine cB rfl rfl fun K ab=>?_|refine bv rfl rfl fun K aa=>?_|refine cC rfl rfl fun K ac=>?_|refine aL fun X Y ae af=>?_|refine aN ?_));simp (disch:=first|decide|omega|(simp only [List.length_cons,List.length_nil];omega)) only [go_sem,beq_self_eq_true,↓aj,↓ak hN,am hN,reduceIte,reduceCtorEq,Nat.reduceAdd,Nat.reduceLT,Nat.reduceLeDiff,Nat.reduceEqDiff,Nat.reduceSub])|(with_reducible refine And.intro (fun h=>?_) (fun h=>?_) <;> try (exfalso;omega))|(with_reducible refine bo aP hN rfl ?_ ?_;kernel_rfl)|(with_reducible refine bO aP hN rfl ?_ ?_ ?_ ?_;(kernel_rfl);(kernel_rfl);(kernel_rfl))|(with_reducible refine And.intro ?_ ?_)|(refine ah ?_;omega)|(exact bz hN (by decide))))
 (refine cr (fun (t : Nat)=>(tmL [(7,.c (.int .i64 t)),(3,.ad (ν 1) 0),(1,.c (.B (gG (cj g) (gi (cj g) v)))),(2,.c (.int .i64 v))],hpL hp0 ν [.arr 2 .yes (.I (P.set v (jS (cj g) (gr g.ar.nxt v) P v t))),.box [.c (.I g.ar.own),.c (.I g.prio),.c (.R g.ar.nxt),.c (.R (dO g).prev),.sl (ν 0)]])) (fun (t : Nat)=>t ≤ (gr g.ar.nxt v).length ∧ gF g (cj g) v P (gr g.ar.nxt v) = gF g (cj g) v P ((gr g.ar.nxt v).drop t)) (fun (t : Nat)=>(gr g.ar.nxt v).length - t) ⟨0,?_,bZ hX hN [] ?_ ?_⟩ ?_;(repeat' (first|(with_reducible first|exact bS _|exact bT|exact bU|refine bV ?_ ?_|refine bW ?_ ?_|exact az _|exact bQ _|exact ap _|rfl|exact aU _ _|refine aB ?_|exact bR _|refine aY ?_)|refine bX rfl ?_ ?_|exact aV hN _ rfl rfl rfl|exact aW hN _ rfl rfl rfl|exact aC hN _ rfl rfl rfl (Or.inr rfl)|(refine aX hN _ rfl rfl (by first|exact Or.inr rfl|exact Or.inl rfl) ?_;first|exact aH _|exact aI _)|refine aD hN rfl ?_|refine aE hN rfl rfl ?_|exact aA hN _ rfl rfl|exact aF hN rfl rfl rfl rfl|(with_reducible first|refine aT ?_|refine bJ ?_|refine bK ?_|refine bL ?_|refine bH ?_|refine bI ?_)));(try (any_goals (first|(with_reducible rfl)|(refine ah ?_;omega)))))
 · exact ⟨Nat.zero_le _,rfl⟩
 · exact tO rfl
 rintro t ⟨ht,hin⟩
 have hnt:=hnx t
 (repeat' (first|(with_reducible first|(refine hK _ _ ?_;clear hK K)|(refine aa _ ?_;clear aa K)|(refine ab _ _ _ ?_;clear ab K)|(refine ac _ _ ?_;clear ac K)|refine bm ?_|refine ce ?_|refine bd ?_|refine ax ?_|refine au ?_|refine cf ?_|refine aK ?_|refine be ?_|refine cg ?_|refine bf ?_|refine bg rfl ?_|refine bn ?_|refine bh ?_|refine ch ?_|refine bi ?_|refine aJ ?_|refine n_k ?_|refine bj ?_|(refine ae ?_;clear ae X af Y)|(refine af ?_;clear ae X af Y))|(with_reducible refine bt ?_;first|refine bp rfl ?_|refine br rfl ?_)|(with_reducible refine bA ?_;first|refine ay rfl rfl rfl rfl ?_|refine aM rfl rfl rfl ?_|refine bw rfl rfl rfl rfl ?_)|(with_reducible refine cx ?_;first|refine bM rfl rfl rfl rfl ?_|refine ci rfl rfl rfl ?_|refine cD rfl rfl rfl rfl ?_|refine cE hN (by apply Exists.intro;apply And.intro;(repeat' (first|apply FtI.nil|apply FI.nil|apply FI.cons|apply FtI.cons));kernel_rfl) ?_)|((first|(with_reducible first|refine bu rfl rfl fun K hK=>?_|refine cB rfl rfl fun K ab=>?_|refine bv rfl rfl fun K aa=>?_|refine cC rfl rfl fun K ac=>?_|refine aL fun X Y ae af=>?_|refine aN ?_));simp (disch:=first|decide|omega|(simp only [List.length_cons,List.length_nil];omega)) only [go_sem,beq_self_eq_true,↓aj,↓ak hN,am hN,reduceIte,reduceCtorEq,Nat.reduceAdd,Nat.reduceLT,Nat.reduceLeDiff,Nat.reduceEqDiff,Nat.reduceSub])|(with_reducible refine And.intro (fun h=>?_) (fun h=>?_) <;> try (exfalso;omega))|(with_reducible refine bo aP hN rfl ?_ ?_;kernel_rfl)|(with_reducible refine bO aP hN rfl ?_ ?_ ?_ ?_;(kernel_rfl);(kernel_rfl);(kernel_rfl))|(refine bc (vQ g hg ((P.set v (jS (cj g) (gr g.ar.nxt v) P v t)).set v (gi (gr g.ar.nxt v) t)) (um hg hP hv ho (by omega) (la (by assumption))) v hv ho) ?_ rfl (fun _=>rfl) ?_;focus ((repeat' (first|(with_reducible first|exact aq|refine ao ?_ ?_|exact cn _|refine aZ ?_|exact aS _|exact bG _ _|refine bF ?_|exact aQ _)|exact a8 hN rfl rfl|(refine bE hN rfl ?_;first|exact aH _|exact aI _)|exact aR rfl rfl rfl));done))|(with_reducible first|exact aq|refine ao ?_ ?_|exact cn _|refine aZ ?_|exact aS _|exact bG _ _|refine bF ?_|exact aQ _)|exact a8 hN rfl rfl|(refine bE hN rfl ?_;first|exact aH _|exact aI _)|exact aR rfl rfl rfl|(simp only [bC,List.map_nil])|(with_reducible refine cc ?_)|(with_reducible refine And.intro ?_ ?_)|(refine ah ?_;omega)|(exact bz hN (by decide))))
 · have hno:=xD (g:=g) (i:=gi (cj g) v) (x:=gi (gr g.ar.nxt v) t) (by omega) (by assumption)
   (refine ⟨t + 1,⟨?_,?_⟩,bZ hX hN [] ?_ ?_⟩;(try any_goals dsimp only);(repeat' (first|(with_reducible first|exact bS _|exact bT|exact bU|refine bV ?_ ?_|refine bW ?_ ?_|exact az _|exact bQ _|exact ap _|rfl|exact aU _ _|refine aB ?_|exact bR _|refine aY ?_)|refine bX rfl ?_ ?_|exact aV hN _ rfl rfl rfl|exact aW hN _ rfl rfl rfl|exact aC hN _ rfl rfl rfl (Or.inr rfl)|(refine aX hN _ rfl rfl (by first|exact Or.inr rfl|exact Or.inl rfl) ?_;first|exact aH _|exact aI _)|refine aD hN rfl ?_|refine aE hN rfl rfl ?_|exact aA hN _ rfl rfl|exact aF hN rfl rfl rfl rfl|(with_reducible first|refine aT ?_|refine bJ ?_|refine bK ?_|refine bL ?_|refine bH ?_|refine bI ?_)));(try (any_goals (first|(with_reducible rfl)|(refine ah ?_;omega)))))
   · exact ⟨by omega,hin.trans (md (by omega) fun e=>hno e.1)⟩
   · rw [jS,if_neg hno]
 · have hyes:=la (g:=g) (x:=gi (gr g.ar.nxt v) t) (by assumption)
   have hgd : lB g (cj g) (gi (cj g) v) (P.set v (gi (gr g.ar.nxt v) t)):=by
    rw [← List.set_set (a:=jS (cj g) (gr g.ar.nxt v) P v t)];assumption
   have hu:=hin.trans (uh (by omega) ⟨hyes,hgd⟩)
   (refine ⟨.inr rfl,_,(by first|exact cY rfl rfl|exact cR hN rfl rfl rfl rfl|exact cM hN rfl rfl rfl rfl rfl|(simp (disch:=first|decide|omega|(simp only [List.length_cons,List.length_nil];omega)) only [cw,cA,cF,cG,go_sem,beq_self_eq_true,↓aj,↓ak hN,am hN,reduceIte,reduceCtorEq,Nat.reduceAdd,Nat.reduceLT,Nat.reduceLeDiff,Nat.reduceEqDiff,Nat.reduceSub];rfl)|rfl),[],_,rfl,?_,rfl,?_⟩;(all_goals try simp only [List.drop,List.take,List.cons_append,List.nil_append,nmL,List.length_cons,List.length_nil,Nat.reduceAdd,List.getD_cons_zero]);(repeat' (first|(with_reducible first|exact bS _|exact bT|exact bU|refine bV ?_ ?_|refine bW ?_ ?_|exact az _|exact bQ _|exact ap _|rfl|exact aU _ _|refine aB ?_|exact bR _|refine aY ?_)|refine bX rfl ?_ ?_|exact aV hN _ rfl rfl rfl|exact aW hN _ rfl rfl rfl|exact aC hN _ rfl rfl rfl (Or.inr rfl)|(refine aX hN _ rfl rfl (by first|exact Or.inr rfl|exact Or.inl rfl) ?_;first|exact aH _|exact aI _)|refine aD hN rfl ?_|refine aE hN rfl rfl ?_|exact aA hN _ rfl rfl|exact aF hN rfl rfl rfl rfl|(with_reducible first|refine aT ?_|refine bJ ?_|refine bK ?_|refine bL ?_|refine bH ?_|refine bI ?_))))
   · rw [vP,hu,if_neg (by have:=hnt (by omega);omega),List.set_set]
   · rw [hu]
 · have hyes:=la (g:=g) (x:=gi (gr g.ar.nxt v) t) (by assumption)
   have hgd : ¬ lB g (cj g) (gi (cj g) v) (P.set v (gi (gr g.ar.nxt v) t)):=by
    rw [← List.set_set (a:=jS (cj g) (gr g.ar.nxt v) P v t)];assumption
   (refine ⟨t + 1,⟨?_,?_⟩,bZ hX hN [] ?_ ?_⟩;(try any_goals dsimp only);(repeat' (first|(with_reducible first|exact bS _|exact bT|exact bU|refine bV ?_ ?_|refine bW ?_ ?_|exact az _|exact bQ _|exact ap _|rfl|exact aU _ _|refine aB ?_|exact bR _|refine aY ?_)|refine bX rfl ?_ ?_|exact aV hN _ rfl rfl rfl|exact aW hN _ rfl rfl rfl|exact aC hN _ rfl rfl rfl (Or.inr rfl)|(refine aX hN _ rfl rfl (by first|exact Or.inr rfl|exact Or.inl rfl) ?_;first|exact aH _|exact aI _)|refine aD hN rfl ?_|refine aE hN rfl rfl ?_|exact aA hN _ rfl rfl|exact aF hN rfl rfl rfl rfl|(with_reducible first|refine aT ?_|refine bJ ?_|refine bK ?_|refine bL ?_|refine bH ?_|refine bI ?_)));(try (any_goals (first|(with_reducible rfl)|(refine ah ?_;omega)))))
   · exact ⟨by omega,hin.trans (md (by omega) fun e=>hgd e.2)⟩
   · rw [jS,if_pos hyes,List.set_set]
 · have hu:=hin.trans (ui (by omega))
   have htt : t = (gr g.ar.nxt v).length:=by omega
   (refine ⟨.inr rfl,_,(by first|exact cY rfl rfl|exact cR hN rfl rfl rfl rfl|exact cM hN rfl rfl rfl rfl rfl|(simp (disch:=first|decide|omega|(simp only [List.length_cons,List.length_nil];omega)) only [cw,cA,cF,cG,go_sem,beq_self_eq_true,↓aj,↓ak hN,am hN,reduceIte,reduceCtorEq,Nat.reduceAdd,Nat.reduceLT,Nat.reduceLeDiff,Nat.reduceEqDiff,Nat.reduceSub];rfl)|rfl),[],_,rfl,?_,rfl,?_⟩;(all_goals try simp only [List.drop,List.take,List.cons_append,List.nil_append,nmL,List.length_cons,List.length_nil,Nat.reduceAdd,List.getD_cons_zero]);(repeat' (first|(with_reducible first|exact bS _|exact bT|exact bU|refine bV ?_ ?_|refine bW ?_ ?_|exact az _|exact bQ _|exact ap _|rfl|exact aU _ _|refine aB ?_|exact bR _|refine aY ?_)|refine bX rfl ?_ ?_|exact aV hN _ rfl rfl rfl|exact aW hN _ rfl rfl rfl|exact aC hN _ rfl rfl rfl (Or.inr rfl)|(refine aX hN _ rfl rfl (by first|exact Or.inr rfl|exact Or.inl rfl) ?_;first|exact aH _|exact aI _)|refine aD hN rfl ?_|refine aE hN rfl rfl ?_|exact aA hN _ rfl rfl|exact aF hN rfl rfl rfl rfl|(with_reducible first|refine aT ?_|refine bJ ?_|refine bK ?_|refine bL ?_|refine bH ?_|refine bI ?_))))
   · rw [vP,if_pos hu,htt]
   · rw [hu]
end Go.Proofs.Ytfaefmabjjndeaa
namespace Go.Proofs.Ytfaefmabjjndeaa
set_option linter.unusedVariables false
set_option linter.unusedSimpArgs false
open Go.RowKit
attribute [local irreducible] aG cP Aw Le
def qS (g : Pa) : Prop:=aG Try.prog 136 [paA g] [.arr 2 .yes (.I (dO g).pick)] (fun ns=>.agg [.c (.I g.ar.own),.c (.I g.prio),.c (.R g.ar.nxt),.c (.R (dO g).prev),.sl (ns.getD 0 0)])
theorem un {g : Pa} {v : Nat} (hv : v < g.prio.length) (h : (gi (cj g) v == 1) = false) : gi (cj g) v = 0:=(kj hv).resolve_right (xB h)
theorem lb (g : Pa) (hg : PaOk g) (P : List Int) (hP : PickOk g P) (v : Nat) (hv : v < g.prio.length) (ho : gi g.ar.own v = gi (cj g) v) (i : Int) (hi : gi (cj g) v = i) : dJ Try.prog 158 (fun ν=>[.agg [.c (.I g.ar.own),.c (.I g.prio),.c (.R g.ar.nxt),.c (.R (dO g).prev),.sl (ν 0)],.c (.B (gG (cj g) i)),.c (.int .i64 v)]) [.arr 2 .yes (.I P)] [.arr 2 .yes (.I (P.set v (vP g (cj g) P v)))] [] (fun _=>.c (.int .i64 (gF g (cj g) v P (gr g.ar.nxt v)))):=by
 subst hi
 exact sc g hg P hP v hv ho
set_option maxHeartbeats 4000000 in
theorem ni (g : Pa) (ps : List Int) (h : vO g ps) (hOf : qS g) : aG Try.prog 91 [paA g,.c (.I ps)] [.arr 2 .yes (.I (cj g)),.arr 2 .yes (.I (iF g (cj g) ps g.prio.length))] (fun ns=>.tup [.agg [.sl (ns.getD 0 0),.sl (ns.getD 1 0)],.c (.bool true)]):=by
 have hp:=r8 h
 have h1:=oI g ps
 rw [bP h.1] at h1
 obtain ⟨⟨⟨hg,hps⟩,hw⟩,ho⟩:=h
 have hl:=hg.len
 have hle:=hg.ar.le
 have hln:=hg.ar.len
 have hpl:=hps.1
 have hwl:=eN g
 have h3:=nf g hg
 unfold qS at hOf
 have hgp : (dO g).pick.length = g.prio.length:=cy _ _
 (refine b8 aP Try.func91 rfl rfl (by kernel_rfl) fun hp0 ν hX hN=>?_;simp only [cS,Nat.reduceAdd])
 (repeat' (first|(with_reducible first|(refine hK _ _ ?_;clear hK K)|(refine aa _ ?_;clear aa K)|(refine ab _ _ _ ?_;clear ab K)|(refine ac _ _ ?_;clear ac K)|refine bm ?_|refine ce ?_|refine bd ?_|refine ax ?_|refine au ?_|refine cf ?_|refine aK ?_|refine be ?_|refine cg ?_|refine bf ?_|refine bg rfl ?_|refine bn ?_|refine bh ?_|refine ch ?_|refine bi ?_|refine aJ ?_|refine n_k ?_|refine bj ?_|(refine ae ?_;clear ae X af Y)|(refine af ?_;clear ae X af Y))|(with_reducible refine bt ?_;first|refine bp rfl ?_|refine br rfl ?_)|(with_reducible refine bA ?_;first|refine ay rfl rfl rfl rfl ?_|refine aM rfl rfl rfl ?_|refine bw rfl rfl rfl rfl ?_)|(with_reducible refine cx ?_;first|refine bM rfl rfl rfl rfl ?_|refine ci rfl rfl rfl ?_|refine cD rfl rfl rfl rfl ?_|refine cE hN (by apply Exists.intro;apply And.intro;(repeat' (first|apply FtI.nil|apply FI.nil|apply FI.cons|apply FtI.cons));kernel_rfl) ?_)|((first|(with_reducible first|refine bu rfl rfl fun K hK=>?_|refine cB rfl rfl fun K ab=>?_|refine bv rfl rfl fun K aa=>?_|refine cC rfl rfl fun K ac=>?_|refine aL fun X Y ae af=>?_|refine aN ?_)|(with_reducible refine bA ?_;refine bN rfl rfl fun X Y ae af=>?_)|(with_reducible refine cx ?_;refine cJ rfl rfl fun X Y ae af=>?_));simp (disch:=first|decide|omega|(simp only [List.length_cons,List.length_nil];omega)) only [go_sem,beq_self_eq_true,↓aj,↓ak hN,am hN,reduceIte,reduceCtorEq,Nat.reduceAdd,Nat.reduceLT,Nat.reduceLeDiff,Nat.reduceEqDiff,Nat.reduceSub])|(with_reducible refine And.intro (fun h=>?_) (fun h=>?_) <;> try (exfalso;omega))|(with_reducible refine bo aP hN rfl ?_ ?_;kernel_rfl)|(with_reducible refine bO aP hN rfl ?_ ?_ ?_ ?_;(kernel_rfl);(kernel_rfl);(kernel_rfl))|(refine bc h1 ?_ rfl (fun _=>rfl) ?_)|(refine bc h3 ?_ rfl (fun _=>rfl) ?_)|(refine fD hOf ?_ rfl rfl ?_)|(with_reducible first|exact aq|refine ao ?_ ?_|exact cn _|refine aZ ?_|exact aS _|exact bG _ _|refine bF ?_|exact aQ _)|exact a8 hN rfl rfl|(refine bE hN rfl ?_;first|exact aH _|exact aI _)|exact aR rfl rfl rfl|(simp only [bC,List.map_nil])|(with_reducible refine cc ?_)|(with_reducible refine And.intro ?_ ?_)|(refine ah ?_;omega)|(exact bz hN (by decide))))
 (refine cr (fun (k : Nat)=>(tmL [(8,.c (.int .i64 k)),(7,.ad (ν 4) 0),(6,.sl (ν 2)),(4,.ad (ν 1) 0),(2,.ad (ν 0) 0),(1,.c (.I ps))],hpL hp0 ν [.box [.c (.I g.ar.own),.c (.R g.ar.nxt),.c (.I g.prio)],.box [.c .nul,.c .nul],.arr 2 .yes (.I (cj g)),.arr 2 .yes (.I (tab g.prio.length fun v=>if v < k then gi ps v else -1)),.box [.c (.I g.ar.own),.c (.I g.prio),.c (.R g.ar.nxt),.c (.R (dO g).prev),.sl (ν 3)]])) (fun (k : Nat)=>k ≤ ps.length) (fun (k : Nat)=>ps.length - k) ⟨0,?_,bZ hX hN [] ?_ ?_⟩ ?_;(repeat' (first|(with_reducible first|exact bS _|exact bT|exact bU|refine bV ?_ ?_|refine bW ?_ ?_|exact az _|exact bQ _|exact ap _|rfl|exact aU _ _|refine aB ?_|exact bR _|refine aY ?_)|refine bX rfl ?_ ?_|exact aV hN _ rfl rfl rfl|exact aW hN _ rfl rfl rfl|exact aC hN _ rfl rfl rfl (Or.inr rfl)|(refine aX hN _ rfl rfl (by first|exact Or.inr rfl|exact Or.inl rfl) ?_;first|exact aH _|exact aI _)|refine aD hN rfl ?_|refine aE hN rfl rfl ?_|exact aA hN _ rfl rfl|exact aF hN rfl rfl rfl rfl|(with_reducible first|refine aT ?_|refine bJ ?_|refine bK ?_|refine bL ?_|refine bH ?_|refine bI ?_)));(try (any_goals (first|(with_reducible rfl)|(refine ah ?_;omega)))))
 · exact cT fun j hj=>if_neg (by omega)
 intro k hk
 have hfk : k < ps.length → ¬ gi ps k = -1 → gi g.ar.own k = gi (cj g) k:=fun h1 h2=>ho k h1 (by
  rcases hps.2 k h1 with e|e
  · exact absurd e h2
  · obtain ⟨t,ht,e'⟩:=dm e
    have:=dS hg (by omega) ht
    omega)
 have htl:=cy g.prio.length fun v=>if v < k then gi ps v else (-1 : Int)
 (repeat' (first|(with_reducible first|(refine hK _ _ ?_;clear hK K)|(refine aa _ ?_;clear aa K)|(refine ab _ _ _ ?_;clear ab K)|(refine ac _ _ ?_;clear ac K)|refine bm ?_|refine ce ?_|refine bd ?_|refine ax ?_|refine au ?_|refine cf ?_|refine aK ?_|refine be ?_|refine cg ?_|refine bf ?_|refine bg rfl ?_|refine bn ?_|refine bh ?_|refine ch ?_|refine bi ?_|refine aJ ?_|refine n_k ?_|refine bj ?_|(refine ae ?_;clear ae X af Y)|(refine af ?_;clear ae X af Y))|(with_reducible refine bt ?_;first|refine bp rfl ?_|refine br rfl ?_)|(with_reducible refine bA ?_;first|refine ay rfl rfl rfl rfl ?_|refine aM rfl rfl rfl ?_|refine bw rfl rfl rfl rfl ?_)|(with_reducible refine cx ?_;first|refine bM rfl rfl rfl rfl ?_|refine ci rfl rfl rfl ?_|refine cD rfl rfl rfl rfl ?_|refine cE hN (by apply Exists.intro;apply And.intro;(repeat' (first|apply FtI.nil|apply FI.nil|apply FI.cons|apply FtI.cons));kernel_rfl) ?_)|((first|(with_reducible first|refine bu rfl rfl fun K hK=>?_|refine cB rfl rfl fun K ab=>?_|refine bv rfl rfl fun K aa=>?_|refine cC rfl rfl fun K ac=>?_|refine aL fun X Y ae af=>?_|refine aN ?_)|(with_reducible refine bA ?_;refine bN rfl rfl fun X Y ae af=>?_)|(with_reducible refine cx ?_;refine cJ rfl rfl fun X Y ae af=>?_));simp (disch:=first|decide|omega|(simp only [List.length_cons,List.length_nil];omega)) only [go_sem,beq_self_eq_true,↓aj,↓ak hN,am hN,reduceIte,reduceCtorEq,Nat.reduceAdd,Nat.reduceLT,Nat.reduceLeDiff,Nat.reduceEqDiff,Nat.reduceSub])|(with_reducible refine And.intro (fun h=>?_) (fun h=>?_) <;> try (exfalso;omega))|(with_reducible refine bo aP hN rfl ?_ ?_;kernel_rfl)|(with_reducible refine bO aP hN rfl ?_ ?_ ?_ ?_;(kernel_rfl);(kernel_rfl);(kernel_rfl))|(refine bc (k9 (cj g) 0 (by omega)) ?_ rfl (fun _=>rfl) ?_;focus ((repeat' (first|(with_reducible first|exact aq|refine ao ?_ ?_|exact cn _|refine aZ ?_|exact aS _|exact bG _ _|refine bF ?_|exact aQ _)|exact a8 hN rfl rfl|(refine bE hN rfl ?_;first|exact aH _|exact aI _)|exact aR rfl rfl rfl));done))|(refine bc (k9 (cj g) 1 (by omega)) ?_ rfl (fun _=>rfl) ?_;focus ((repeat' (first|(with_reducible first|exact aq|refine ao ?_ ?_|exact cn _|refine aZ ?_|exact aS _|exact bG _ _|refine bF ?_|exact aQ _)|exact a8 hN rfl rfl|(refine bE hN rfl ?_;first|exact aH _|exact aI _)|exact aR rfl rfl rfl));done))|(with_reducible first|exact aq|refine ao ?_ ?_|exact cn _|refine aZ ?_|exact aS _|exact bG _ _|refine bF ?_|exact aQ _)|exact a8 hN rfl rfl|(refine bE hN rfl ?_;first|exact aH _|exact aI _)|exact aR rfl rfl rfl|(simp only [bC,List.map_nil])|(with_reducible refine cc ?_)|(with_reducible refine And.intro ?_ ?_)|(refine ah ?_;omega)|(exact bz hN (by decide))))
 · (refine ⟨k + 1,⟨?_,?_⟩,bZ hX hN [] ?_ ?_⟩;(try any_goals dsimp only);(repeat' (first|(with_reducible first|exact bS _|exact bT|exact bU|refine bV ?_ ?_|refine bW ?_ ?_|exact az _|exact bQ _|exact ap _|rfl|exact aU _ _|refine aB ?_|exact bR _|refine aY ?_)|refine bX rfl ?_ ?_|exact aV hN _ rfl rfl rfl|exact aW hN _ rfl rfl rfl|exact aC hN _ rfl rfl rfl (Or.inr rfl)|(refine aX hN _ rfl rfl (by first|exact Or.inr rfl|exact Or.inl rfl) ?_;first|exact aH _|exact aI _)|refine aD hN rfl ?_|refine aE hN rfl rfl ?_|exact aA hN _ rfl rfl|exact aF hN rfl rfl rfl rfl|(with_reducible first|refine aT ?_|refine bJ ?_|refine bK ?_|refine bL ?_|refine bH ?_|refine bI ?_)));(try (any_goals (first|(with_reducible rfl)|(refine ah ?_;omega)))))
   exact lX (by omega) rfl
 · (refine ⟨k + 1,⟨?_,?_⟩,bZ hX hN [] ?_ ?_⟩;(try any_goals dsimp only);(repeat' (first|(with_reducible first|exact bS _|exact bT|exact bU|refine bV ?_ ?_|refine bW ?_ ?_|exact az _|exact bQ _|exact ap _|rfl|exact aU _ _|refine aB ?_|exact bR _|refine aY ?_)|refine bX rfl ?_ ?_|exact aV hN _ rfl rfl rfl|exact aW hN _ rfl rfl rfl|exact aC hN _ rfl rfl rfl (Or.inr rfl)|(refine aX hN _ rfl rfl (by first|exact Or.inr rfl|exact Or.inl rfl) ?_;first|exact aH _|exact aI _)|refine aD hN rfl ?_|refine aE hN rfl rfl ?_|exact aA hN _ rfl rfl|exact aF hN rfl rfl rfl rfl|(with_reducible first|refine aT ?_|refine bJ ?_|refine bK ?_|refine bL ?_|refine bH ?_|refine bI ?_)));(try (any_goals (first|(with_reducible rfl)|(refine ah ?_;omega)))))
   exact lX (by omega) rfl
 have htp : (tab g.prio.length fun v=>if v < k then gi ps v else (-1 : Int)) = iF g (cj g) ps 0:=(i6 (by omega)).trans (kp hpl fun j hj=>rfl).symm
 rw [htp]
 clear hfk htl htp hk
 (refine cr (fun (k : Nat)=>(tmL [(11,.c (.int .i64 k)),(9,.sl (ν 5)),(10,.sl (ν 6)),(7,.ad (ν 4) 0),(6,.sl (ν 2)),(4,.ad (ν 1) 0),(2,.ad (ν 0) 0)],hpL hp0 ν [.box [.c (.I g.ar.own),.c (.R g.ar.nxt),.c (.I g.prio)],.box [.c .nul,.c .nul],.arr 2 .yes (.I (cj g)),.arr 2 .yes (.I (iF g (cj g) ps k)),.box [.c (.I g.ar.own),.c (.I g.prio),.c (.R g.ar.nxt),.c (.R (dO g).prev),.sl (ν 3)],.arr 4 .yes (.B (gG (cj g) 0)),.arr 4 .yes (.B (gG (cj g) 1))])) (fun (k : Nat)=>k ≤ g.prio.length) (fun (k : Nat)=>g.prio.length - k) ⟨0,?_,bZ hX hN [] ?_ ?_⟩ ?_;(repeat' (first|(with_reducible first|exact bS _|exact bT|exact bU|refine bV ?_ ?_|refine bW ?_ ?_|exact az _|exact bQ _|exact ap _|rfl|exact aU _ _|refine aB ?_|exact bR _|refine aY ?_)|refine bX rfl ?_ ?_|exact aV hN _ rfl rfl rfl|exact aW hN _ rfl rfl rfl|exact aC hN _ rfl rfl rfl (Or.inr rfl)|(refine aX hN _ rfl rfl (by first|exact Or.inr rfl|exact Or.inl rfl) ?_;first|exact aH _|exact aI _)|refine aD hN rfl ?_|refine aE hN rfl rfl ?_|exact aA hN _ rfl rfl|exact aF hN rfl rfl rfl rfl|(with_reducible first|refine aT ?_|refine bJ ?_|refine bK ?_|refine bL ?_|refine bH ?_|refine bI ?_)));(try (any_goals (first|(with_reducible rfl)|(refine ah ?_;omega)))))
 intro k hk
 have hPok:=ug hg hp k hk
 have hPl:=hPok.pk.1
 have hstep : iF g (cj g) ps (k + 1) = qR g (cj g) (iF g (cj g) ps k) k:=rfl
 generalize hP : iF g (cj g) ps k = P at *
 (repeat' (first|(with_reducible first|(refine hK _ _ ?_;clear hK K)|(refine aa _ ?_;clear aa K)|(refine ab _ _ _ ?_;clear ab K)|(refine ac _ _ ?_;clear ac K)|refine bm ?_|refine ce ?_|refine bd ?_|refine ax ?_|refine au ?_|refine cf ?_|refine aK ?_|refine be ?_|refine cg ?_|refine bf ?_|refine bg rfl ?_|refine bn ?_|refine bh ?_|refine ch ?_|refine bi ?_|refine aJ ?_|refine n_k ?_|refine bj ?_|(refine ae ?_;clear ae X af Y)|(refine af ?_;clear ae X af Y))|(with_reducible refine bt ?_;first|refine bp rfl ?_|refine br rfl ?_)|(with_reducible refine bA ?_;first|refine ay rfl rfl rfl rfl ?_|refine aM rfl rfl rfl ?_|refine bw rfl rfl rfl rfl ?_)|(with_reducible refine cx ?_;first|refine bM rfl rfl rfl rfl ?_|refine ci rfl rfl rfl ?_|refine cD rfl rfl rfl rfl ?_|refine cE hN (by apply Exists.intro;apply And.intro;(repeat' (first|apply FtI.nil|apply FI.nil|apply FI.cons|apply FtI.cons));kernel_rfl) ?_)|((first|(with_reducible first|refine bu rfl rfl fun K hK=>?_|refine cB rfl rfl fun K ab=>?_|refine bv rfl rfl fun K aa=>?_|refine cC rfl rfl fun K ac=>?_|refine aL fun X Y ae af=>?_|refine aN ?_)|(with_reducible refine bA ?_;refine bN rfl rfl fun X Y ae af=>?_)|(with_reducible refine cx ?_;refine cJ rfl rfl fun X Y ae af=>?_));simp (disch:=first|decide|omega|(simp only [List.length_cons,List.length_nil];omega)) only [go_sem,beq_self_eq_true,↓aj,↓ak hN,am hN,reduceIte,reduceCtorEq,Nat.reduceAdd,Nat.reduceLT,Nat.reduceLeDiff,Nat.reduceEqDiff,Nat.reduceSub])|(with_reducible refine And.intro (fun h=>?_) (fun h=>?_) <;> try (exfalso;omega))|(with_reducible refine bo aP hN rfl ?_ ?_;kernel_rfl)|(with_reducible refine bO aP hN rfl ?_ ?_ ?_ ?_;(kernel_rfl);(kernel_rfl);(kernel_rfl))|(refine dD (lb g hg P hPok k (by omega) (eJ (by assumption)).symm 0 (un (by omega) (by assumption))) hN 3 rfl rfl rfl rfl rfl ?_ ?_ ?_ ?_;(focus (simp [bB,AV.names];done));(focus (intro ν' hν;(repeat' (first|exact ArgMs.nil|refine ArgMs.cons ?_ ?_|exact gJ hν|exact gK hν|exact jx _|exact i7 (by first|exact aS _|exact aQ _|exact aR rfl rfl rfl) rfl|(refine gL hN rfl ?_ (by decide);first|exact aH _|exact aI _)|refine ew ?_));done));(focus (first|exact Or.inr ⟨rfl,rfl,fun _=>rfl⟩|exact Or.inl (by simp [bB,AV.names]))))|(refine dD (lb g hg P hPok k (by omega) (eJ (by assumption)).symm 1 (by assumption)) hN 3 rfl rfl rfl rfl rfl ?_ ?_ ?_ ?_;(focus (simp [bB,AV.names];done));(focus (intro ν' hν;(repeat' (first|exact ArgMs.nil|refine ArgMs.cons ?_ ?_|exact gJ hν|exact gK hν|exact jx _|exact i7 (by first|exact aS _|exact aQ _|exact aR rfl rfl rfl) rfl|(refine gL hN rfl ?_ (by decide);first|exact aH _|exact aI _)|refine ew ?_));done));(focus (first|exact Or.inr ⟨rfl,rfl,fun _=>rfl⟩|exact Or.inl (by simp [bB,AV.names]))))|(with_reducible first|exact aq|refine ao ?_ ?_|exact cn _|refine aZ ?_|exact aS _|exact bG _ _|refine bF ?_|exact aQ _)|exact a8 hN rfl rfl|(refine bE hN rfl ?_;first|exact aH _|exact aI _)|exact aR rfl rfl rfl|(simp only [bC,List.map_nil])|(with_reducible refine cc ?_)|(simp (disch:=first|decide|omega|(simp only [List.length_cons,List.length_nil];omega)) only [bC,List.map_cons,List.map_nil,am hN,List.set_cons_zero,List.set_cons_succ])|(with_reducible refine And.intro ?_ ?_)|(refine ah ?_;omega)|(exact bz hN (by decide))))
 · (refine ⟨k + 1,⟨?_,?_⟩,bZ hX hN [] ?_ ?_⟩;(try any_goals dsimp only);(repeat' (first|(with_reducible first|exact bS _|exact bT|exact bU|refine bV ?_ ?_|refine bW ?_ ?_|exact az _|exact bQ _|exact ap _|rfl|exact aU _ _|refine aB ?_|exact bR _|refine aY ?_)|refine bX rfl ?_ ?_|exact aV hN _ rfl rfl rfl|exact aW hN _ rfl rfl rfl|exact aC hN _ rfl rfl rfl (Or.inr rfl)|(refine aX hN _ rfl rfl (by first|exact Or.inr rfl|exact Or.inl rfl) ?_;first|exact aH _|exact aI _)|refine aD hN rfl ?_|refine aE hN rfl rfl ?_|exact aA hN _ rfl rfl|exact aF hN rfl rfl rfl rfl|(with_reducible first|refine aT ?_|refine bJ ?_|refine bK ?_|refine bL ?_|refine bH ?_|refine bI ?_)));(try (any_goals (first|(with_reducible rfl)|(refine ah ?_;omega)))))
   rw [hstep]
   exact if_neg fun c=>absurd c.2 (by omega)
 · (refine ⟨k + 1,⟨?_,?_⟩,bZ hX hN [] ?_ ?_⟩;(try any_goals dsimp only);(repeat' (first|(with_reducible first|exact bS _|exact bT|exact bU|refine bV ?_ ?_|refine bW ?_ ?_|exact az _|exact bQ _|exact ap _|rfl|exact aU _ _|refine aB ?_|exact bR _|refine aY ?_)|refine bX rfl ?_ ?_|exact aV hN _ rfl rfl rfl|exact aW hN _ rfl rfl rfl|exact aC hN _ rfl rfl rfl (Or.inr rfl)|(refine aX hN _ rfl rfl (by first|exact Or.inr rfl|exact Or.inl rfl) ?_;first|exact aH _|exact aI _)|refine aD hN rfl ?_|refine aE hN rfl rfl ?_|exact aA hN _ rfl rfl|exact aF hN rfl rfl rfl rfl|(with_reducible first|refine aT ?_|refine bJ ?_|refine bK ?_|refine bL ?_|refine bH ?_|refine bI ?_)));(try (any_goals (first|(with_reducible rfl)|(refine ah ?_;omega)))))
   rw [hstep]
   exact if_neg fun c=>absurd c.1.symm (by assumption)
 · (refine ⟨k + 1,⟨?_,?_⟩,bZ hX hN [] ?_ ?_⟩;(try any_goals dsimp only);(repeat' (first|(with_reducible first|exact bS _|exact bT|exact bU|refine bV ?_ ?_|refine bW ?_ ?_|exact az _|exact bQ _|exact ap _|rfl|exact aU _ _|refine aB ?_|exact bR _|refine aY ?_)|refine bX rfl ?_ ?_|exact aV hN _ rfl rfl rfl|exact aW hN _ rfl rfl rfl|exact aC hN _ rfl rfl rfl (Or.inr rfl)|(refine aX hN _ rfl rfl (by first|exact Or.inr rfl|exact Or.inl rfl) ?_;first|exact aH _|exact aI _)|refine aD hN rfl ?_|refine aE hN rfl rfl ?_|exact aA hN _ rfl rfl|exact aF hN rfl rfl rfl rfl|(with_reducible first|refine aT ?_|refine bJ ?_|refine bK ?_|refine bL ?_|refine bH ?_|refine bI ?_)));(try (any_goals (first|(with_reducible rfl)|(refine ah ?_;omega)))))
   rw [hstep,List.set_set]
   exact if_pos ⟨(eJ (by assumption)).symm,by omega⟩
 · (refine ⟨k + 1,⟨?_,?_⟩,bZ hX hN [] ?_ ?_⟩;(try any_goals dsimp only);(repeat' (first|(with_reducible first|exact bS _|exact bT|exact bU|refine bV ?_ ?_|refine bW ?_ ?_|exact az _|exact bQ _|exact ap _|rfl|exact aU _ _|refine aB ?_|exact bR _|refine aY ?_)|refine bX rfl ?_ ?_|exact aV hN _ rfl rfl rfl|exact aW hN _ rfl rfl rfl|exact aC hN _ rfl rfl rfl (Or.inr rfl)|(refine aX hN _ rfl rfl (by first|exact Or.inr rfl|exact Or.inl rfl) ?_;first|exact aH _|exact aI _)|refine aD hN rfl ?_|refine aE hN rfl rfl ?_|exact aA hN _ rfl rfl|exact aF hN rfl rfl rfl rfl|(with_reducible first|refine aT ?_|refine bJ ?_|refine bK ?_|refine bL ?_|refine bH ?_|refine bI ?_)));(try (any_goals (first|(with_reducible rfl)|(refine ah ?_;omega)))))
   rw [hstep,List.set_set]
   exact if_pos ⟨(eJ (by assumption)).symm,by omega⟩
 · (refine iD hN [2,3] (by decide) (.inr rfl) (by first|exact cY rfl rfl|exact cR hN rfl rfl rfl rfl|exact cM hN rfl rfl rfl rfl rfl|(simp (disch:=first|decide|omega|(simp only [List.length_cons,List.length_nil];omega)) only [cw,cA,cF,cG,go_sem,beq_self_eq_true,↓aj,↓ak hN,am hN,reduceIte,reduceCtorEq,Nat.reduceAdd,Nat.reduceLT,Nat.reduceLeDiff,Nat.reduceEqDiff,Nat.reduceSub];rfl)|rfl) ?_ fun νs hνs=>?_;(repeat' (first|exact Gone.nil|(refine Gone.cons rfl rfl ?_ ?_)|(with_reducible refine fM ?_)|(with_reducible refine fL ?_)|(with_reducible refine SVs.cons ?_ ?_)|(with_reducible exact SVs.nil)|(simp only [List.drop,List.take])|(simp (disch:=first|decide|omega) only [↓aj,reduceIte,reduceCtorEq,Nat.reduceEqDiff])|(with_reducible exact lw _)|(with_reducible exact fJ _)|(exact fK rfl rfl rfl)|(exact fX 0 (by simp) rfl rfl)|(exact fX 1 (by simp) rfl rfl)|(refine iC hN rfl (fN hN (by decide)) ?_)|(with_reducible refine iB ?_)|(with_reducible rfl)|(with_reducible refine bJ ?_)|(with_reducible refine bK ?_)|(with_reducible refine bL ?_)|(with_reducible refine bH ?_)|(with_reducible refine bI ?_)|(refine ah ?_;omega))))
   all_goals first|rfl|(rw [← hP,show k = g.prio.length by omega])
end Go.Proofs.Ytfaefmabjjndeaa
