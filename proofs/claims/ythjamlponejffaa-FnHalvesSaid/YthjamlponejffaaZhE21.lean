/-
  PlanFrom and Solved: the reference's side (the contract of l7Of with its own pick list is a premise still).
-/
import Derived.Test.YthjamlponejffaaZhE19
namespace Go.Proofs.Ythjamlponejffaa
set_option linter.unusedVariables false
set_option linter.unusedSimpArgs false
open Go.RowKit
attribute [local irreducible] ap b7 Aw Le
def gmP (g : Pa) (P : List Int) : Gm:=⟨(c8 g).own,(c8 g).prio,(c8 g).nxt,(c8 g).prev,P⟩
theorem ww {g : Pa} (hg : PaOk g) {P : List Int} (h : P.length = g.prio.length) : GmOk (gmP g P) g.prio.length:=by
 obtain ⟨a,b,c,d,e,f,h1,h2,h3,h4,h5,h6,h7⟩:=eZ hg
 exact ⟨a,b,c,d,e,h,h1,h2,h3,h4,h5,h6,h7⟩
theorem yb {A B : PG.Gm} (h1 : A.own = B.own) (h2 : A.prio = B.prio) (h3 : A.E = B.E) : A = B:=by
 cases A;cases B
 simp only at h1 h2 h3
 subst h1;subst h2;subst h3
 rfl
theorem l5 {g : Pa} (hg : PaOk g) {P : List Int} (h : e9 g P) : cO (gmP g P) g.prio.length = pgP (d7 g P):=by
 refine yb rfl rfl (funext fun v=>funext fun u=>propext ?_)
 rw [ne]
 show v < _ ∧ u < _ ∧ edg (gmP g P) v u = true ∧ (∃ t,t < (gr g.ar.nxt v).length ∧ gi (gr g.ar.nxt v) t = (u : Int)) ↔ v < g.prio.length ∧ u < g.prio.length ∧ _
 refine and_congr_right fun hv=>and_congr_right fun hu=>?_
 have hl:=hg.len
 rw [show gr (d7 g P).ar.nxt v = eK g.ar.nxt P v from dq _ (by omega)]
 have he : edg (gmP g P) v u = true ↔ gi P v < 0 ∨ gi P v = (u : Int):=by
  simp only [edg,gmP,Bool.or_eq_true,beq_iff_eq,Int.toNat_natCast]
  exact or_congr_left ⟨fun h=>of_decide_eq_true h,fun h=>decide_eq_true h⟩
 rw [he]
 unfold eK
 split
 · rename_i h0
   constructor
   · rintro ⟨h1|h1,_⟩
     · omega
     · exact ⟨0,by simp,h1⟩
   · rintro ⟨t,ht,e⟩
     have : t = 0:=by simpa using ht
     subst this
     have e' : gi P v = (u : Int):=e
     refine ⟨.inr e',?_⟩
     rcases h.2 v (by have:=h.1;omega) with e2|e2
     · omega
     · obtain ⟨t,ht,e3⟩:=ck e2
       exact ⟨t,ht,e3.trans e'⟩
 · exact ⟨fun x=>x.2,fun x=>⟨.inl (by omega),x⟩⟩
def fP (W : List Int) (i : Int) : List Bool:=cr W.length fun v=>gi W v == i
theorem ki (W : List Int) (i : Int) : (fP W i).length = W.length:=cF _ _
theorem iF {W : List Int} {i : Int} {v : Nat} : gb (fP W i) v = true ↔ (v : Int) ∈ atL W i:=by
 rw [l3]
 constructor
 · intro h
   have hv : v < W.length:=by have:=iA h;rwa [ki] at this
   rw [fP,cN _ hv] at h
   exact ⟨v,hv,rfl,by simpa using h⟩
 · rintro ⟨u,h1,h2,h3⟩
   have : u = v:=by omega
   subst this
   rw [fP,cN _ h1,h3];simp
theorem q7 {g : Pa} (hg : PaOk g) {P : List Int} (h : PickOk g P) {i : Int} (hi : i = 0 ∨ i = 1) : (∀ v,gb (fP (bo g) i) v = true → (PG.Won (cO (gmP g P) g.prio.length) 0 (fun v=>gb (fP (bo g) i) v = true) v ↔ i = 0)) ↔ kA g (bo g) i P:=by
 rw [l5 hg h.pk,show (fun v=>gb (fP (bo g) i) v = true) = fun v : Nat=>(v : Int) ∈ atL (bo g) i from funext fun v=>propext iF]
 have ht:=nf (iD hg h.pk) (nk hg h i)
 have hS : ∀ v : Nat,(v : Int) ∈ atL (bo g) i → v < (d7 g P).prio.length:=fun v hv=>(jE.1 hv).1
 unfold kA
 refine forall_congr' fun v=>?_
 rw [iF]
 refine imp_congr_right fun hv=>?_
 have hn:=nd (P:=pgP (d7 g P)) gS hS ht (i:=0) (.inl rfl) v
 rcases hi with e|e <;> subst e
 · exact ⟨fun h=>h.2 rfl,fun h=>⟨fun _=>rfl,fun _=>h⟩⟩
 · exact ⟨fun h=>hn.2 ⟨hv,fun h'=>absurd (h.1 h') (by omega)⟩,fun h=>⟨fun h'=>absurd h' (hn.1 h).2,fun h'=>absurd h' (by omega)⟩⟩
def ji (W us P : List Int) (v : Nat) : Nat → Int
 | 0 => gi P v
 | t + 1 => if gi W (gi us t).toNat = gi W v then gi us t else ji W us P v t
noncomputable def uP (g : Pa) (W P : List Int) (v : Nat) : Int:=if fO g W v P (gr g.ar.nxt v) = -1 then ji W (gr g.ar.nxt v) P v (gr g.ar.nxt v).length else fO g W v P (gr g.ar.nxt v)
theorem kj (W : List Int) (i : Int) (hl : W.length ≤ 1048576) : ap Try.prog 108 [.c (.I W),.c (.int .i64 i)] [.arr 4 .yes (.B (fP W i))] (fun ns=>.sl (ns.getD 0 0)):=by
 (refine bf aI Try.func108 rfl rfl (by kernel_rfl) fun hp0 ν hX hN=>?_;simp only [bW,Nat.reduceAdd])
 (repeat' (first|(with_reducible first|(apply hK;clear hK K)|refine stZ ?_|refine aT rfl ?_|((first|apply ae|apply af);clear ae X af Y))|(with_reducible refine aW ?_;first|refine aU rfl ?_|refine aV rfl ?_)|((with_reducible first|((first|refine aZ ?_|refine a8 ?_);intro K hK)|(refine aE ?_;intro X Y ae af)|refine aF ?_);simp (disch:=first|decide|omega|(simp only [List.length_cons,List.length_nil];omega)) only [go_sem,↓aj hN,ak hN,reduceIte,reduceCtorEq,Nat.reduceAdd,Nat.reduceLT,Nat.reduceLeDiff,Nat.reduceEqDiff,Nat.reduceSub])|(with_reducible refine And.intro (fun h=>?_) (fun h=>?_) <;> try (exfalso;omega))|(with_reducible refine aY aI hN ?_)|(with_reducible refine And.intro ?_ ?_)|(refine ah ?_;omega)|(exact aX hN (by decide))))
 (refine bT (fun (k : Nat)=>(tmL [(6,.c (.int .i64 k)),(5,.sl (ν 0)),(0,.c (.I W)),(1,.c (.int .i64 i))],hpL hp0 ν [.arr 4 .yes (.B (cr W.length fun v=>if v < k then gi W v == i else false))])) (fun (k : Nat)=>k ≤ W.length) (fun (k : Nat)=>W.length - k) ⟨0,?_,bB hX hN [] ?_ ?_⟩ ?_;(repeat' (first|(with_reducible first|exact clZ|refine bw ?_ ?_|refine bz ?_ ?_|rfl|refine suZ ?_)|refine bA rfl ?_ ?_|exact aP hN _ rfl rfl rfl|exact aQ hN _ rfl rfl rfl|exact ax hN _ rfl rfl rfl (Or.inr rfl)|(refine aR hN _ rfl rfl (by first|exact Or.inr rfl|exact Or.inl rfl) ?_;first|exact aC _|exact aD _)|refine ay hN rfl ?_|refine az hN rfl rfl ?_|exact au hN _ rfl rfl|exact aA hN rfl rfl rfl rfl|(with_reducible first|refine stZ ?_|refine aO ?_)));(try (any_goals (first|(with_reducible rfl)|(refine ah ?_;omega)))))
 · exact cX _ _
 intro k hk
 have htl:=cF W.length fun v=>if v < k then gi W v == i else false
 (repeat' (first|(with_reducible first|(apply hK;clear hK K)|refine stZ ?_|refine aT rfl ?_|((first|apply ae|apply af);clear ae X af Y))|(with_reducible refine aW ?_;first|refine aU rfl ?_|refine aV rfl ?_)|((with_reducible first|((first|refine aZ ?_|refine a8 ?_);intro K hK)|(refine aE ?_;intro X Y ae af)|refine aF ?_);simp (disch:=first|decide|omega|(simp only [List.length_cons,List.length_nil];omega)) only [go_sem,↓aj hN,ak hN,reduceIte,reduceCtorEq,Nat.reduceAdd,Nat.reduceLT,Nat.reduceLeDiff,Nat.reduceEqDiff,Nat.reduceSub])|(with_reducible refine And.intro (fun h=>?_) (fun h=>?_) <;> try (exfalso;omega))|(with_reducible refine aY aI hN ?_)|(with_reducible refine And.intro ?_ ?_)|(refine ah ?_;omega)|(exact aX hN (by decide))))
 · (refine ⟨k + 1,⟨?_,?_⟩,bB hX hN [] ?_ ?_⟩;(try any_goals dsimp only);(repeat' (first|(with_reducible first|exact clZ|refine bw ?_ ?_|refine bz ?_ ?_|rfl|refine suZ ?_)|refine bA rfl ?_ ?_|exact aP hN _ rfl rfl rfl|exact aQ hN _ rfl rfl rfl|exact ax hN _ rfl rfl rfl (Or.inr rfl)|(refine aR hN _ rfl rfl (by first|exact Or.inr rfl|exact Or.inl rfl) ?_;first|exact aC _|exact aD _)|refine ay hN rfl ?_|refine az hN rfl rfl ?_|exact au hN _ rfl rfl|exact aA hN rfl rfl rfl rfl|(with_reducible first|refine stZ ?_|refine aO ?_)));(try (any_goals (first|(with_reducible rfl)|(refine ah ?_;omega)))))
   exact en (by omega) rfl
 · (refine cR hN (i:=0) (.inr rfl) (by first|rfl|(simp (disch:=first|decide|omega|(simp only [List.length_cons,List.length_nil];omega)) only [bG,bK,bN,bO,go_sem,beq_self_eq_true,↓ao,↓aj hN,ak hN,reduceIte,reduceCtorEq,Nat.reduceAdd,Nat.reduceLT,Nat.reduceLeDiff,Nat.reduceEqDiff,Nat.reduceSub];rfl)) rfl ?_ rfl)
   exact congrArg C.B (dy (by omega))
theorem tg (n : Nat) (hl : n ≤ 1048576) : ap Try.prog 73 [.c (.int .i64 n)] [.arr 2 .yes (.I (noP n))] (fun ns=>.sl (ns.getD 0 0)):=by
 (refine bf aI Try.func73 rfl rfl (by kernel_rfl) fun hp0 ν hX hN=>?_;simp only [bW,Nat.reduceAdd])
 (repeat' (first|(with_reducible first|(apply hK;clear hK K)|refine stZ ?_|refine aT rfl ?_|((first|apply ae|apply af);clear ae X af Y))|(with_reducible refine aW ?_;first|refine aU rfl ?_|refine aV rfl ?_)|((with_reducible first|((first|refine aZ ?_|refine a8 ?_);intro K hK)|(refine aE ?_;intro X Y ae af)|refine aF ?_);simp (disch:=first|decide|omega|(simp only [List.length_cons,List.length_nil];omega)) only [go_sem,↓aj hN,ak hN,reduceIte,reduceCtorEq,Nat.reduceAdd,Nat.reduceLT,Nat.reduceLeDiff,Nat.reduceEqDiff,Nat.reduceSub])|(with_reducible refine And.intro (fun h=>?_) (fun h=>?_) <;> try (exfalso;omega))|(with_reducible refine aY aI hN ?_)|(with_reducible refine And.intro ?_ ?_)|(refine ah ?_;omega)|(exact aX hN (by decide))))
 (refine bT (fun (k : Nat)=>(tmL [(4,.c (.int .i64 k)),(3,.sl (ν 0)),(0,.c (.int .i64 n))],hpL hp0 ν [.arr 2 .yes (.I (noP k))])) (fun (k : Nat)=>k ≤ n) (fun (k : Nat)=>n - k) ⟨0,?_,bB hX hN [] ?_ ?_⟩ ?_;(repeat' (first|(with_reducible first|exact clZ|refine bw ?_ ?_|refine bz ?_ ?_|rfl|refine suZ ?_)|refine bA rfl ?_ ?_|exact aP hN _ rfl rfl rfl|exact aQ hN _ rfl rfl rfl|exact ax hN _ rfl rfl rfl (Or.inr rfl)|(refine aR hN _ rfl rfl (by first|exact Or.inr rfl|exact Or.inl rfl) ?_;first|exact aC _|exact aD _)|refine ay hN rfl ?_|refine az hN rfl rfl ?_|exact au hN _ rfl rfl|exact aA hN rfl rfl rfl rfl|(with_reducible first|refine stZ ?_|refine aO ?_)));(try (any_goals (first|(with_reducible rfl)|(refine ah ?_;omega)))))
 · rfl
 intro k hk
 have htl:=bY k fun _=>(-1 : Int)
 have hsu : noP (k + 1) = noP k ++ [-1]:=fX k fun _=>(-1 : Int)
 have hnl : (noP k).length = k:=bY _ _
 (repeat' (first|(with_reducible first|(apply hK;clear hK K)|refine stZ ?_|refine aT rfl ?_|((first|apply ae|apply af);clear ae X af Y))|(with_reducible refine aW ?_;first|refine aU rfl ?_|refine aV rfl ?_)|((with_reducible first|((first|refine aZ ?_|refine a8 ?_);intro K hK)|(refine aE ?_;intro X Y ae af)|refine aF ?_);simp (disch:=first|decide|omega|(simp only [List.length_cons,List.length_nil];omega)) only [go_sem,↓aj hN,ak hN,reduceIte,reduceCtorEq,Nat.reduceAdd,Nat.reduceLT,Nat.reduceLeDiff,Nat.reduceEqDiff,Nat.reduceSub])|(with_reducible refine And.intro (fun h=>?_) (fun h=>?_) <;> try (exfalso;omega))|(with_reducible refine aY aI hN ?_)|(with_reducible refine And.intro ?_ ?_)|(refine ah ?_;omega)|(exact aX hN (by decide))))
 · (refine ⟨k + 1,⟨?_,?_⟩,bB hX hN [(0,2)] ?_ ?_⟩;(try any_goals dsimp only);(repeat' (first|(with_reducible first|exact clZ|refine bw ?_ ?_|refine bz ?_ ?_|rfl|refine suZ ?_)|refine bA rfl ?_ ?_|exact aP hN _ rfl rfl rfl|exact aQ hN _ rfl rfl rfl|exact ax hN _ rfl rfl rfl (Or.inr rfl)|(refine aR hN _ rfl rfl (by first|exact Or.inr rfl|exact Or.inl rfl) ?_;first|exact aC _|exact aD _)|refine ay hN rfl ?_|refine az hN rfl rfl ?_|exact au hN _ rfl rfl|exact aA hN rfl rfl rfl rfl|(with_reducible first|refine stZ ?_|refine aO ?_)));(try (any_goals (first|(with_reducible rfl)|(refine ah ?_;omega)))))
   all_goals rw [hsu]
 · (refine cR hN (i:=0) (.inr rfl) (by first|rfl|(simp (disch:=first|decide|omega|(simp only [List.length_cons,List.length_nil];omega)) only [bG,bK,bN,bO,go_sem,beq_self_eq_true,↓ao,↓aj hN,ak hN,reduceIte,reduceCtorEq,Nat.reduceAdd,Nat.reduceLT,Nat.reduceLeDiff,Nat.reduceEqDiff,Nat.reduceSub];rfl)) rfl ?_ rfl)
   rw [show k = n by omega]
theorem kk {g : Pa} {i x : Int} (h : gb (fP (bo g) i) x.toNat = true) : gi (bo g) x.toNat = i:=(jE.1 (iF.1 h)).2
theorem wx {g : Pa} {i x : Int} (hx : x.toNat < g.prio.length) (h : gb (fP (bo g) i) x.toNat = false) : ¬ gi (bo g) x.toNat = i:=fun e=>by
 rw [iF.2 (jE.2 ⟨hx,e⟩)] at h
 exact absurd h (by decide)
theorem th {g : Pa} (hg : PaOk g) {P : List Int} (h : PickOk g P) {k t : Nat} {x : Int} (hk : k < g.prio.length) (ho : gi g.ar.own k = gi (bo g) k) (ht : t < (gr g.ar.nxt k).length) (hw : gi (bo g) (gi (gr g.ar.nxt k) t).toNat = gi (bo g) k) : PickOk g ((P.set k x).set k (gi (gr g.ar.nxt k) t)):=by
 rw [List.set_set];exact tc hg h hk ho ht hw
theorem uQ (g : Pa) (hg : PaOk g) (P : List Int) (h : PickOk g P) (v : Nat) (hv : v < g.prio.length) (ho : gi g.ar.own v = gi (bo g) v) : ap Try.prog 124 [.agg [.c (.I g.ar.own),.c (.I g.prio),.c (.R g.ar.nxt),.c (.R (c8 g).prev),.c (.I P)],.c (.B (fP (bo g) (gi (bo g) v))),.c (.int .i64 (gi g.ar.own v))] [] (fun _=>.c (.bool (tf (kA g (bo g) (gi (bo g) v) P)))):=by
 have hgo:=q7 hg h (l4 hv)
 have ht : PG.Total (cO (gmP g P) g.prio.length) (fun u=>gb (fP (bo g) (gi (bo g) v)) u = true):=by
  rw [l5 hg h.pk,show (fun u=>gb (fP (bo g) (gi (bo g) v)) u = true) = fun u : Nat=>(u : Int) ∈ atL (bo g) (gi (bo g) v) from funext fun v=>propext iF]
  exact nf (iD hg h.pk) (nk hg h _)
 have:=qQ (gmP g P) g.prio.length (ww hg h.pk.1) (fP (bo g) (gi (bo g) v)) ((ki _ _).trans (dK g)) (gi (bo g) v) ht
 rw [cM hgo] at this
 rw [ho]
 exact this
set_option maxHeartbeats 1000000 in
theorem q8 (g : Pa) (hg : PaOk g) (P : List Int) (hP : PickOk g P) (v : Nat) (hv : v < g.prio.length) (ho : gi g.ar.own v = gi (bo g) v) : dJ Try.prog 109 (fun ν=>[.agg [.c (.I g.ar.own),.c (.I g.prio),.c (.R g.ar.nxt),.c (.R (c8 g).prev),.sl (ν 0)],.c (.B (fP (bo g) (gi (bo g) v))),.c (.int .i64 v)]) [.arr 2 .yes (.I P)] [.arr 2 .yes (.I (P.set v (uP g (bo g) P v)))] [] (fun _=>.c (.int .i64 (fO g (bo g) v P (gr g.ar.nxt v)))):=by
 have hl:=hg.len
 have hle:=hg.ar.le
 have hln:=hg.ar.len
 have hPl:=hP.pk.1
 have hrl:=(hg.ar.vert v (by omega)).2.2.2.1
 have hRl:=(ki (bo g) (gi (bo g) v)).trans (dK g)
 have hnx:=fun t (ht : t < (gr g.ar.nxt v).length)=>eO hg hv ht
 (refine fJ aI Try.func109 rfl rfl (fun _=>by kernel_rfl) rfl rfl rfl rfl (by first|exact jy _|exact ip (j:=0) (by simp) (by simp [Ent.kind])|exact iq (j:=0) (by simp) (by simp [Ent.kind])|exact fI rfl|exact gL|exact jz _) fun hp0 ν hX hN=>?_;simp only [bW,Nat.reduceAdd])
 (repeat' (first|(with_reducible first|(apply hK;clear hK K)|refine stZ ?_|refine aT rfl ?_|((first|apply ae|apply af);clear ae X af Y))|(with_reducible refine aW ?_;first|refine aU rfl ?_|refine aV rfl ?_)|(with_reducible refine b8 ?_;refine cc hN ?_)|((with_reducible first|((first|refine aZ ?_|refine ce ?_|refine a8 ?_|refine cf ?_);intro K hK)|(refine aE ?_;intro X Y ae af)|refine aF ?_);simp (disch:=first|decide|omega|(simp only [List.length_cons,List.length_nil];omega)) only [go_sem,↓aj hN,ak hN,reduceIte,reduceCtorEq,Nat.reduceAdd,Nat.reduceLT,Nat.reduceLeDiff,Nat.reduceEqDiff,Nat.reduceSub])|(with_reducible refine And.intro (fun h=>?_) (fun h=>?_) <;> try (exfalso;omega))|(with_reducible refine aY aI hN ?_)|(with_reducible refine bF aI hN ?_)|(with_reducible refine And.intro ?_ ?_)|(refine ah ?_;omega)|(exact aX hN (by decide))))
 (refine bT (fun (t : Nat)=>(tmL [(7,.c (.int .i64 t)),(3,.ad (ν 1) 0),(1,.c (.B (fP (bo g) (gi (bo g) v)))),(2,.c (.int .i64 v))],hpL hp0 ν [.arr 2 .yes (.I (P.set v (ji (bo g) (gr g.ar.nxt v) P v t))),.box [.c (.I g.ar.own),.c (.I g.prio),.c (.R g.ar.nxt),.c (.R (c8 g).prev),.sl (ν 0)]])) (fun (t : Nat)=>t ≤ (gr g.ar.nxt v).length ∧ fO g (bo g) v P (gr g.ar.nxt v) = fO g (bo g) v P ((gr g.ar.nxt v).drop t)) (fun (t : Nat)=>(gr g.ar.nxt v).length - t) ⟨0,?_,bB hX hN [] ?_ ?_⟩ ?_;(repeat' (first|(with_reducible first|exact clZ|refine bw ?_ ?_|refine bz ?_ ?_|rfl|refine suZ ?_)|refine bA rfl ?_ ?_|exact aP hN _ rfl rfl rfl|exact aQ hN _ rfl rfl rfl|exact ax hN _ rfl rfl rfl (Or.inr rfl)|(refine aR hN _ rfl rfl (by first|exact Or.inr rfl|exact Or.inl rfl) ?_;first|exact aC _|exact aD _)|refine ay hN rfl ?_|refine az hN rfl rfl ?_|exact au hN _ rfl rfl|exact aA hN rfl rfl rfl rfl|(with_reducible first|refine stZ ?_|refine aO ?_)));(try (any_goals (first|(with_reducible rfl)|(refine ah ?_;omega)))))
 · exact ⟨Nat.zero_le _,rfl⟩
 · exact sP rfl
 rintro t ⟨ht,hin⟩
 have hnt:=hnx t
 (repeat' (first|(with_reducible first|(apply hK;clear hK K)|refine stZ ?_|refine aT rfl ?_|((first|apply ae|apply af);clear ae X af Y))|(with_reducible refine aW ?_;first|refine aU rfl ?_|refine aV rfl ?_)|(with_reducible refine b8 ?_;refine cc hN ?_)|((with_reducible first|((first|refine aZ ?_|refine ce ?_|refine a8 ?_|refine cf ?_);intro K hK)|(refine aE ?_;intro X Y ae af)|refine aF ?_);simp (disch:=first|decide|omega|(simp only [List.length_cons,List.length_nil];omega)) only [go_sem,↓aj hN,ak hN,reduceIte,reduceCtorEq,Nat.reduceAdd,Nat.reduceLT,Nat.reduceLeDiff,Nat.reduceEqDiff,Nat.reduceSub])|(with_reducible refine And.intro (fun h=>?_) (fun h=>?_) <;> try (exfalso;omega))|(with_reducible refine aY aI hN ?_)|(with_reducible refine bF aI hN ?_)|(refine aB (uQ g hg ((P.set v (ji (bo g) (gr g.ar.nxt v) P v t)).set v (gi (gr g.ar.nxt v) t)) (th hg hP hv ho (by omega) (kk (by assumption))) v hv ho) ?_ rfl (fun _=>rfl) ?_;focus ((repeat' (first|(with_reducible first|exact aq|refine am ?_ ?_|exact bH _|refine aM ?_|exact aL _|exact bj _ _|refine bi ?_|exact aJ _)|exact aN hN rfl rfl|(refine bh hN rfl ?_;first|exact aC _|exact aD _)|exact aK rfl rfl rfl));done))|(with_reducible first|exact aq|refine am ?_ ?_|exact bH _|refine aM ?_|exact aL _|exact bj _ _|refine bi ?_|exact aJ _)|exact aN hN rfl rfl|(refine bh hN rfl ?_;first|exact aC _|exact aD _)|exact aK rfl rfl rfl|(simp only [ba,List.map_nil])|(with_reducible refine bu ?_)|(with_reducible refine And.intro ?_ ?_)|(refine ah ?_;omega)|(exact aX hN (by decide))))
 · have hno:=wx (g:=g) (i:=gi (bo g) v) (x:=gi (gr g.ar.nxt v) t) (by omega) (by assumption)
   (refine ⟨t + 1,⟨?_,?_⟩,bB hX hN [] ?_ ?_⟩;(try any_goals dsimp only);(repeat' (first|(with_reducible first|exact clZ|refine bw ?_ ?_|refine bz ?_ ?_|rfl|refine suZ ?_)|refine bA rfl ?_ ?_|exact aP hN _ rfl rfl rfl|exact aQ hN _ rfl rfl rfl|exact ax hN _ rfl rfl rfl (Or.inr rfl)|(refine aR hN _ rfl rfl (by first|exact Or.inr rfl|exact Or.inl rfl) ?_;first|exact aC _|exact aD _)|refine ay hN rfl ?_|refine az hN rfl rfl ?_|exact au hN _ rfl rfl|exact aA hN rfl rfl rfl rfl|(with_reducible first|refine stZ ?_|refine aO ?_)));(try (any_goals (first|(with_reducible rfl)|(refine ah ?_;omega)))))
   · exact ⟨by omega,hin.trans (lg (by omega) fun e=>hno e.1)⟩
   · rw [ji,if_neg hno]
 · have hyes:=kk (g:=g) (x:=gi (gr g.ar.nxt v) t) (by assumption)
   have hgd : kA g (bo g) (gi (bo g) v) (P.set v (gi (gr g.ar.nxt v) t)):=by
    rw [← List.set_set (a:=ji (bo g) (gr g.ar.nxt v) P v t)];assumption
   have hu:=hin.trans (ta (by omega) ⟨hyes,hgd⟩)
   (refine ⟨.inr rfl,_,(by first|exact bZ rfl rfl|exact bU hN rfl rfl rfl rfl|exact bQ hN rfl rfl rfl rfl rfl|(simp (disch:=first|decide|omega|(simp only [List.length_cons,List.length_nil];omega)) only [bG,bK,bN,bO,go_sem,beq_self_eq_true,↓ao,↓aj hN,ak hN,reduceIte,reduceCtorEq,Nat.reduceAdd,Nat.reduceLT,Nat.reduceLeDiff,Nat.reduceEqDiff,Nat.reduceSub];rfl)|rfl),[],_,rfl,?_,rfl,?_⟩;(all_goals try simp only [List.drop,List.take,List.cons_append,List.nil_append,nmL,List.length_cons,List.length_nil,Nat.reduceAdd,List.getD_cons_zero]);(repeat' (first|(with_reducible first|exact clZ|refine bw ?_ ?_|refine bz ?_ ?_|rfl|refine suZ ?_)|refine bA rfl ?_ ?_|exact aP hN _ rfl rfl rfl|exact aQ hN _ rfl rfl rfl|exact ax hN _ rfl rfl rfl (Or.inr rfl)|(refine aR hN _ rfl rfl (by first|exact Or.inr rfl|exact Or.inl rfl) ?_;first|exact aC _|exact aD _)|refine ay hN rfl ?_|refine az hN rfl rfl ?_|exact au hN _ rfl rfl|exact aA hN rfl rfl rfl rfl|(with_reducible first|refine stZ ?_|refine aO ?_))))
   · rw [uP,hu,if_neg (by have:=hnt (by omega);omega),List.set_set]
   · rw [hu]
 · have hyes:=kk (g:=g) (x:=gi (gr g.ar.nxt v) t) (by assumption)
   have hgd : ¬ kA g (bo g) (gi (bo g) v) (P.set v (gi (gr g.ar.nxt v) t)):=by
    rw [← List.set_set (a:=ji (bo g) (gr g.ar.nxt v) P v t)];assumption
   (refine ⟨t + 1,⟨?_,?_⟩,bB hX hN [] ?_ ?_⟩;(try any_goals dsimp only);(repeat' (first|(with_reducible first|exact clZ|refine bw ?_ ?_|refine bz ?_ ?_|rfl|refine suZ ?_)|refine bA rfl ?_ ?_|exact aP hN _ rfl rfl rfl|exact aQ hN _ rfl rfl rfl|exact ax hN _ rfl rfl rfl (Or.inr rfl)|(refine aR hN _ rfl rfl (by first|exact Or.inr rfl|exact Or.inl rfl) ?_;first|exact aC _|exact aD _)|refine ay hN rfl ?_|refine az hN rfl rfl ?_|exact au hN _ rfl rfl|exact aA hN rfl rfl rfl rfl|(with_reducible first|refine stZ ?_|refine aO ?_)));(try (any_goals (first|(with_reducible rfl)|(refine ah ?_;omega)))))
   · exact ⟨by omega,hin.trans (lg (by omega) fun e=>hgd e.2)⟩
   · rw [ji,if_pos hyes,List.set_set]
 · have hu:=hin.trans (tb (by omega))
   have htt : t = (gr g.ar.nxt v).length:=by omega
   (refine ⟨.inr rfl,_,(by first|exact bZ rfl rfl|exact bU hN rfl rfl rfl rfl|exact bQ hN rfl rfl rfl rfl rfl|(simp (disch:=first|decide|omega|(simp only [List.length_cons,List.length_nil];omega)) only [bG,bK,bN,bO,go_sem,beq_self_eq_true,↓ao,↓aj hN,ak hN,reduceIte,reduceCtorEq,Nat.reduceAdd,Nat.reduceLT,Nat.reduceLeDiff,Nat.reduceEqDiff,Nat.reduceSub];rfl)|rfl),[],_,rfl,?_,rfl,?_⟩;(all_goals try simp only [List.drop,List.take,List.cons_append,List.nil_append,nmL,List.length_cons,List.length_nil,Nat.reduceAdd,List.getD_cons_zero]);(repeat' (first|(with_reducible first|exact clZ|refine bw ?_ ?_|refine bz ?_ ?_|rfl|refine suZ ?_)|refine bA rfl ?_ ?_|exact aP hN _ rfl rfl rfl|exact aQ hN _ rfl rfl rfl|exact ax hN _ rfl rfl rfl (Or.inr rfl)|(refine aR hN _ rfl rfl (by first|exact Or.inr rfl|exact Or.inl rfl) ?_;first|exact aC _|exact aD _)|refine ay hN rfl ?_|refine az hN rfl rfl ?_|exact au hN _ rfl rfl|exact aA hN rfl rfl rfl rfl|(with_reducible first|refine stZ ?_|refine aO ?_))))
   · rw [uP,if_pos hu,htt]
   · rw [hu]
end Go.Proofs.Ythjamlponejffaa
namespace Go.Proofs.Ythjamlponejffaa
set_option linter.unusedVariables false
set_option linter.unusedSimpArgs false
open Go.RowKit
attribute [local irreducible] ap b7 Aw Le
def pJ (g : Pa) : Prop:=ap Try.prog 47 [paA g] [.arr 2 .yes (.I (c8 g).pick)] (fun ns=>.agg [.c (.I g.ar.own),.c (.I g.prio),.c (.R g.ar.nxt),.c (.R (c8 g).prev),.sl (ns.getD 0 0)])
theorem tj {g : Pa} {v : Nat} (hv : v < g.prio.length) (h : (gi (bo g) v == 1) = false) : gi (bo g) v = 0:=(l4 hv).resolve_right (wv h)
theorem km (g : Pa) (hg : PaOk g) (P : List Int) (hP : PickOk g P) (v : Nat) (hv : v < g.prio.length) (ho : gi g.ar.own v = gi (bo g) v) (i : Int) (hi : gi (bo g) v = i) : dJ Try.prog 109 (fun ν=>[.agg [.c (.I g.ar.own),.c (.I g.prio),.c (.R g.ar.nxt),.c (.R (c8 g).prev),.sl (ν 0)],.c (.B (fP (bo g) i)),.c (.int .i64 v)]) [.arr 2 .yes (.I P)] [.arr 2 .yes (.I (P.set v (uP g (bo g) P v)))] [] (fun _=>.c (.int .i64 (fO g (bo g) v P (gr g.ar.nxt v)))):=by
 subst hi
 exact q8 g hg P hP v hv ho
set_option maxHeartbeats 4000000 in
theorem l6 (g : Pa) (ps : List Int) (h : uO g ps) (hOf : pJ g) : ap Try.prog 72 [paA g,.c (.I ps)] [.arr 2 .yes (.I (bo g)),.arr 2 .yes (.I (gy g (bo g) ps g.prio.length))] (fun ns=>.tup [.agg [.sl (ns.getD 0 0),.sl (ns.getD 1 0)],.c (.bool true)]):=by
 have hp:=qZ h
 have h1:=nh g ps
 rw [bc h.1] at h1
 obtain ⟨⟨⟨hg,hps⟩,hw⟩,ho⟩:=h
 have hl:=hg.len
 have hle:=hg.ar.le
 have hln:=hg.ar.len
 have hpl:=hps.1
 have hwl:=dK g
 have h3:=jD g hg
 unfold pJ at hOf
 have hgp : (c8 g).pick.length = g.prio.length:=bY _ _
 (refine bf aI Try.func72 rfl rfl (by kernel_rfl) fun hp0 ν hX hN=>?_;simp only [bW,Nat.reduceAdd])
 (repeat' (first|(with_reducible first|(apply hK;clear hK K)|refine stZ ?_|refine aT rfl ?_|((first|apply ae|apply af);clear ae X af Y))|(with_reducible refine aW ?_;first|refine aU rfl ?_|refine aV rfl ?_)|(with_reducible refine bv ?_;first|refine bd rfl rfl rfl rfl ?_|refine bt rfl rfl rfl ?_|refine bI rfl rfl rfl rfl ?_)|(with_reducible refine b8 ?_;first|refine b9 rfl rfl rfl rfl ?_|refine cE rfl rfl rfl ?_|refine cU rfl rfl rfl rfl ?_|refine cc hN ?_)|((first|(with_reducible first|((first|refine aZ ?_|refine ce ?_|refine a8 ?_|refine cf ?_);intro K hK)|(refine aE ?_;intro X Y ae af)|refine aF ?_)|(with_reducible refine bv ?_;refine be rfl rfl fun X Y ae af=>?_)|(with_reducible refine b8 ?_;refine ca rfl rfl fun X Y ae af=>?_));simp (disch:=first|decide|omega|(simp only [List.length_cons,List.length_nil];omega)) only [go_sem,↓aj hN,ak hN,reduceIte,reduceCtorEq,Nat.reduceAdd,Nat.reduceLT,Nat.reduceLeDiff,Nat.reduceEqDiff,Nat.reduceSub])|(with_reducible refine And.intro (fun h=>?_) (fun h=>?_) <;> try (exfalso;omega))|(with_reducible refine aY aI hN ?_)|(with_reducible refine bF aI hN ?_)|(refine aB h1 ?_ rfl (fun _=>rfl) ?_)|(refine aB h3 ?_ rfl (fun _=>rfl) ?_)|(refine io hOf ?_ rfl rfl ?_)|(with_reducible first|exact aq|refine am ?_ ?_|exact bH _|refine aM ?_|exact aL _|exact bj _ _|refine bi ?_|exact aJ _)|exact aN hN rfl rfl|(refine bh hN rfl ?_;first|exact aC _|exact aD _)|exact aK rfl rfl rfl|(simp only [ba,List.map_nil])|(with_reducible refine bu ?_)|(with_reducible refine And.intro ?_ ?_)|(refine ah ?_;omega)|(exact aX hN (by decide))))
 (refine bT (fun (k : Nat)=>(tmL [(8,.c (.int .i64 k)),(7,.ad (ν 4) 0),(6,.sl (ν 2)),(4,.ad (ν 1) 0),(2,.ad (ν 0) 0),(1,.c (.I ps))],hpL hp0 ν [.box [.c (.I g.ar.own),.c (.R g.ar.nxt),.c (.I g.prio)],.box [.c .nul,.c .nul],.arr 2 .yes (.I (bo g)),.arr 2 .yes (.I (tab g.prio.length fun v=>if v < k then gi ps v else -1)),.box [.c (.I g.ar.own),.c (.I g.prio),.c (.R g.ar.nxt),.c (.R (c8 g).prev),.sl (ν 3)]])) (fun (k : Nat)=>k ≤ ps.length) (fun (k : Nat)=>ps.length - k) ⟨0,?_,bB hX hN [] ?_ ?_⟩ ?_;(repeat' (first|(with_reducible first|exact clZ|refine bw ?_ ?_|refine bz ?_ ?_|rfl|refine suZ ?_)|refine bA rfl ?_ ?_|exact aP hN _ rfl rfl rfl|exact aQ hN _ rfl rfl rfl|exact ax hN _ rfl rfl rfl (Or.inr rfl)|(refine aR hN _ rfl rfl (by first|exact Or.inr rfl|exact Or.inl rfl) ?_;first|exact aC _|exact aD _)|refine ay hN rfl ?_|refine az hN rfl rfl ?_|exact au hN _ rfl rfl|exact aA hN rfl rfl rfl rfl|(with_reducible first|refine stZ ?_|refine aO ?_)));(try (any_goals (first|(with_reducible rfl)|(refine ah ?_;omega)))))
 · exact bR fun j hj=>if_neg (by omega)
 intro k hk
 have hfk : k < ps.length → ¬ gi ps k = -1 → gi g.ar.own k = gi (bo g) k:=fun h1 h2=>ho k h1 (by
  rcases hps.2 k h1 with e|e
  · exact absurd e h2
  · obtain ⟨t,ht,e'⟩:=ck e
    have:=eO hg (by omega) ht
    omega)
 have htl:=bY g.prio.length fun v=>if v < k then gi ps v else (-1 : Int)
 (repeat' (first|(with_reducible first|(apply hK;clear hK K)|refine stZ ?_|refine aT rfl ?_|((first|apply ae|apply af);clear ae X af Y))|(with_reducible refine aW ?_;first|refine aU rfl ?_|refine aV rfl ?_)|(with_reducible refine bv ?_;first|refine bd rfl rfl rfl rfl ?_|refine bt rfl rfl rfl ?_|refine bI rfl rfl rfl rfl ?_)|(with_reducible refine b8 ?_;first|refine b9 rfl rfl rfl rfl ?_|refine cE rfl rfl rfl ?_|refine cU rfl rfl rfl rfl ?_|refine cc hN ?_)|((first|(with_reducible first|((first|refine aZ ?_|refine ce ?_|refine a8 ?_|refine cf ?_);intro K hK)|(refine aE ?_;intro X Y ae af)|refine aF ?_)|(with_reducible refine bv ?_;refine be rfl rfl fun X Y ae af=>?_)|(with_reducible refine b8 ?_;refine ca rfl rfl fun X Y ae af=>?_));simp (disch:=first|decide|omega|(simp only [List.length_cons,List.length_nil];omega)) only [go_sem,↓aj hN,ak hN,reduceIte,reduceCtorEq,Nat.reduceAdd,Nat.reduceLT,Nat.reduceLeDiff,Nat.reduceEqDiff,Nat.reduceSub])|(with_reducible refine And.intro (fun h=>?_) (fun h=>?_) <;> try (exfalso;omega))|(with_reducible refine aY aI hN ?_)|(with_reducible refine bF aI hN ?_)|(refine aB (kj (bo g) 0 (by omega)) ?_ rfl (fun _=>rfl) ?_;focus ((repeat' (first|(with_reducible first|exact aq|refine am ?_ ?_|exact bH _|refine aM ?_|exact aL _|exact bj _ _|refine bi ?_|exact aJ _)|exact aN hN rfl rfl|(refine bh hN rfl ?_;first|exact aC _|exact aD _)|exact aK rfl rfl rfl));done))|(refine aB (kj (bo g) 1 (by omega)) ?_ rfl (fun _=>rfl) ?_;focus ((repeat' (first|(with_reducible first|exact aq|refine am ?_ ?_|exact bH _|refine aM ?_|exact aL _|exact bj _ _|refine bi ?_|exact aJ _)|exact aN hN rfl rfl|(refine bh hN rfl ?_;first|exact aC _|exact aD _)|exact aK rfl rfl rfl));done))|(with_reducible first|exact aq|refine am ?_ ?_|exact bH _|refine aM ?_|exact aL _|exact bj _ _|refine bi ?_|exact aJ _)|exact aN hN rfl rfl|(refine bh hN rfl ?_;first|exact aC _|exact aD _)|exact aK rfl rfl rfl|(simp only [ba,List.map_nil])|(with_reducible refine bu ?_)|(with_reducible refine And.intro ?_ ?_)|(refine ah ?_;omega)|(exact aX hN (by decide))))
 · (refine ⟨k + 1,⟨?_,?_⟩,bB hX hN [] ?_ ?_⟩;(try any_goals dsimp only);(repeat' (first|(with_reducible first|exact clZ|refine bw ?_ ?_|refine bz ?_ ?_|rfl|refine suZ ?_)|refine bA rfl ?_ ?_|exact aP hN _ rfl rfl rfl|exact aQ hN _ rfl rfl rfl|exact ax hN _ rfl rfl rfl (Or.inr rfl)|(refine aR hN _ rfl rfl (by first|exact Or.inr rfl|exact Or.inl rfl) ?_;first|exact aC _|exact aD _)|refine ay hN rfl ?_|refine az hN rfl rfl ?_|exact au hN _ rfl rfl|exact aA hN rfl rfl rfl rfl|(with_reducible first|refine stZ ?_|refine aO ?_)));(try (any_goals (first|(with_reducible rfl)|(refine ah ?_;omega)))))
   exact kU (by omega) rfl
 · (refine ⟨k + 1,⟨?_,?_⟩,bB hX hN [] ?_ ?_⟩;(try any_goals dsimp only);(repeat' (first|(with_reducible first|exact clZ|refine bw ?_ ?_|refine bz ?_ ?_|rfl|refine suZ ?_)|refine bA rfl ?_ ?_|exact aP hN _ rfl rfl rfl|exact aQ hN _ rfl rfl rfl|exact ax hN _ rfl rfl rfl (Or.inr rfl)|(refine aR hN _ rfl rfl (by first|exact Or.inr rfl|exact Or.inl rfl) ?_;first|exact aC _|exact aD _)|refine ay hN rfl ?_|refine az hN rfl rfl ?_|exact au hN _ rfl rfl|exact aA hN rfl rfl rfl rfl|(with_reducible first|refine stZ ?_|refine aO ?_)));(try (any_goals (first|(with_reducible rfl)|(refine ah ?_;omega)))))
   exact kU (by omega) rfl
 have htp : (tab g.prio.length fun v=>if v < k then gi ps v else (-1 : Int)) = gy g (bo g) ps 0:=(jV (by omega)).trans (lj hpl fun j hj=>rfl).symm
 rw [htp]
 clear hfk htl htp hk
 (refine bT (fun (k : Nat)=>(tmL [(11,.c (.int .i64 k)),(9,.sl (ν 5)),(10,.sl (ν 6)),(7,.ad (ν 4) 0),(6,.sl (ν 2)),(4,.ad (ν 1) 0),(2,.ad (ν 0) 0)],hpL hp0 ν [.box [.c (.I g.ar.own),.c (.R g.ar.nxt),.c (.I g.prio)],.box [.c .nul,.c .nul],.arr 2 .yes (.I (bo g)),.arr 2 .yes (.I (gy g (bo g) ps k)),.box [.c (.I g.ar.own),.c (.I g.prio),.c (.R g.ar.nxt),.c (.R (c8 g).prev),.sl (ν 3)],.arr 4 .yes (.B (fP (bo g) 0)),.arr 4 .yes (.B (fP (bo g) 1))])) (fun (k : Nat)=>k ≤ g.prio.length) (fun (k : Nat)=>g.prio.length - k) ⟨0,?_,bB hX hN [] ?_ ?_⟩ ?_;(repeat' (first|(with_reducible first|exact clZ|refine bw ?_ ?_|refine bz ?_ ?_|rfl|refine suZ ?_)|refine bA rfl ?_ ?_|exact aP hN _ rfl rfl rfl|exact aQ hN _ rfl rfl rfl|exact ax hN _ rfl rfl rfl (Or.inr rfl)|(refine aR hN _ rfl rfl (by first|exact Or.inr rfl|exact Or.inl rfl) ?_;first|exact aC _|exact aD _)|refine ay hN rfl ?_|refine az hN rfl rfl ?_|exact au hN _ rfl rfl|exact aA hN rfl rfl rfl rfl|(with_reducible first|refine stZ ?_|refine aO ?_)));(try (any_goals (first|(with_reducible rfl)|(refine ah ?_;omega)))))
 intro k hk
 have hPok:=s9 hg hp k hk
 have hPl:=hPok.pk.1
 have hstep : gy g (bo g) ps (k + 1) = pI g (bo g) (gy g (bo g) ps k) k:=rfl
 generalize hP : gy g (bo g) ps k = P at *
 (repeat' (first|(with_reducible first|(apply hK;clear hK K)|refine stZ ?_|refine aT rfl ?_|((first|apply ae|apply af);clear ae X af Y))|(with_reducible refine aW ?_;first|refine aU rfl ?_|refine aV rfl ?_)|(with_reducible refine bv ?_;first|refine bd rfl rfl rfl rfl ?_|refine bt rfl rfl rfl ?_|refine bI rfl rfl rfl rfl ?_)|(with_reducible refine b8 ?_;first|refine b9 rfl rfl rfl rfl ?_|refine cE rfl rfl rfl ?_|refine cU rfl rfl rfl rfl ?_|refine cc hN ?_)|((first|(with_reducible first|((first|refine aZ ?_|refine ce ?_|refine a8 ?_|refine cf ?_);intro K hK)|(refine aE ?_;intro X Y ae af)|refine aF ?_)|(with_reducible refine bv ?_;refine be rfl rfl fun X Y ae af=>?_)|(with_reducible refine b8 ?_;refine ca rfl rfl fun X Y ae af=>?_));simp (disch:=first|decide|omega|(simp only [List.length_cons,List.length_nil];omega)) only [go_sem,↓aj hN,ak hN,reduceIte,reduceCtorEq,Nat.reduceAdd,Nat.reduceLT,Nat.reduceLeDiff,Nat.reduceEqDiff,Nat.reduceSub])|(with_reducible refine And.intro (fun h=>?_) (fun h=>?_) <;> try (exfalso;omega))|(with_reducible refine aY aI hN ?_)|(with_reducible refine bF aI hN ?_)|(refine dk (km g hg P hPok k (by omega) (fv (by assumption)).symm 0 (tj (by omega) (by assumption))) hN 3 rfl rfl rfl rfl rfl ?_ ?_ ?_ ?_;(focus (simp [a9,AV.names];done));(focus (intro ν' hν;(repeat' (first|exact ArgMs.nil|refine ArgMs.cons ?_ ?_|exact gf hν|exact gg hν|exact jm _|exact iR (by first|exact aL _|exact aJ _|exact aK rfl rfl rfl) rfl|(refine gh hN rfl ?_ (by decide);first|exact aC _|exact aD _)|refine ec ?_));done));(focus (first|exact Or.inr ⟨rfl,rfl,fun _=>rfl⟩|exact Or.inl (by simp [a9,AV.names]))))|(refine dk (km g hg P hPok k (by omega) (fv (by assumption)).symm 1 (by assumption)) hN 3 rfl rfl rfl rfl rfl ?_ ?_ ?_ ?_;(focus (simp [a9,AV.names];done));(focus (intro ν' hν;(repeat' (first|exact ArgMs.nil|refine ArgMs.cons ?_ ?_|exact gf hν|exact gg hν|exact jm _|exact iR (by first|exact aL _|exact aJ _|exact aK rfl rfl rfl) rfl|(refine gh hN rfl ?_ (by decide);first|exact aC _|exact aD _)|refine ec ?_));done));(focus (first|exact Or.inr ⟨rfl,rfl,fun _=>rfl⟩|exact Or.inl (by simp [a9,AV.names]))))|(with_reducible first|exact aq|refine am ?_ ?_|exact bH _|refine aM ?_|exact aL _|exact bj _ _|refine bi ?_|exact aJ _)|exact aN hN rfl rfl|(refine bh hN rfl ?_;first|exact aC _|exact aD _)|exact aK rfl rfl rfl|(simp only [ba,List.map_nil])|(with_reducible refine bu ?_)|(simp (disch:=first|decide|omega|(simp only [List.length_cons,List.length_nil];omega)) only [ba,List.map_cons,List.map_nil,ak hN,List.set_cons_zero,List.set_cons_succ])|(with_reducible refine And.intro ?_ ?_)|(refine ah ?_;omega)|(exact aX hN (by decide))))
 · (refine ⟨k + 1,⟨?_,?_⟩,bB hX hN [] ?_ ?_⟩;(try any_goals dsimp only);(repeat' (first|(with_reducible first|exact clZ|refine bw ?_ ?_|refine bz ?_ ?_|rfl|refine suZ ?_)|refine bA rfl ?_ ?_|exact aP hN _ rfl rfl rfl|exact aQ hN _ rfl rfl rfl|exact ax hN _ rfl rfl rfl (Or.inr rfl)|(refine aR hN _ rfl rfl (by first|exact Or.inr rfl|exact Or.inl rfl) ?_;first|exact aC _|exact aD _)|refine ay hN rfl ?_|refine az hN rfl rfl ?_|exact au hN _ rfl rfl|exact aA hN rfl rfl rfl rfl|(with_reducible first|refine stZ ?_|refine aO ?_)));(try (any_goals (first|(with_reducible rfl)|(refine ah ?_;omega)))))
   rw [hstep]
   exact if_neg fun c=>absurd c.2 (by omega)
 · (refine ⟨k + 1,⟨?_,?_⟩,bB hX hN [] ?_ ?_⟩;(try any_goals dsimp only);(repeat' (first|(with_reducible first|exact clZ|refine bw ?_ ?_|refine bz ?_ ?_|rfl|refine suZ ?_)|refine bA rfl ?_ ?_|exact aP hN _ rfl rfl rfl|exact aQ hN _ rfl rfl rfl|exact ax hN _ rfl rfl rfl (Or.inr rfl)|(refine aR hN _ rfl rfl (by first|exact Or.inr rfl|exact Or.inl rfl) ?_;first|exact aC _|exact aD _)|refine ay hN rfl ?_|refine az hN rfl rfl ?_|exact au hN _ rfl rfl|exact aA hN rfl rfl rfl rfl|(with_reducible first|refine stZ ?_|refine aO ?_)));(try (any_goals (first|(with_reducible rfl)|(refine ah ?_;omega)))))
   rw [hstep]
   exact if_neg fun c=>absurd c.1.symm (by assumption)
 · (refine ⟨k + 1,⟨?_,?_⟩,bB hX hN [] ?_ ?_⟩;(try any_goals dsimp only);(repeat' (first|(with_reducible first|exact clZ|refine bw ?_ ?_|refine bz ?_ ?_|rfl|refine suZ ?_)|refine bA rfl ?_ ?_|exact aP hN _ rfl rfl rfl|exact aQ hN _ rfl rfl rfl|exact ax hN _ rfl rfl rfl (Or.inr rfl)|(refine aR hN _ rfl rfl (by first|exact Or.inr rfl|exact Or.inl rfl) ?_;first|exact aC _|exact aD _)|refine ay hN rfl ?_|refine az hN rfl rfl ?_|exact au hN _ rfl rfl|exact aA hN rfl rfl rfl rfl|(with_reducible first|refine stZ ?_|refine aO ?_)));(try (any_goals (first|(with_reducible rfl)|(refine ah ?_;omega)))))
   rw [hstep,List.set_set]
   exact if_pos ⟨(fv (by assumption)).symm,by omega⟩
 · (refine ⟨k + 1,⟨?_,?_⟩,bB hX hN [] ?_ ?_⟩;(try any_goals dsimp only);(repeat' (first|(with_reducible first|exact clZ|refine bw ?_ ?_|refine bz ?_ ?_|rfl|refine suZ ?_)|refine bA rfl ?_ ?_|exact aP hN _ rfl rfl rfl|exact aQ hN _ rfl rfl rfl|exact ax hN _ rfl rfl rfl (Or.inr rfl)|(refine aR hN _ rfl rfl (by first|exact Or.inr rfl|exact Or.inl rfl) ?_;first|exact aC _|exact aD _)|refine ay hN rfl ?_|refine az hN rfl rfl ?_|exact au hN _ rfl rfl|exact aA hN rfl rfl rfl rfl|(with_reducible first|refine stZ ?_|refine aO ?_)));(try (any_goals (first|(with_reducible rfl)|(refine ah ?_;omega)))))
   rw [hstep,List.set_set]
   exact if_pos ⟨(fv (by assumption)).symm,by omega⟩
 · (refine dY hN [2,3] (by decide) (.inr rfl) (by first|exact bZ rfl rfl|exact bU hN rfl rfl rfl rfl|exact bQ hN rfl rfl rfl rfl rfl|(simp (disch:=first|decide|omega|(simp only [List.length_cons,List.length_nil];omega)) only [bG,bK,bN,bO,go_sem,beq_self_eq_true,↓ao,↓aj hN,ak hN,reduceIte,reduceCtorEq,Nat.reduceAdd,Nat.reduceLT,Nat.reduceLeDiff,Nat.reduceEqDiff,Nat.reduceSub];rfl)|rfl) ?_ fun νs hνs=>?_;(repeat' (first|exact Gone.nil|(refine Gone.cons rfl rfl ?_ ?_)|(with_reducible refine di ?_)|(with_reducible refine dh ?_)|(with_reducible refine SVs.cons ?_ ?_)|(with_reducible exact SVs.nil)|(simp only [List.drop,List.take])|(simp (disch:=first|decide|omega) only [↓ao,reduceIte,reduceCtorEq,Nat.reduceEqDiff])|(with_reducible exact ge _)|(with_reducible exact df _)|(exact dg rfl rfl rfl)|(exact dI 0 (by simp) rfl rfl)|(exact dI 1 (by simp) rfl rfl)|(refine dW hN rfl (dj hN (by decide)) ?_)|(with_reducible refine dV ?_)|(with_reducible rfl)|(with_reducible refine gj ?_)|(with_reducible refine gl ?_)|(with_reducible refine gm ?_)|(with_reducible refine fV ?_)|(with_reducible refine fK ?_)|(refine ah ?_;omega))))
   all_goals first|rfl|(rw [← hP,show k = g.prio.length by omega])
end Go.Proofs.Ythjamlponejffaa
