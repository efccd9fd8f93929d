/-
  PlanFrom and Solved: the reference's side (the contract of l7Of with its own pick list is a premise still).
-/
import Derived.Test.YtiadchinhofieaaGreatZfE19
namespace Go.Proofs.YtiadchinhofieaaGreat
set_option linter.unusedVariables false
set_option linter.unusedSimpArgs false
open Go.RowKit
attribute [local irreducible] aO ck Aw Le
def gmP (g : Pa) (P : List Int) : Gm:=⟨(dE g).own,(dE g).prio,(dE g).nxt,(dE g).prev,P⟩
theorem yH {g : Pa} (hg : PaOk g) {P : List Int} (h : P.length = g.prio.length) : GmOk (gmP g P) g.prio.length:=by
 obtain ⟨a,b,c,d,e,f,h1,h2,h3,h4,h5,h6,h7⟩:=kH hg
 exact ⟨a,b,c,d,e,h,h1,h2,h3,h4,h5,h6,h7⟩
theorem Au {A B : PG.Gm} (h1 : A.own = B.own) (h2 : A.prio = B.prio) (h3 : A.E = B.E) : A = B:=by
 cases A;cases B
 simp only at h1 h2 h3
 subst h1;subst h2;subst h3
 rfl
theorem nL {g : Pa} (hg : PaOk g) {P : List Int} (h : fY g P) : df (gmP g P) g.prio.length = pgP (eQ g P):=by
 refine Au rfl rfl (funext fun v=>funext fun u=>propext ?_)
 rw [il]
 show v < _ ∧ u < _ ∧ edg (gmP g P) v u = true ∧ (∃ t,t < (gr g.ar.nxt v).length ∧ gi (gr g.ar.nxt v) t = (u : Int)) ↔ v < g.prio.length ∧ u < g.prio.length ∧ _
 refine and_congr_right fun hv=>and_congr_right fun hu=>?_
 have hl:=hg.len
 rw [show gr (eQ g P).ar.nxt v = fG g.ar.nxt P v from dD _ (by omega)]
 have he : edg (gmP g P) v u = true ↔ gi P v < 0 ∨ gi P v = (u : Int):=by
  simp only [edg,gmP,Bool.or_eq_true,beq_iff_eq,Int.toNat_natCast]
  exact or_congr_left ⟨fun h=>of_decide_eq_true h,fun h=>decide_eq_true h⟩
 rw [he]
 unfold fG
 split
 · rename_i h0
   constructor
   · rintro ⟨h1|h1,_⟩
     · omega
     · exact ⟨0,by simp,h1⟩
   · rintro ⟨t,ht,e⟩
     have : t = 0:=by simpa using ht
     subst this
     have e' : gi P v = (u : Int):=e
     refine ⟨.inr e',?_⟩
     rcases h.2 v (by have:=h.1;omega) with e2|e2
     · omega
     · obtain ⟨t,ht,e3⟩:=cR e2
       exact ⟨t,ht,e3.trans e'⟩
 · exact ⟨fun x=>x.2,fun x=>⟨.inl (by omega),x⟩⟩
def gP (W : List Int) (i : Int) : List Bool:=cJ W.length fun v=>gi W v == i
theorem lG (W : List Int) (i : Int) : (gP W i).length = W.length:=cT _ _
theorem jD {W : List Int} {i : Int} {v : Nat} : gb (gP W i) v = true ↔ (v : Int) ∈ atL W i:=by
 rw [rG]
 constructor
 · intro h
   have hv : v < W.length:=by have:=jz h;rwa [lG] at this
   rw [gP,di _ hv] at h
   exact ⟨v,hv,rfl,by simpa using h⟩
 · rintro ⟨u,h1,h2,h3⟩
   have : u = v:=by omega
   subst this
   rw [gP,di _ h1,h3];simp
theorem sX {g : Pa} (hg : PaOk g) {P : List Int} (h : PickOk g P) {i : Int} (hi : i = 0 ∨ i = 1) : (∀ v,gb (gP (bL g) i) v = true → (PG.Won (df (gmP g P) g.prio.length) 0 (fun v=>gb (gP (bL g) i) v = true) v ↔ i = 0)) ↔ l4 g (bL g) i P:=by
 rw [nL hg h.pk,show (fun v=>gb (gP (bL g) i) v = true) = fun v : Nat=>(v : Int) ∈ atL (bL g) i from funext fun v=>propext jD]
 have ht:=ph (jC hg h.pk) (pp hg h i)
 have hS : ∀ v : Nat,(v : Int) ∈ atL (bL g) i → v < (eQ g P).prio.length:=fun v hv=>(kK.1 hv).1
 unfold l4
 refine forall_congr' fun v=>?_
 rw [jD]
 refine imp_congr_right fun hv=>?_
 have hn:=ut (P:=pgP (eQ g P)) uv hS ht (i:=0) (.inl rfl) v
 rcases hi with e|e <;> subst e
 · exact ⟨fun h=>h.2 rfl,fun h=>⟨fun _=>rfl,fun _=>h⟩⟩
 · exact ⟨fun h=>hn.2 ⟨hv,fun h'=>absurd (h.1 h') (by omega)⟩,fun h=>⟨fun h'=>absurd h' (hn.1 h).2,fun h'=>absurd h' (by omega)⟩⟩
def kq (W us P : List Int) (v : Nat) : Nat → Int
 | 0 => gi P v
 | t + 1 => if gi W (gi us t).toNat = gi W v then gi us t else kq W us P v t
noncomputable def wY (g : Pa) (W P : List Int) (v : Nat) : Int:=if gO g W v P (gr g.ar.nxt v) = -1 then kq W (gr g.ar.nxt v) P v (gr g.ar.nxt v).length else gO g W v P (gr g.ar.nxt v)
theorem lH (W : List Int) (i : Int) (hl : W.length ≤ 1048576) : aO Tryz.prog 49 [.c (.I W),.c (.int .i64 i)] [.arr 4 .yes (.B (gP W i))] (fun ns=>.sl (ns.getD 0 0)):=by
 (refine bj ap Tryz.func49 rfl rfl (by kernel_rfl) fun hp0 ν hX hN=>?_;simp only [bU,Nat.reduceAdd])
 (repeat' (first|(with_reducible first|(apply hK;clear hK K)|refine stZ ?_|refine aD rfl ?_|((first|apply ae|apply af);clear ae X af Y))|(with_reducible refine aG ?_;first|refine aE rfl ?_|refine aF rfl ?_)|((with_reducible first|((first|refine aJ ?_|refine aK ?_);intro K hK)|(refine am ?_;intro X Y ae af)|refine ao ?_);simp (disch:=first|decide|omega|(simp only [List.length_cons,List.length_nil];omega)) only [go_sem,↓aj hN,ak hN,reduceIte,reduceCtorEq,Nat.reduceAdd,Nat.reduceLT,Nat.reduceLeDiff,Nat.reduceEqDiff,Nat.reduceSub])|(with_reducible refine And.intro (fun h=>?_) (fun h=>?_) <;> try (exfalso;omega))|(with_reducible refine aI ap hN ?_)|(with_reducible refine And.intro ?_ ?_)|(refine ah ?_;omega)|(exact aH hN (by decide))))
 (refine bN (fun (k : Nat)=>(tmL [(6,.c (.int .i64 k)),(5,.sl (ν 0)),(0,.c (.I W)),(1,.c (.int .i64 i))],hpL hp0 ν [.arr 4 .yes (.B (cJ W.length fun v=>if v < k then gi W v == i else false))])) (fun (k : Nat)=>k ≤ W.length) (fun (k : Nat)=>W.length - k) ⟨0,?_,bu hX hN [] ?_ ?_⟩ ?_;(repeat' (first|(with_reducible first|exact clZ|refine bn ?_ ?_|refine bo ?_ ?_|rfl|refine suZ ?_)|refine bp rfl ?_ ?_|exact aR hN _ rfl rfl rfl|exact aS hN _ rfl rfl rfl|exact ay hN _ rfl rfl rfl (Or.inr rfl)|(refine aT hN _ rfl rfl (by first|exact Or.inr rfl|exact Or.inl rfl) ?_;first|exact aU _|exact aV _)|refine az hN rfl ?_|refine aA hN rfl rfl ?_|exact ax hN _ rfl rfl|exact au hN rfl rfl rfl rfl|(with_reducible first|refine stZ ?_|refine aQ ?_)));(try (any_goals (first|(with_reducible rfl)|(refine ah ?_;omega)))))
 · exact dC _ _
 intro k hk
 have htl:=cT W.length fun v=>if v < k then gi W v == i else false
 (repeat' (first|(with_reducible first|(apply hK;clear hK K)|refine stZ ?_|refine aD rfl ?_|((first|apply ae|apply af);clear ae X af Y))|(with_reducible refine aG ?_;first|refine aE rfl ?_|refine aF rfl ?_)|((with_reducible first|((first|refine aJ ?_|refine aK ?_);intro K hK)|(refine am ?_;intro X Y ae af)|refine ao ?_);simp (disch:=first|decide|omega|(simp only [List.length_cons,List.length_nil];omega)) only [go_sem,↓aj hN,ak hN,reduceIte,reduceCtorEq,Nat.reduceAdd,Nat.reduceLT,Nat.reduceLeDiff,Nat.reduceEqDiff,Nat.reduceSub])|(with_reducible refine And.intro (fun h=>?_) (fun h=>?_) <;> try (exfalso;omega))|(with_reducible refine aI ap hN ?_)|(with_reducible refine And.intro ?_ ?_)|(refine ah ?_;omega)|(exact aH hN (by decide))))
 · (refine ⟨k + 1,⟨?_,?_⟩,bu hX hN [] ?_ ?_⟩;(try any_goals dsimp only);(repeat' (first|(with_reducible first|exact clZ|refine bn ?_ ?_|refine bo ?_ ?_|rfl|refine suZ ?_)|refine bp rfl ?_ ?_|exact aR hN _ rfl rfl rfl|exact aS hN _ rfl rfl rfl|exact ay hN _ rfl rfl rfl (Or.inr rfl)|(refine aT hN _ rfl rfl (by first|exact Or.inr rfl|exact Or.inl rfl) ?_;first|exact aU _|exact aV _)|refine az hN rfl ?_|refine aA hN rfl rfl ?_|exact ax hN _ rfl rfl|exact au hN rfl rfl rfl rfl|(with_reducible first|refine stZ ?_|refine aQ ?_)));(try (any_goals (first|(with_reducible rfl)|(refine ah ?_;omega)))))
   exact eZ (by omega) rfl
 · (refine c8 hN (i:=0) (.inr rfl) (by first|rfl|(simp (disch:=first|decide|omega|(simp only [List.length_cons,List.length_nil];omega)) only [bI,bJ,bK,bM,go_sem,beq_self_eq_true,↓aB,↓aj hN,ak hN,reduceIte,reduceCtorEq,Nat.reduceAdd,Nat.reduceLT,Nat.reduceLeDiff,Nat.reduceEqDiff,Nat.reduceSub];rfl)) rfl ?_ rfl)
   exact congrArg C.B (dV (by omega))
theorem uN (n : Nat) (hl : n ≤ 1048576) : aO Tryz.prog 27 [.c (.int .i64 n)] [.arr 2 .yes (.I (noP n))] (fun ns=>.sl (ns.getD 0 0)):=by
 (refine bj ap Tryz.func27 rfl rfl (by kernel_rfl) fun hp0 ν hX hN=>?_;simp only [bU,Nat.reduceAdd])
 (repeat' (first|(with_reducible first|(apply hK;clear hK K)|refine stZ ?_|refine aD rfl ?_|((first|apply ae|apply af);clear ae X af Y))|(with_reducible refine aG ?_;first|refine aE rfl ?_|refine aF rfl ?_)|((with_reducible first|((first|refine aJ ?_|refine aK ?_);intro K hK)|(refine am ?_;intro X Y ae af)|refine ao ?_);simp (disch:=first|decide|omega|(simp only [List.length_cons,List.length_nil];omega)) only [go_sem,↓aj hN,ak hN,reduceIte,reduceCtorEq,Nat.reduceAdd,Nat.reduceLT,Nat.reduceLeDiff,Nat.reduceEqDiff,Nat.reduceSub])|(with_reducible refine And.intro (fun h=>?_) (fun h=>?_) <;> try (exfalso;omega))|(with_reducible refine aI ap hN ?_)|(with_reducible refine And.intro ?_ ?_)|(refine ah ?_;omega)|(exact aH hN (by decide))))
 (refine bN (fun (k : Nat)=>(tmL [(4,.c (.int .i64 k)),(3,.sl (ν 0)),(0,.c (.int .i64 n))],hpL hp0 ν [.arr 2 .yes (.I (noP k))])) (fun (k : Nat)=>k ≤ n) (fun (k : Nat)=>n - k) ⟨0,?_,bu hX hN [] ?_ ?_⟩ ?_;(repeat' (first|(with_reducible first|exact clZ|refine bn ?_ ?_|refine bo ?_ ?_|rfl|refine suZ ?_)|refine bp rfl ?_ ?_|exact aR hN _ rfl rfl rfl|exact aS hN _ rfl rfl rfl|exact ay hN _ rfl rfl rfl (Or.inr rfl)|(refine aT hN _ rfl rfl (by first|exact Or.inr rfl|exact Or.inl rfl) ?_;first|exact aU _|exact aV _)|refine az hN rfl ?_|refine aA hN rfl rfl ?_|exact ax hN _ rfl rfl|exact au hN rfl rfl rfl rfl|(with_reducible first|refine stZ ?_|refine aQ ?_)));(try (any_goals (first|(with_reducible rfl)|(refine ah ?_;omega)))))
 · rfl
 intro k hk
 have htl:=cr k fun _=>(-1 : Int)
 have hsu : noP (k + 1) = noP k ++ [-1]:=gZ k fun _=>(-1 : Int)
 have hnl : (noP k).length = k:=cr _ _
 (repeat' (first|(with_reducible first|(apply hK;clear hK K)|refine stZ ?_|refine aD rfl ?_|((first|apply ae|apply af);clear ae X af Y))|(with_reducible refine aG ?_;first|refine aE rfl ?_|refine aF rfl ?_)|((with_reducible first|((first|refine aJ ?_|refine aK ?_);intro K hK)|(refine am ?_;intro X Y ae af)|refine ao ?_);simp (disch:=first|decide|omega|(simp only [List.length_cons,List.length_nil];omega)) only [go_sem,↓aj hN,ak hN,reduceIte,reduceCtorEq,Nat.reduceAdd,Nat.reduceLT,Nat.reduceLeDiff,Nat.reduceEqDiff,Nat.reduceSub])|(with_reducible refine And.intro (fun h=>?_) (fun h=>?_) <;> try (exfalso;omega))|(with_reducible refine aI ap hN ?_)|(with_reducible refine And.intro ?_ ?_)|(refine ah ?_;omega)|(exact aH hN (by decide))))
 · (refine ⟨k + 1,⟨?_,?_⟩,bu hX hN [(0,2)] ?_ ?_⟩;(try any_goals dsimp only);(repeat' (first|(with_reducible first|exact clZ|refine bn ?_ ?_|refine bo ?_ ?_|rfl|refine suZ ?_)|refine bp rfl ?_ ?_|exact aR hN _ rfl rfl rfl|exact aS hN _ rfl rfl rfl|exact ay hN _ rfl rfl rfl (Or.inr rfl)|(refine aT hN _ rfl rfl (by first|exact Or.inr rfl|exact Or.inl rfl) ?_;first|exact aU _|exact aV _)|refine az hN rfl ?_|refine aA hN rfl rfl ?_|exact ax hN _ rfl rfl|exact au hN rfl rfl rfl rfl|(with_reducible first|refine stZ ?_|refine aQ ?_)));(try (any_goals (first|(with_reducible rfl)|(refine ah ?_;omega)))))
   all_goals rw [hsu]
 · (refine c8 hN (i:=0) (.inr rfl) (by first|rfl|(simp (disch:=first|decide|omega|(simp only [List.length_cons,List.length_nil];omega)) only [bI,bJ,bK,bM,go_sem,beq_self_eq_true,↓aB,↓aj hN,ak hN,reduceIte,reduceCtorEq,Nat.reduceAdd,Nat.reduceLT,Nat.reduceLeDiff,Nat.reduceEqDiff,Nat.reduceSub];rfl)) rfl ?_ rfl)
   rw [show k = n by omega]
theorem lI {g : Pa} {i x : Int} (h : gb (gP (bL g) i) x.toNat = true) : gi (bL g) x.toNat = i:=(kK.1 (jD.1 h)).2
theorem yI {g : Pa} {i x : Int} (hx : x.toNat < g.prio.length) (h : gb (gP (bL g) i) x.toNat = false) : ¬ gi (bL g) x.toNat = i:=fun e=>by
 rw [jD.2 (kK.2 ⟨hx,e⟩)] at h
 exact absurd h (by decide)
theorem uO {g : Pa} (hg : PaOk g) {P : List Int} (h : PickOk g P) {k t : Nat} {x : Int} (hk : k < g.prio.length) (ho : gi g.ar.own k = gi (bL g) k) (ht : t < (gr g.ar.nxt k).length) (hw : gi (bL g) (gi (gr g.ar.nxt k) t).toNat = gi (bL g) k) : PickOk g ((P.set k x).set k (gi (gr g.ar.nxt k) t)):=by
 rw [List.set_set];exact uL hg h hk ho ht hw
theorem w6 (g : Pa) (hg : PaOk g) (P : List Int) (h : PickOk g P) (v : Nat) (hv : v < g.prio.length) (ho : gi g.ar.own v = gi (bL g) v) : aO Tryz.prog 73 [.agg [.c (.I g.ar.own),.c (.I g.prio),.c (.R g.ar.nxt),.c (.R (dE g).prev),.c (.I P)],.c (.B (gP (bL g) (gi (bL g) v))),.c (.int .i64 (gi g.ar.own v))] [] (fun _=>.c (.bool (tf (l4 g (bL g) (gi (bL g) v) P)))):=by
 have hgo:=sX hg h (nI hv)
 have ht : PG.Total (df (gmP g P) g.prio.length) (fun u=>gb (gP (bL g) (gi (bL g) v)) u = true):=by
  rw [nL hg h.pk,show (fun u=>gb (gP (bL g) (gi (bL g) v)) u = true) = fun u : Nat=>(u : Int) ∈ atL (bL g) (gi (bL g) v) from funext fun v=>propext jD]
  exact ph (jC hg h.pk) (pp hg h _)
 have:=sO (gmP g P) g.prio.length (yH hg h.pk.1) (gP (bL g) (gi (bL g) v)) ((lG _ _).trans (eO g)) (gi (bL g) v) ht
 rw [c9 hgo] at this
 rw [ho]
 exact this
set_option maxHeartbeats 1000000 in
theorem sY (g : Pa) (hg : PaOk g) (P : List Int) (hP : PickOk g P) (v : Nat) (hv : v < g.prio.length) (ho : gi g.ar.own v = gi (bL g) v) : dx Tryz.prog 50 (fun ν=>[.agg [.c (.I g.ar.own),.c (.I g.prio),.c (.R g.ar.nxt),.c (.R (dE g).prev),.sl (ν 0)],.c (.B (gP (bL g) (gi (bL g) v))),.c (.int .i64 v)]) [.arr 2 .yes (.I P)] [.arr 2 .yes (.I (P.set v (wY g (bL g) P v)))] [] (fun _=>.c (.int .i64 (gO g (bL g) v P (gr g.ar.nxt v)))):=by
 have hl:=hg.len
 have hle:=hg.ar.le
 have hln:=hg.ar.len
 have hPl:=hP.pk.1
 have hrl:=(hg.ar.vert v (by omega)).2.2.2.1
 have hRl:=(lG (bL g) (gi (bL g) v)).trans (eO g)
 have hnx:=fun t (ht : t < (gr g.ar.nxt v).length)=>eR hg hv ht
 (refine fC ap Tryz.func50 rfl rfl (fun _=>by kernel_rfl) rfl rfl rfl rfl (by first|exact jv _|exact ic (j:=0) (by simp) (by simp [Ent.kind])|exact ig (j:=0) (by simp) (by simp [Ent.kind])|exact fB rfl|exact gn|exact jw _) fun hp0 ν hX hN=>?_;simp only [bU,Nat.reduceAdd])
 (repeat' (first|(with_reducible first|(apply hK;clear hK K)|refine stZ ?_|refine aD rfl ?_|((first|apply ae|apply af);clear ae X af Y))|(with_reducible refine aG ?_;first|refine aE rfl ?_|refine aF rfl ?_)|(with_reducible refine ba ?_;refine bd hN ?_)|((with_reducible first|((first|refine aJ ?_|refine bf ?_|refine aK ?_|refine bg ?_);intro K hK)|(refine am ?_;intro X Y ae af)|refine ao ?_);simp (disch:=first|decide|omega|(simp only [List.length_cons,List.length_nil];omega)) only [go_sem,↓aj hN,ak hN,reduceIte,reduceCtorEq,Nat.reduceAdd,Nat.reduceLT,Nat.reduceLeDiff,Nat.reduceEqDiff,Nat.reduceSub])|(with_reducible refine And.intro (fun h=>?_) (fun h=>?_) <;> try (exfalso;omega))|(with_reducible refine aI ap hN ?_)|(with_reducible refine aC ap hN ?_)|(with_reducible refine And.intro ?_ ?_)|(refine ah ?_;omega)|(exact aH hN (by decide))))
 (refine bN (fun (t : Nat)=>(tmL [(7,.c (.int .i64 t)),(3,.ad (ν 1) 0),(1,.c (.B (gP (bL g) (gi (bL g) v)))),(2,.c (.int .i64 v))],hpL hp0 ν [.arr 2 .yes (.I (P.set v (kq (bL g) (gr g.ar.nxt v) P v t))),.box [.c (.I g.ar.own),.c (.I g.prio),.c (.R g.ar.nxt),.c (.R (dE g).prev),.sl (ν 0)]])) (fun (t : Nat)=>t ≤ (gr g.ar.nxt v).length ∧ gO g (bL g) v P (gr g.ar.nxt v) = gO g (bL g) v P ((gr g.ar.nxt v).drop t)) (fun (t : Nat)=>(gr g.ar.nxt v).length - t) ⟨0,?_,bu hX hN [] ?_ ?_⟩ ?_;(repeat' (first|(with_reducible first|exact clZ|refine bn ?_ ?_|refine bo ?_ ?_|rfl|refine suZ ?_)|refine bp rfl ?_ ?_|exact aR hN _ rfl rfl rfl|exact aS hN _ rfl rfl rfl|exact ay hN _ rfl rfl rfl (Or.inr rfl)|(refine aT hN _ rfl rfl (by first|exact Or.inr rfl|exact Or.inl rfl) ?_;first|exact aU _|exact aV _)|refine az hN rfl ?_|refine aA hN rfl rfl ?_|exact ax hN _ rfl rfl|exact au hN rfl rfl rfl rfl|(with_reducible first|refine stZ ?_|refine aQ ?_)));(try (any_goals (first|(with_reducible rfl)|(refine ah ?_;omega)))))
 · exact ⟨Nat.zero_le _,rfl⟩
 · exact un rfl
 rintro t ⟨ht,hin⟩
 have hnt:=hnx t
 (repeat' (first|(with_reducible first|(apply hK;clear hK K)|refine stZ ?_|refine aD rfl ?_|((first|apply ae|apply af);clear ae X af Y))|(with_reducible refine aG ?_;first|refine aE rfl ?_|refine aF rfl ?_)|(with_reducible refine ba ?_;refine bd hN ?_)|((with_reducible first|((first|refine aJ ?_|refine bf ?_|refine aK ?_|refine bg ?_);intro K hK)|(refine am ?_;intro X Y ae af)|refine ao ?_);simp (disch:=first|decide|omega|(simp only [List.length_cons,List.length_nil];omega)) only [go_sem,↓aj hN,ak hN,reduceIte,reduceCtorEq,Nat.reduceAdd,Nat.reduceLT,Nat.reduceLeDiff,Nat.reduceEqDiff,Nat.reduceSub])|(with_reducible refine And.intro (fun h=>?_) (fun h=>?_) <;> try (exfalso;omega))|(with_reducible refine aI ap hN ?_)|(with_reducible refine aC ap hN ?_)|(refine bW (w6 g hg ((P.set v (kq (bL g) (gr g.ar.nxt v) P v t)).set v (gi (gr g.ar.nxt v) t)) (uO hg hP hv ho (by omega) (lI (by assumption))) v hv ho) ?_ rfl (fun _=>rfl) ?_;focus ((repeat' (first|(with_reducible first|exact bt|refine bc ?_ ?_|exact cm _|refine bF ?_|exact bB _|exact bT _ _|refine bS ?_|exact bz _)|exact bG hN rfl rfl|(refine bR hN rfl ?_;first|exact aU _|exact aV _)|exact bA rfl rfl rfl));done))|(with_reducible first|exact bt|refine bc ?_ ?_|exact cm _|refine bF ?_|exact bB _|exact bT _ _|refine bS ?_|exact bz _)|exact bG hN rfl rfl|(refine bR hN rfl ?_;first|exact aU _|exact aV _)|exact bA rfl rfl rfl|(simp only [aZ,List.map_nil])|(with_reducible refine aY ?_)|(with_reducible refine And.intro ?_ ?_)|(refine ah ?_;omega)|(exact aH hN (by decide))))
 · have hno:=yI (g:=g) (i:=gi (bL g) v) (x:=gi (gr g.ar.nxt v) t) (by omega) (by assumption)
   (refine ⟨t + 1,⟨?_,?_⟩,bu hX hN [] ?_ ?_⟩;(try any_goals dsimp only);(repeat' (first|(with_reducible first|exact clZ|refine bn ?_ ?_|refine bo ?_ ?_|rfl|refine suZ ?_)|refine bp rfl ?_ ?_|exact aR hN _ rfl rfl rfl|exact aS hN _ rfl rfl rfl|exact ay hN _ rfl rfl rfl (Or.inr rfl)|(refine aT hN _ rfl rfl (by first|exact Or.inr rfl|exact Or.inl rfl) ?_;first|exact aU _|exact aV _)|refine az hN rfl ?_|refine aA hN rfl rfl ?_|exact ax hN _ rfl rfl|exact au hN rfl rfl rfl rfl|(with_reducible first|refine stZ ?_|refine aQ ?_)));(try (any_goals (first|(with_reducible rfl)|(refine ah ?_;omega)))))
   · exact ⟨by omega,hin.trans (mG (by omega) fun e=>hno e.1)⟩
   · rw [kq,if_neg hno]
 · have hyes:=lI (g:=g) (x:=gi (gr g.ar.nxt v) t) (by assumption)
   have hgd : l4 g (bL g) (gi (bL g) v) (P.set v (gi (gr g.ar.nxt v) t)):=by
    rw [← List.set_set (a:=kq (bL g) (gr g.ar.nxt v) P v t)];assumption
   have hu:=hin.trans (uJ (by omega) ⟨hyes,hgd⟩)
   (refine ⟨.inr rfl,_,(by first|exact co rfl rfl|exact ce hN rfl rfl rfl rfl|exact bZ hN rfl rfl rfl rfl rfl|(simp (disch:=first|decide|omega|(simp only [List.length_cons,List.length_nil];omega)) only [bI,bJ,bK,bM,go_sem,beq_self_eq_true,↓aB,↓aj hN,ak hN,reduceIte,reduceCtorEq,Nat.reduceAdd,Nat.reduceLT,Nat.reduceLeDiff,Nat.reduceEqDiff,Nat.reduceSub];rfl)|rfl),[],_,rfl,?_,rfl,?_⟩;(all_goals try simp only [List.drop,List.take,List.cons_append,List.nil_append,nmL,List.length_cons,List.length_nil,Nat.reduceAdd,List.getD_cons_zero]);(repeat' (first|(with_reducible first|exact clZ|refine bn ?_ ?_|refine bo ?_ ?_|rfl|refine suZ ?_)|refine bp rfl ?_ ?_|exact aR hN _ rfl rfl rfl|exact aS hN _ rfl rfl rfl|exact ay hN _ rfl rfl rfl (Or.inr rfl)|(refine aT hN _ rfl rfl (by first|exact Or.inr rfl|exact Or.inl rfl) ?_;first|exact aU _|exact aV _)|refine az hN rfl ?_|refine aA hN rfl rfl ?_|exact ax hN _ rfl rfl|exact au hN rfl rfl rfl rfl|(with_reducible first|refine stZ ?_|refine aQ ?_))))
   · rw [wY,hu,if_neg (by have:=hnt (by omega);omega),List.set_set]
   · rw [hu]
 · have hyes:=lI (g:=g) (x:=gi (gr g.ar.nxt v) t) (by assumption)
   have hgd : ¬ l4 g (bL g) (gi (bL g) v) (P.set v (gi (gr g.ar.nxt v) t)):=by
    rw [← List.set_set (a:=kq (bL g) (gr g.ar.nxt v) P v t)];assumption
   (refine ⟨t + 1,⟨?_,?_⟩,bu hX hN [] ?_ ?_⟩;(try any_goals dsimp only);(repeat' (first|(with_reducible first|exact clZ|refine bn ?_ ?_|refine bo ?_ ?_|rfl|refine suZ ?_)|refine bp rfl ?_ ?_|exact aR hN _ rfl rfl rfl|exact aS hN _ rfl rfl rfl|exact ay hN _ rfl rfl rfl (Or.inr rfl)|(refine aT hN _ rfl rfl (by first|exact Or.inr rfl|exact Or.inl rfl) ?_;first|exact aU _|exact aV _)|refine az hN rfl ?_|refine aA hN rfl rfl ?_|exact ax hN _ rfl rfl|exact au hN rfl rfl rfl rfl|(with_reducible first|refine stZ ?_|refine aQ ?_)));(try (any_goals (first|(with_reducible rfl)|(refine ah ?_;omega)))))
   · exact ⟨by omega,hin.trans (mG (by omega) fun e=>hgd e.2)⟩
   · rw [kq,if_pos hyes,List.set_set]
 · have hu:=hin.trans (uK (by omega))
   have htt : t = (gr g.ar.nxt v).length:=by omega
   (refine ⟨.inr rfl,_,(by first|exact co rfl rfl|exact ce hN rfl rfl rfl rfl|exact bZ hN rfl rfl rfl rfl rfl|(simp (disch:=first|decide|omega|(simp only [List.length_cons,List.length_nil];omega)) only [bI,bJ,bK,bM,go_sem,beq_self_eq_true,↓aB,↓aj hN,ak hN,reduceIte,reduceCtorEq,Nat.reduceAdd,Nat.reduceLT,Nat.reduceLeDiff,Nat.reduceEqDiff,Nat.reduceSub];rfl)|rfl),[],_,rfl,?_,rfl,?_⟩;(all_goals try simp only [List.drop,List.take,List.cons_append,List.nil_append,nmL,List.length_cons,List.length_nil,Nat.reduceAdd,List.getD_cons_zero]);(repeat' (first|(with_reducible first|exact clZ|refine bn ?_ ?_|refine bo ?_ ?_|rfl|refine suZ ?_)|refine bp rfl ?_ ?_|exact aR hN _ rfl rfl rfl|exact aS hN _ rfl rfl rfl|exact ay hN _ rfl rfl rfl (Or.inr rfl)|(refine aT hN _ rfl rfl (by first|exact Or.inr rfl|exact Or.inl rfl) ?_;first|exact aU _|exact aV _)|refine az hN rfl ?_|refine aA hN rfl rfl ?_|exact ax hN _ rfl rfl|exact au hN rfl rfl rfl rfl|(with_reducible first|refine stZ ?_|refine aQ ?_))))
   · rw [wY,if_pos hu,htt]
   · rw [hu]
end Go.Proofs.YtiadchinhofieaaGreat
namespace Go.Proofs.YtiadchinhofieaaGreat
set_option linter.unusedVariables false
set_option linter.unusedSimpArgs false
open Go.RowKit
attribute [local irreducible] aO ck Aw Le
def rJ (g : Pa) : Prop:=aO Tryz.prog 48 [paA g] [.arr 2 .yes (.I (dE g).pick)] (fun ns=>.agg [.c (.I g.ar.own),.c (.I g.prio),.c (.R g.ar.nxt),.c (.R (dE g).prev),.sl (ns.getD 0 0)])
theorem uP {g : Pa} {v : Nat} (hv : v < g.prio.length) (h : (gi (bL g) v == 1) = false) : gi (bL g) v = 0:=(nI hv).resolve_right (yG h)
theorem lJ (g : Pa) (hg : PaOk g) (P : List Int) (hP : PickOk g P) (v : Nat) (hv : v < g.prio.length) (ho : gi g.ar.own v = gi (bL g) v) (i : Int) (hi : gi (bL g) v = i) : dx Tryz.prog 50 (fun ν=>[.agg [.c (.I g.ar.own),.c (.I g.prio),.c (.R g.ar.nxt),.c (.R (dE g).prev),.sl (ν 0)],.c (.B (gP (bL g) i)),.c (.int .i64 v)]) [.arr 2 .yes (.I P)] [.arr 2 .yes (.I (P.set v (wY g (bL g) P v)))] [] (fun _=>.c (.int .i64 (gO g (bL g) v P (gr g.ar.nxt v)))):=by
 subst hi
 exact sY g hg P hP v hv ho
set_option maxHeartbeats 4000000 in
theorem nM (g : Pa) (ps : List Int) (h : wX g ps) (hOf : rJ g) : aO Tryz.prog 26 [paA g,.c (.I ps)] [.arr 2 .yes (.I (bL g)),.arr 2 .yes (.I (iT g (bL g) ps g.prio.length))] (fun ns=>.tup [.agg [.sl (ns.getD 0 0),.sl (ns.getD 1 0)],.c (.bool true)]):=by
 have hp:=sW h
 have h1:=pn g ps
 rw [aP h.1] at h1
 obtain ⟨⟨⟨hg,hps⟩,hw⟩,ho⟩:=h
 have hl:=hg.len
 have hle:=hg.ar.le
 have hln:=hg.ar.len
 have hpl:=hps.1
 have hwl:=eO g
 have h3:=nG g hg
 unfold rJ at hOf
 have hgp : (dE g).pick.length = g.prio.length:=cr _ _
 (refine bj ap Tryz.func26 rfl rfl (by kernel_rfl) fun hp0 ν hX hN=>?_;simp only [bU,Nat.reduceAdd])
 (repeat' (first|(with_reducible first|(apply hK;clear hK K)|refine stZ ?_|refine aD rfl ?_|((first|apply ae|apply af);clear ae X af Y))|(with_reducible refine aG ?_;first|refine aE rfl ?_|refine aF rfl ?_)|(with_reducible refine aX ?_;first|refine aL rfl rfl rfl rfl ?_|refine aW rfl rfl rfl ?_|refine bm rfl rfl rfl rfl ?_)|(with_reducible refine ba ?_;first|refine bh rfl rfl rfl rfl ?_|refine bw rfl rfl rfl ?_|refine bH rfl rfl rfl rfl ?_|refine bd hN ?_)|((first|(with_reducible first|((first|refine aJ ?_|refine bf ?_|refine aK ?_|refine bg ?_);intro K hK)|(refine am ?_;intro X Y ae af)|refine ao ?_)|(with_reducible refine aX ?_;refine aM rfl rfl fun X Y ae af=>?_)|(with_reducible refine ba ?_;refine bi rfl rfl fun X Y ae af=>?_));simp (disch:=first|decide|omega|(simp only [List.length_cons,List.length_nil];omega)) only [go_sem,↓aj hN,ak hN,reduceIte,reduceCtorEq,Nat.reduceAdd,Nat.reduceLT,Nat.reduceLeDiff,Nat.reduceEqDiff,Nat.reduceSub])|(with_reducible refine And.intro (fun h=>?_) (fun h=>?_) <;> try (exfalso;omega))|(with_reducible refine aI ap hN ?_)|(with_reducible refine aC ap hN ?_)|(refine bW h1 ?_ rfl (fun _=>rfl) ?_)|(refine bW h3 ?_ rfl (fun _=>rfl) ?_)|(refine dq hOf ?_ rfl rfl ?_)|(with_reducible first|exact bt|refine bc ?_ ?_|exact cm _|refine bF ?_|exact bB _|exact bT _ _|refine bS ?_|exact bz _)|exact bG hN rfl rfl|(refine bR hN rfl ?_;first|exact aU _|exact aV _)|exact bA rfl rfl rfl|(simp only [aZ,List.map_nil])|(with_reducible refine aY ?_)|(with_reducible refine And.intro ?_ ?_)|(refine ah ?_;omega)|(exact aH hN (by decide))))
 (refine bN (fun (k : Nat)=>(tmL [(8,.c (.int .i64 k)),(7,.ad (ν 4) 0),(6,.sl (ν 2)),(4,.ad (ν 1) 0),(2,.ad (ν 0) 0),(1,.c (.I ps))],hpL hp0 ν [.box [.c (.I g.ar.own),.c (.R g.ar.nxt),.c (.I g.prio)],.box [.c .nul,.c .nul],.arr 2 .yes (.I (bL g)),.arr 2 .yes (.I (tab g.prio.length fun v=>if v < k then gi ps v else -1)),.box [.c (.I g.ar.own),.c (.I g.prio),.c (.R g.ar.nxt),.c (.R (dE g).prev),.sl (ν 3)]])) (fun (k : Nat)=>k ≤ ps.length) (fun (k : Nat)=>ps.length - k) ⟨0,?_,bu hX hN [] ?_ ?_⟩ ?_;(repeat' (first|(with_reducible first|exact clZ|refine bn ?_ ?_|refine bo ?_ ?_|rfl|refine suZ ?_)|refine bp rfl ?_ ?_|exact aR hN _ rfl rfl rfl|exact aS hN _ rfl rfl rfl|exact ay hN _ rfl rfl rfl (Or.inr rfl)|(refine aT hN _ rfl rfl (by first|exact Or.inr rfl|exact Or.inl rfl) ?_;first|exact aU _|exact aV _)|refine az hN rfl ?_|refine aA hN rfl rfl ?_|exact ax hN _ rfl rfl|exact au hN rfl rfl rfl rfl|(with_reducible first|refine stZ ?_|refine aQ ?_)));(try (any_goals (first|(with_reducible rfl)|(refine ah ?_;omega)))))
 · exact cx fun j hj=>if_neg (by omega)
 intro k hk
 have hfk : k < ps.length → ¬ gi ps k = -1 → gi g.ar.own k = gi (bL g) k:=fun h1 h2=>ho k h1 (by
  rcases hps.2 k h1 with e|e
  · exact absurd e h2
  · obtain ⟨t,ht,e'⟩:=cR e
    have:=eR hg (by omega) ht
    omega)
 have htl:=cr g.prio.length fun v=>if v < k then gi ps v else (-1 : Int)
 (repeat' (first|(with_reducible first|(apply hK;clear hK K)|refine stZ ?_|refine aD rfl ?_|((first|apply ae|apply af);clear ae X af Y))|(with_reducible refine aG ?_;first|refine aE rfl ?_|refine aF rfl ?_)|(with_reducible refine aX ?_;first|refine aL rfl rfl rfl rfl ?_|refine aW rfl rfl rfl ?_|refine bm rfl rfl rfl rfl ?_)|(with_reducible refine ba ?_;first|refine bh rfl rfl rfl rfl ?_|refine bw rfl rfl rfl ?_|refine bH rfl rfl rfl rfl ?_|refine bd hN ?_)|((first|(with_reducible first|((first|refine aJ ?_|refine bf ?_|refine aK ?_|refine bg ?_);intro K hK)|(refine am ?_;intro X Y ae af)|refine ao ?_)|(with_reducible refine aX ?_;refine aM rfl rfl fun X Y ae af=>?_)|(with_reducible refine ba ?_;refine bi rfl rfl fun X Y ae af=>?_));simp (disch:=first|decide|omega|(simp only [List.length_cons,List.length_nil];omega)) only [go_sem,↓aj hN,ak hN,reduceIte,reduceCtorEq,Nat.reduceAdd,Nat.reduceLT,Nat.reduceLeDiff,Nat.reduceEqDiff,Nat.reduceSub])|(with_reducible refine And.intro (fun h=>?_) (fun h=>?_) <;> try (exfalso;omega))|(with_reducible refine aI ap hN ?_)|(with_reducible refine aC ap hN ?_)|(refine bW (lH (bL g) 0 (by omega)) ?_ rfl (fun _=>rfl) ?_;focus ((repeat' (first|(with_reducible first|exact bt|refine bc ?_ ?_|exact cm _|refine bF ?_|exact bB _|exact bT _ _|refine bS ?_|exact bz _)|exact bG hN rfl rfl|(refine bR hN rfl ?_;first|exact aU _|exact aV _)|exact bA rfl rfl rfl));done))|(refine bW (lH (bL g) 1 (by omega)) ?_ rfl (fun _=>rfl) ?_;focus ((repeat' (first|(with_reducible first|exact bt|refine bc ?_ ?_|exact cm _|refine bF ?_|exact bB _|exact bT _ _|refine bS ?_|exact bz _)|exact bG hN rfl rfl|(refine bR hN rfl ?_;first|exact aU _|exact aV _)|exact bA rfl rfl rfl));done))|(with_reducible first|exact bt|refine bc ?_ ?_|exact cm _|refine bF ?_|exact bB _|exact bT _ _|refine bS ?_|exact bz _)|exact bG hN rfl rfl|(refine bR hN rfl ?_;first|exact aU _|exact aV _)|exact bA rfl rfl rfl|(simp only [aZ,List.map_nil])|(with_reducible refine aY ?_)|(with_reducible refine And.intro ?_ ?_)|(refine ah ?_;omega)|(exact aH hN (by decide))))
 · (refine ⟨k + 1,⟨?_,?_⟩,bu hX hN [] ?_ ?_⟩;(try any_goals dsimp only);(repeat' (first|(with_reducible first|exact clZ|refine bn ?_ ?_|refine bo ?_ ?_|rfl|refine suZ ?_)|refine bp rfl ?_ ?_|exact aR hN _ rfl rfl rfl|exact aS hN _ rfl rfl rfl|exact ay hN _ rfl rfl rfl (Or.inr rfl)|(refine aT hN _ rfl rfl (by first|exact Or.inr rfl|exact Or.inl rfl) ?_;first|exact aU _|exact aV _)|refine az hN rfl ?_|refine aA hN rfl rfl ?_|exact ax hN _ rfl rfl|exact au hN rfl rfl rfl rfl|(with_reducible first|refine stZ ?_|refine aQ ?_)));(try (any_goals (first|(with_reducible rfl)|(refine ah ?_;omega)))))
   exact iS (by omega) rfl
 · (refine ⟨k + 1,⟨?_,?_⟩,bu hX hN [] ?_ ?_⟩;(try any_goals dsimp only);(repeat' (first|(with_reducible first|exact clZ|refine bn ?_ ?_|refine bo ?_ ?_|rfl|refine suZ ?_)|refine bp rfl ?_ ?_|exact aR hN _ rfl rfl rfl|exact aS hN _ rfl rfl rfl|exact ay hN _ rfl rfl rfl (Or.inr rfl)|(refine aT hN _ rfl rfl (by first|exact Or.inr rfl|exact Or.inl rfl) ?_;first|exact aU _|exact aV _)|refine az hN rfl ?_|refine aA hN rfl rfl ?_|exact ax hN _ rfl rfl|exact au hN rfl rfl rfl rfl|(with_reducible first|refine stZ ?_|refine aQ ?_)));(try (any_goals (first|(with_reducible rfl)|(refine ah ?_;omega)))))
   exact iS (by omega) rfl
 have htp : (tab g.prio.length fun v=>if v < k then gi ps v else (-1 : Int)) = iT g (bL g) ps 0:=(fv (by omega)).trans (kU hpl fun j hj=>rfl).symm
 rw [htp]
 clear hfk htl htp hk
 (refine bN (fun (k : Nat)=>(tmL [(11,.c (.int .i64 k)),(9,.sl (ν 5)),(10,.sl (ν 6)),(7,.ad (ν 4) 0),(6,.sl (ν 2)),(4,.ad (ν 1) 0),(2,.ad (ν 0) 0)],hpL hp0 ν [.box [.c (.I g.ar.own),.c (.R g.ar.nxt),.c (.I g.prio)],.box [.c .nul,.c .nul],.arr 2 .yes (.I (bL g)),.arr 2 .yes (.I (iT g (bL g) ps k)),.box [.c (.I g.ar.own),.c (.I g.prio),.c (.R g.ar.nxt),.c (.R (dE g).prev),.sl (ν 3)],.arr 4 .yes (.B (gP (bL g) 0)),.arr 4 .yes (.B (gP (bL g) 1))])) (fun (k : Nat)=>k ≤ g.prio.length) (fun (k : Nat)=>g.prio.length - k) ⟨0,?_,bu hX hN [] ?_ ?_⟩ ?_;(repeat' (first|(with_reducible first|exact clZ|refine bn ?_ ?_|refine bo ?_ ?_|rfl|refine suZ ?_)|refine bp rfl ?_ ?_|exact aR hN _ rfl rfl rfl|exact aS hN _ rfl rfl rfl|exact ay hN _ rfl rfl rfl (Or.inr rfl)|(refine aT hN _ rfl rfl (by first|exact Or.inr rfl|exact Or.inl rfl) ?_;first|exact aU _|exact aV _)|refine az hN rfl ?_|refine aA hN rfl rfl ?_|exact ax hN _ rfl rfl|exact au hN rfl rfl rfl rfl|(with_reducible first|refine stZ ?_|refine aQ ?_)));(try (any_goals (first|(with_reducible rfl)|(refine ah ?_;omega)))))
 intro k hk
 have hPok:=uI hg hp k hk
 have hPl:=hPok.pk.1
 have hstep : iT g (bL g) ps (k + 1) = rI g (bL g) (iT g (bL g) ps k) k:=rfl
 generalize hP : iT g (bL g) ps k = P at *
 (repeat' (first|(with_reducible first|(apply hK;clear hK K)|refine stZ ?_|refine aD rfl ?_|((first|apply ae|apply af);clear ae X af Y))|(with_reducible refine aG ?_;first|refine aE rfl ?_|refine aF rfl ?_)|(with_reducible refine aX ?_;first|refine aL rfl rfl rfl rfl ?_|refine aW rfl rfl rfl ?_|refine bm rfl rfl rfl rfl ?_)|(with_reducible refine ba ?_;first|refine bh rfl rfl rfl rfl ?_|refine bw rfl rfl rfl ?_|refine bH rfl rfl rfl rfl ?_|refine bd hN ?_)|((first|(with_reducible first|((first|refine aJ ?_|refine bf ?_|refine aK ?_|refine bg ?_);intro K hK)|(refine am ?_;intro X Y ae af)|refine ao ?_)|(with_reducible refine aX ?_;refine aM rfl rfl fun X Y ae af=>?_)|(with_reducible refine ba ?_;refine bi rfl rfl fun X Y ae af=>?_));simp (disch:=first|decide|omega|(simp only [List.length_cons,List.length_nil];omega)) only [go_sem,↓aj hN,ak hN,reduceIte,reduceCtorEq,Nat.reduceAdd,Nat.reduceLT,Nat.reduceLeDiff,Nat.reduceEqDiff,Nat.reduceSub])|(with_reducible refine And.intro (fun h=>?_) (fun h=>?_) <;> try (exfalso;omega))|(with_reducible refine aI ap hN ?_)|(with_reducible refine aC ap hN ?_)|(refine dm (lJ g hg P hPok k (by omega) (cj (by assumption)).symm 0 (uP (by omega) (by assumption))) hN 3 rfl rfl rfl rfl rfl ?_ ?_ ?_ ?_;(focus (simp [bv,AV.names];done));(focus (intro ν' hν;(repeat' (first|exact ArgMs.nil|refine ArgMs.cons ?_ ?_|exact gR hν|exact gS hν|exact jx _|exact i5 (by first|exact bB _|exact bz _|exact bA rfl rfl rfl) rfl|(refine gT hN rfl ?_ (by decide);first|exact aU _|exact aV _)|refine d8 ?_));done));(focus (first|exact Or.inr ⟨rfl,rfl,fun _=>rfl⟩|exact Or.inl (by simp [bv,AV.names]))))|(refine dm (lJ g hg P hPok k (by omega) (cj (by assumption)).symm 1 (by assumption)) hN 3 rfl rfl rfl rfl rfl ?_ ?_ ?_ ?_;(focus (simp [bv,AV.names];done));(focus (intro ν' hν;(repeat' (first|exact ArgMs.nil|refine ArgMs.cons ?_ ?_|exact gR hν|exact gS hν|exact jx _|exact i5 (by first|exact bB _|exact bz _|exact bA rfl rfl rfl) rfl|(refine gT hN rfl ?_ (by decide);first|exact aU _|exact aV _)|refine d8 ?_));done));(focus (first|exact Or.inr ⟨rfl,rfl,fun _=>rfl⟩|exact Or.inl (by simp [bv,AV.names]))))|(with_reducible first|exact bt|refine bc ?_ ?_|exact cm _|refine bF ?_|exact bB _|exact bT _ _|refine bS ?_|exact bz _)|exact bG hN rfl rfl|(refine bR hN rfl ?_;first|exact aU _|exact aV _)|exact bA rfl rfl rfl|(simp only [aZ,List.map_nil])|(with_reducible refine aY ?_)|(simp (disch:=first|decide|omega|(simp only [List.length_cons,List.length_nil];omega)) only [aZ,List.map_cons,List.map_nil,ak hN,List.set_cons_zero,List.set_cons_succ])|(with_reducible refine And.intro ?_ ?_)|(refine ah ?_;omega)|(exact aH hN (by decide))))
 · (refine ⟨k + 1,⟨?_,?_⟩,bu hX hN [] ?_ ?_⟩;(try any_goals dsimp only);(repeat' (first|(with_reducible first|exact clZ|refine bn ?_ ?_|refine bo ?_ ?_|rfl|refine suZ ?_)|refine bp rfl ?_ ?_|exact aR hN _ rfl rfl rfl|exact aS hN _ rfl rfl rfl|exact ay hN _ rfl rfl rfl (Or.inr rfl)|(refine aT hN _ rfl rfl (by first|exact Or.inr rfl|exact Or.inl rfl) ?_;first|exact aU _|exact aV _)|refine az hN rfl ?_|refine aA hN rfl rfl ?_|exact ax hN _ rfl rfl|exact au hN rfl rfl rfl rfl|(with_reducible first|refine stZ ?_|refine aQ ?_)));(try (any_goals (first|(with_reducible rfl)|(refine ah ?_;omega)))))
   rw [hstep]
   exact if_neg fun c=>absurd c.2 (by omega)
 · (refine ⟨k + 1,⟨?_,?_⟩,bu hX hN [] ?_ ?_⟩;(try any_goals dsimp only);(repeat' (first|(with_reducible first|exact clZ|refine bn ?_ ?_|refine bo ?_ ?_|rfl|refine suZ ?_)|refine bp rfl ?_ ?_|exact aR hN _ rfl rfl rfl|exact aS hN _ rfl rfl rfl|exact ay hN _ rfl rfl rfl (Or.inr rfl)|(refine aT hN _ rfl rfl (by first|exact Or.inr rfl|exact Or.inl rfl) ?_;first|exact aU _|exact aV _)|refine az hN rfl ?_|refine aA hN rfl rfl ?_|exact ax hN _ rfl rfl|exact au hN rfl rfl rfl rfl|(with_reducible first|refine stZ ?_|refine aQ ?_)));(try (any_goals (first|(with_reducible rfl)|(refine ah ?_;omega)))))
   rw [hstep]
   exact if_neg fun c=>absurd c.1.symm (by assumption)
 · (refine ⟨k + 1,⟨?_,?_⟩,bu hX hN [] ?_ ?_⟩;(try any_goals dsimp only);(repeat' (first|(with_reducible first|exact clZ|refine bn ?_ ?_|refine bo ?_ ?_|rfl|refine suZ ?_)|refine bp rfl ?_ ?_|exact aR hN _ rfl rfl rfl|exact aS hN _ rfl rfl rfl|exact ay hN _ rfl rfl rfl (Or.inr rfl)|(refine aT hN _ rfl rfl (by first|exact Or.inr rfl|exact Or.inl rfl) ?_;first|exact aU _|exact aV _)|refine az hN rfl ?_|refine aA hN rfl rfl ?_|exact ax hN _ rfl rfl|exact au hN rfl rfl rfl rfl|(with_reducible first|refine stZ ?_|refine aQ ?_)));(try (any_goals (first|(with_reducible rfl)|(refine ah ?_;omega)))))
   rw [hstep,List.set_set]
   exact if_pos ⟨(cj (by assumption)).symm,by omega⟩
 · (refine ⟨k + 1,⟨?_,?_⟩,bu hX hN [] ?_ ?_⟩;(try any_goals dsimp only);(repeat' (first|(with_reducible first|exact clZ|refine bn ?_ ?_|refine bo ?_ ?_|rfl|refine suZ ?_)|refine bp rfl ?_ ?_|exact aR hN _ rfl rfl rfl|exact aS hN _ rfl rfl rfl|exact ay hN _ rfl rfl rfl (Or.inr rfl)|(refine aT hN _ rfl rfl (by first|exact Or.inr rfl|exact Or.inl rfl) ?_;first|exact aU _|exact aV _)|refine az hN rfl ?_|refine aA hN rfl rfl ?_|exact ax hN _ rfl rfl|exact au hN rfl rfl rfl rfl|(with_reducible first|refine stZ ?_|refine aQ ?_)));(try (any_goals (first|(with_reducible rfl)|(refine ah ?_;omega)))))
   rw [hstep,List.set_set]
   exact if_pos ⟨(cj (by assumption)).symm,by omega⟩
 · (refine fA hN [2,3] (by decide) (.inr rfl) (by first|exact co rfl rfl|exact ce hN rfl rfl rfl rfl|exact bZ hN rfl rfl rfl rfl rfl|(simp (disch:=first|decide|omega|(simp only [List.length_cons,List.length_nil];omega)) only [bI,bJ,bK,bM,go_sem,beq_self_eq_true,↓aB,↓aj hN,ak hN,reduceIte,reduceCtorEq,Nat.reduceAdd,Nat.reduceLT,Nat.reduceLeDiff,Nat.reduceEqDiff,Nat.reduceSub];rfl)|rfl) ?_ fun νs hνs=>?_;(repeat' (first|exact Gone.nil|(refine Gone.cons rfl rfl ?_ ?_)|(with_reducible refine dS ?_)|(with_reducible refine dR ?_)|(with_reducible refine SVs.cons ?_ ?_)|(with_reducible exact SVs.nil)|(simp only [List.drop,List.take])|(simp (disch:=first|decide|omega) only [↓aB,reduceIte,reduceCtorEq,Nat.reduceEqDiff])|(with_reducible exact i4 _)|(with_reducible exact dP _)|(exact dQ rfl rfl rfl)|(exact eJ 0 (by simp) rfl rfl)|(exact eJ 1 (by simp) rfl rfl)|(refine fy hN rfl (dT hN (by decide)) ?_)|(with_reducible refine fx ?_)|(with_reducible rfl)|(with_reducible refine i6 ?_)|(with_reducible refine i7 ?_)|(with_reducible refine i8 ?_)|(with_reducible refine iN ?_)|(with_reducible refine eK ?_)|(refine ah ?_;omega))))
   all_goals first|rfl|(rw [← hP,show k = g.prio.length by omega])
end Go.Proofs.YtiadchinhofieaaGreat
